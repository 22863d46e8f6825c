/-
  Parts of the proof of FnExactEliminateLabels: laws of heaps, contracts of functions.
  Conditions: none.
-/
import Derived.Test.YtmddmahaikineaaGreatQEliminateLabels5
namespace Go.Proofs.YtmddmahaikineaaGreat
set_option maxRecDepth 100000
open Go.RowKit
def closedL (ts : List Ten) (op : List Int) : List Int := (labelsL ts).filter fun x => decide (x ∉ op)
theorem closed_mem {ts : List Ten} {op : List Int} {x : Int} (h : x ∈ closedL ts op) : (0 ≤ x ∧ x ≤ 99) ∧ 1 ≤ dimOf ts x := by
  have h1 := (List.mem_filter.1 h).1; have := mem_labels.1 h1
  omega
theorem ct_s_l21Closed (k p n : Int) (ts : List Ten) (op : List Int) (vt vo : Value) (w : World) (r : TensR ts vt (hp w)) (r' : IntsR op vo (hp w)) (hok : ∀ t ∈ ts, AxOK t) :
    Calls Tryz.prog 156 [netV k p n vt vo].toArray w (Ret w emp (IntsO (closedL ts op))) := by
  have hll : (labelsL ts).length ≤ 100 := labels_len ts 100; refine calls_in Tryz.func156 rfl Tryz.ntmps156 rfl (Sat.start w) ?_; have hle0 := r.le; obtain ⟨cs_r, rr_r, hc_r⟩ := r.at; have hle1 := r'.le; refine wp_sc (wp_sq ?_); refine sq_x rfl (x_box rfl rfl) rfl ?_; rintro _ _ ⟨b1, rfl, rfl⟩; refine sq_v rfl (v_assign rfl) rfl (sq_end (qs_n (wp_sc (wp_sq ?_)))); refine sq_x rfl (x_build0 Tryz.underlying25 ty_3) rfl ?_; intro v6 h6 (r6 : IntsO [] v6 h6); refine sq_v rfl (v_assign rfl) rfl (sq_end (qs_n (wp_sc (wp_sc (wp_sq (sq_v rfl (v_fieldAddr fd_32_1 ty_30 (by decide) rfl) rfl (sq_v rfl (v_loadB 1 ty_30 rfl rfl rfl) rfl ?_))))))); refine sq_x rfl (x_call rfl en_104 (fun w s => ct_s_l12Labels _ _ w (r.mono (s.get 2 rfl)) (by first | assumption | omega))) rfl ?_; rintro v9 h9 r9; refine sq_v rfl (v_len Tryz.underlying25 rfl r9.toR.sl) rfl (sq_v rfl (v_move rfl) rfl (sq_end (qs_n (wp_bl ?_)))); refine wp_lp (σ := Nat × Value × PH) (fun z_ => [(1, .pointer (some ⟨b1, 0, none⟩)), (2, .slice none 0 0), (3, z_.2.1), (9, v9), (10, num (labelsL ts).length), (11, num z_.1)]) (fun z_ => [z_.2.2, h9, box b1 [num k, num p, num n, vt, vo] 32, hp w]) (fun z_ => z_.1 ≤ (labelsL ts).length ∧ IntsO (((labelsL ts).take z_.1).filter fun x => decide (x ∉ op)) z_.2.1 z_.2.2) (fun z_ => (labelsL ts).length - z_.1) (0, v6, h6) (⟨by (try dsimp only); omega, r6⟩) ⟨rfl, rfl, (by first | rfl | exact ksub rfl (by first | omega | (simp; done) | (simp; omega))), rfl, rfl, (by first | rfl | exact ksub rfl (by first | omega | (simp; done) | (simp; omega))), trivial⟩ (fun _ s => s.pick [1, 0, 2, 3] (by decide) rfl) ?_; rintro ⟨i, lv, lh⟩ ⟨hi, q⟩; dsimp only at hi q ⊢; have hle_q := q.toR.le; have hfl := filter_take_len (labelsL ts) (fun x => decide (x ∉ op)) i; have hmem := findI_ge (xs := op) (n := (labelsL ts).getD i 0); refine wp_sc (wp_sq (sq_v rfl (v_lss rfl rfl) rfl (sq_end (qs_n (wp_sc ?_))))); refine wp_cd rfl (fun c12 => ?_) (fun c12 => ?_)
  · refine wp_sk (qs_n (wp_sc (wp_bl (wp_sc (wp_sq ?_))))); refine sq_v rfl (v_idxI Tryz.underlying25 ty_3 rfl rfl r9.toR (by first | omega | (simp; omega) | (simp only [List.length_append, List.length_cons, List.length_nil]; omega) | (rw [List.length_set]; omega)) (by first | omega | (simp; omega) | (simp only [List.length_append, List.length_cons, List.length_nil]; omega) | (rw [List.length_set]; omega))) rfl ?_; refine sq_v rfl (v_loadI (k := i) 1 ty_3 rfl rfl r9.toR (by first | omega | (simp; omega) | (simp only [List.length_append, List.length_cons, List.length_nil]; omega) | (rw [List.length_set]; omega))) rfl ?_; refine sq_v rfl (v_assign rfl) rfl (sq_end (qs_n (wp_sc (wp_sq (sq_v rfl (v_fieldAddr fd_32_2 ty_25 (by decide) rfl) rfl (sq_v rfl (v_loadB 2 ty_25 rfl rfl rfl) rfl (sq_v rfl (v_move rfl) rfl (sq_u rfl (x_callv rfl en_71 (fun w s => ct_s_l05Find _ _ _ w (r'.mono (s.get 3 rfl)))) rfl (sq_v rfl (v_lss rfl rfl) rfl (sq_end (qs_n ?_))))))))))); refine wp_cd rfl (fun c19 => ?_) (fun c19 => ?_)
    · refine wp_sq (sq_v rfl (v_move rfl) rfl (sq_v rfl (v_move rfl) rfl ?_)); refine sq_x rfl (x_buildS [num ((labelsL ts).getD i 0)] Tryz.underlying25 ty_3 (by decide) rfl rfl rfl (by decide) (by decide) (by intro v hv; simp at hv; rcases hv with rfl <;> rfl)) rfl ?_; intro v22 h22 (r22 : IntsO [(labelsL ts).getD i 0] v22 h22); refine sq_m 1 rfl rfl (m_appI 1 0 Tryz.underlying25 ty_3 rfl rfl rfl rfl q rfl r22.toR (by first | omega | (simp; omega) | (simp only [List.length_append, List.length_cons, List.length_nil]; omega) | (rw [List.length_set]; omega))) rfl ?_; intro v23 h_r23 r23; refine sq_v rfl (v_assign rfl) rfl (sq_end (qs_bn (qs_n (wp_sq ?_)))); refine sq_v rfl (v_add rfl rfl ((by unfold I64; omega))) rfl ?_; refine sq_v rfl (v_move rfl) rfl (sq_end ?_); exact qs_bk (i + 1, v23, h_r23) ⟨by (try dsimp only); omega, by (try dsimp only); rw [filter_yes (by omega) (by simpa using fun h => by have := hmem.2 h; omega)]; exact r23⟩ (by simp only; omega) ⟨rfl, rfl, (by first | rfl | exact ksub rfl (by first | omega | (simp; done) | (simp; omega))), rfl, rfl, (by first | rfl | exact ksub rfl (by first | omega | (simp; done) | (simp; omega))), trivial⟩ (fun _ s => s.pick [1, 2, 3, 4] (by decide) rfl)
    · refine wp_sk (qs_bn (qs_n (wp_sq ?_))); refine sq_v rfl (v_add rfl rfl ((by unfold I64; omega))) rfl ?_; refine sq_v rfl (v_move rfl) rfl (sq_end ?_); exact qs_bk (i + 1, lv, lh) ⟨by (try dsimp only); omega, by (try dsimp only); rw [filter_no (by omega) (by simpa using hmem.1 (by omega))]; exact q⟩ (by simp only; omega) ⟨rfl, rfl, (by first | rfl | exact ksub rfl (by first | omega | (simp; done) | (simp; omega))), rfl, rfl, (by first | rfl | exact ksub rfl (by first | omega | (simp; done) | (simp; omega))), trivial⟩ (fun _ s => s)
  · refine wp_ex (qs_x (qs_x (qs_bx (qs_n (wp_sc (wp_sq (sq_v rfl (v_move rfl) rfl (sq_v rfl (v_assign rfl) rfl (sq_end (qs_n (wp_rt ?_))))))))))); exact qs_ret1 rfl rfl (fin_t 0 (i := 3) rfl rfl rfl (by rw [List.take_of_length_le (by omega)] at q; exact q))
theorem ct_i_ClosedLabels (k p n : Int) (ts : List Ten) (op : List Int) (vt vo : Value) (w : World) (r : TensR ts vt (hp w)) (r' : IntsR op vo (hp w)) (hs : op.length ≤ 1048576) (hnet : netL k p n ts op) :
    Calls Tryz.prog 160 [netV k p n vt vo].toArray w (Ret w emp (IntsO (closedL ts op))) := by
  have hll : (labelsL ts).length ≤ 100 := labels_len ts 100; have e9 : labelsOf k p n ts op = labelsL ts := if_pos hnet; refine calls_in Tryz.func160 rfl Tryz.ntmps160 rfl (Sat.start w) ?_; have hle0 := r.le; obtain ⟨cs_r, rr_r, hc_r⟩ := r.at; have hle1 := r'.le; refine wp_sc (wp_sq ?_); refine sq_x rfl (x_box rfl rfl) rfl ?_; rintro _ _ ⟨b1, rfl, rfl⟩; refine sq_v rfl (v_assign rfl) rfl (sq_end (qs_n (wp_sc (wp_sq (sq_v rfl (v_assign rfl) rfl (sq_end (qs_n (wp_sc (wp_sc (wp_sq (sq_v rfl (v_loadNB 0 ty_32 rfl rfl rfl rfl) rfl ?_))))))))))); refine sq_x rfl (x_call rfl en_110 (fun w s => ct_i_LabelsOf _ _ _ _ _ _ _ w (r.mono (s.get 1 rfl)) (r'.mono (s.get 1 rfl)) (by first | assumption | omega))) rfl ?_; rintro v7 h7 r7; rw [e9] at r7; refine sq_v rfl (v_len Tryz.underlying25 rfl r7.toR.sl) rfl (sq_v rfl (v_move rfl) rfl (sq_end (qs_n (wp_bl ?_)))); refine wp_lp (σ := Nat × Value × PH) (fun z_ => [(1, .pointer (some ⟨b1, 0, none⟩)), (2, .slice none 0 0), (3, z_.2.1), (7, v7), (8, num (labelsL ts).length), (9, num z_.1)]) (fun z_ => [z_.2.2, h7, box b1 [num k, num p, num n, vt, vo] 32, hp w]) (fun z_ => z_.1 ≤ (labelsL ts).length ∧ IntsO (((labelsL ts).take z_.1).filter fun x => decide (x ∉ op)) z_.2.1 z_.2.2) (fun z_ => (labelsL ts).length - z_.1) (0, .slice none 0 0, emp) (⟨by (try dsimp only); omega, IntsO.nil⟩) ⟨rfl, rfl, (by first | rfl | exact ksub rfl (by first | omega | (simp; done) | (simp; omega))), rfl, rfl, (by first | rfl | exact ksub rfl (by first | omega | (simp; done) | (simp; omega))), trivial⟩ (fun _ s => (emp_sat s)) ?_; rintro ⟨i, lv, lh⟩ ⟨hi, q⟩; dsimp only at hi q ⊢; have hle_q := q.toR.le; have hfl := filter_take_len (labelsL ts) (fun x => decide (x ∉ op)) i; refine wp_sc (wp_sq (sq_v rfl (v_lss rfl rfl) rfl (sq_end (qs_n (wp_sc ?_))))); refine wp_cd rfl (fun c10 => ?_) (fun c10 => ?_)
  · refine wp_sk (qs_n (wp_sc (wp_bl (wp_sc (wp_sq ?_))))); refine sq_v rfl (v_idxI Tryz.underlying25 ty_3 rfl rfl r7.toR (by first | omega | (simp; omega) | (simp only [List.length_append, List.length_cons, List.length_nil]; omega) | (rw [List.length_set]; omega)) (by first | omega | (simp; omega) | (simp only [List.length_append, List.length_cons, List.length_nil]; omega) | (rw [List.length_set]; omega))) rfl ?_; refine sq_v rfl (v_loadI (k := i) 1 ty_3 rfl rfl r7.toR (by first | omega | (simp; omega) | (simp only [List.length_append, List.length_cons, List.length_nil]; omega) | (rw [List.length_set]; omega))) rfl ?_; refine sq_v rfl (v_assign rfl) rfl (sq_end (qs_n (wp_sc (wp_sq (sq_v rfl (v_fieldAddr fd_32_2 ty_25 (by decide) rfl) rfl (sq_v rfl (v_loadB 2 ty_25 rfl rfl rfl) rfl (sq_v rfl (v_move rfl) rfl (sq_u rfl (x_callv rfl en_152 (fun w s => ct_i_hasInt _ _ _ w (r'.mono (s.get 3 rfl)))) rfl (sq_v rfl (v_not rfl) rfl (sq_end (qs_n ?_))))))))))); refine wp_cnd rfl (fun c17 => ?_) (fun c17 => ?_)
    · refine wp_sq (sq_v rfl (v_move rfl) rfl (sq_v rfl (v_move rfl) rfl ?_)); refine sq_x rfl (x_buildS [num ((labelsL ts).getD i 0)] Tryz.underlying25 ty_3 (by decide) rfl rfl rfl (by decide) (by decide) (by intro v hv; simp at hv; rcases hv with rfl <;> rfl)) rfl ?_; intro v20 h20 (r20 : IntsO [(labelsL ts).getD i 0] v20 h20); refine sq_m 1 rfl rfl (m_appI 1 0 Tryz.underlying25 ty_3 rfl rfl rfl rfl q rfl r20.toR (by first | omega | (simp; omega) | (simp only [List.length_append, List.length_cons, List.length_nil]; omega) | (rw [List.length_set]; omega))) rfl ?_; intro v21 h_r21 r21; refine sq_v rfl (v_assign rfl) rfl (sq_end (qs_bn (qs_n (wp_sq ?_)))); refine sq_v rfl (v_add rfl rfl ((by unfold I64; omega))) rfl ?_; refine sq_v rfl (v_move rfl) rfl (sq_end ?_); exact qs_bk (i + 1, v21, h_r21) ⟨by (try dsimp only); omega, by (try dsimp only); rw [filter_yes (by omega) (by simpa using c17)]; exact r21⟩ (by simp only; omega) ⟨rfl, rfl, (by first | rfl | exact ksub rfl (by first | omega | (simp; done) | (simp; omega))), rfl, rfl, (by first | rfl | exact ksub rfl (by first | omega | (simp; done) | (simp; omega))), trivial⟩ (fun _ s => s.pick [1, 2, 3, 4] (by decide) rfl)
    · refine wp_sk (qs_bn (qs_n (wp_sq ?_))); refine sq_v rfl (v_add rfl rfl ((by unfold I64; omega))) rfl ?_; refine sq_v rfl (v_move rfl) rfl (sq_end ?_); exact qs_bk (i + 1, lv, lh) ⟨by (try dsimp only); omega, by (try dsimp only); rw [filter_no (by omega) (by simpa using c17)]; exact q⟩ (by simp only; omega) ⟨rfl, rfl, (by first | rfl | exact ksub rfl (by first | omega | (simp; done) | (simp; omega))), rfl, rfl, (by first | rfl | exact ksub rfl (by first | omega | (simp; done) | (simp; omega))), trivial⟩ (fun _ s => s)
  · refine wp_ex (qs_x (qs_x (qs_bx (qs_n (wp_sc (wp_sq (sq_v rfl (v_move rfl) rfl (sq_v rfl (v_assign rfl) rfl (sq_end (qs_n (wp_rt ?_))))))))))); exact qs_ret1 rfl rfl (fin_t 0 (i := 3) rfl rfl rfl (by rw [List.take_of_length_le (by omega)] at q; exact q))
end Go.Proofs.YtmddmahaikineaaGreat
namespace Go.Proofs.YtmddmahaikineaaGreat
set_option maxRecDepth 100000
open Go.RowKit
def goodT (k p n : Int) (f : Int → Int) (t : Ten) : Prop := tensorL k p n t.l t.d t.x ∧ t.d = t.l.map f
noncomputable def jnTo (k p n : Int) (t : Ten) (us : List Ten) : Nat → Ten
  | 0 => t
  | i + 1 => pairR k p n (jnTo k p n t us i) (us.getD i noTen) ((jnTo k p n t us i).l ++ (us.getD i noTen).l)
def jnFit (k p n : Int) (t : Ten) (us : List Ten) (i : Nat) : Prop := pairP k p n (jnTo k p n t us i) (us.getD i noTen) ((jnTo k p n t us i).l ++ (us.getD i noTen).l)
def jnP (k p n : Int) (t : Ten) (us : List Ten) : Prop := ∀ i, i < us.length → jnFit k p n t us i
noncomputable def jnT (k p n : Int) (t : Ten) (us : List Ten) : Ten := jnTo k p n t us us.length
theorem join_iff (t u : Ten) (x : Int) : x ∈ joinI t.l u.l ↔ x ∈ t.l ++ u.l := by rw [mem_joinI, List.mem_append]
theorem keep_all (t u : Ten) : keepL t u (t.l ++ u.l) = joinI t.l u.l := by
  unfold keepL
  exact List.filter_eq_self.2 fun x hx => decide_eq_true ((join_iff t u x).1 hx)
section
variable {k p n : Int} {f : Int → Int} {t : Ten} {us : List Ten}
theorem getD_ten {i : Nat} {u : Ten} (h : us[i]? = some u) : us.getD i noTen = u := by simp [List.getD, h]
theorem jn_good (ht : goodT k p n f t) (hu : ∀ u ∈ us, goodT k p n f u) : ∀ i, i ≤ us.length → (∀ j, j < i → jnFit k p n t us j) → goodT k p n f (jnTo k p n t us i) ∧ ∀ x, x ∈ (jnTo k p n t us i).l ↔ x ∈ t.l ∨ ∃ u ∈ us.take i, x ∈ u.l
  | 0, _, _ => ⟨ht, fun x => by simp [jnTo]⟩
  | i + 1, hi, hf => by
    obtain ⟨h1, h2⟩ := jn_good ht hu i (by omega) fun j hj => hf j (by omega); have hg : us[i]? = some us[i] := List.getElem?_eq_getElem (by omega); have hui := hu _ (List.mem_of_getElem? hg); have hp := hf i (by omega); have hp' : pairP k p n (jnTo k p n t us i) (us.getD i noTen) ((jnTo k p n t us i).l ++ (us.getD i noTen).l) := hp; rw [getD_ten hg] at hp'; obtain ⟨e1, e2, e3⟩ := pair_ten hp'; rw [keep_all] at e2 e3; rw [jnTo, getD_ten hg]; refine ⟨⟨e1, by rw [e3, e2]; exact List.map_congr_left fun x hx => dimJ_f h1.2 hui.2 hx⟩, fun x => ?_⟩; rw [e2, mem_joinI, h2, List.take_succ_eq_append_getElem (by omega)]; simp only [List.mem_append, List.mem_singleton]
    constructor
    · rintro ((h | ⟨u, hu1, hu2⟩) | h)
      · exact .inl h
      · exact .inr ⟨u, .inl hu1, hu2⟩
      · exact .inr ⟨_, .inr rfl, h⟩
    · rintro (h | ⟨u, hu1 | rfl, hu2⟩)
      · exact .inl (.inl h)
      · exact .inl (.inr ⟨u, hu1, hu2⟩)
      · exact .inr hu2
theorem jnT_good (ht : goodT k p n f t) (hu : ∀ u ∈ us, goodT k p n f u) (h : jnP k p n t us) : goodT k p n f (jnT k p n t us) ∧ ∀ x, x ∈ (jnT k p n t us).l ↔ x ∈ t.l ∨ ∃ u ∈ us, x ∈ u.l := by
  have := jn_good ht hu us.length (Nat.le_refl _) h
  rwa [List.take_length] at this
/-- The program's list of labels to keep is the reference's. -/
theorem jn_congr {i : Nat} {u : Ten} (h : us[i]? = some u) : pairR k p n (jnTo k p n t us i) u (joinI (jnTo k p n t us i).l u.l) = jnTo k p n t us (i + 1) ∧ (pairP k p n (jnTo k p n t us i) u (joinI (jnTo k p n t us i).l u.l) ↔ jnFit k p n t us i) := by
  have e := pairR_congr (k := k) (p := p) (n := n) (t := jnTo k p n t us i) (u := u) (join_iff (jnTo k p n t us i) u); rw [jnTo, jnFit, getD_ten h]; exact ⟨e.1, e.2.2⟩
end
/-- What joined tensors are answered as: new, or the first one as it was. -/
def JnR (k p n : Int) (t : Ten) (us : List Ten) (cs0 : List Value) (x : Value) (h : PH) : Prop :=
  ∃ a b c bb, x = .tuple [tenV a b c, .bool bb].toArray ∧ (bb = true ↔ jnP k p n t us) ∧ (bb = true → (us = [] ∧ [a, b, c] = cs0) ∨ TriO (jnT k p n t us) a b c h) ∧ a.oneCell' = true ∧ b.oneCell' = true ∧ c.oneCell' = true
theorem jn_or {k p n : Int} {t : Ten} {us : List Ten} {cs0 : List Value} {a b c : Value} {h X : PH} (hh : (us = [] ∧ [a, b, c] = cs0) ∨ TriO (jnT k p n t us) a b c h) (r : TenR t cs0 X) : TenR (jnT k p n t us) [a, b, c] X ∨ TriO (jnT k p n t us) a b c h := hh.imp (fun ⟨e, e2⟩ => by subst e; rw [e2]; exact r) id
theorem ten_or {T : Ten} {a b c : Value} {h X Y : PH} (hh : TenR T [a, b, c] X ∨ TriO T a b c h) (l : PLe h Y) (lx : PLe X Y) : IntsR T.l a Y ∧ IntsR T.d b Y ∧ IntsR T.x c Y := by
  rcases hh with ⟨x, y, z, e, r1, r2, r3⟩ | o
  · simp only [List.cons.injEq, and_true] at e; obtain ⟨rfl, rfl, rfl⟩ := e; exact ⟨r1.mono lx, r2.mono lx, r3.mono lx⟩
  · exact ⟨o.toR.1.mono l, o.toR.2.1.mono l, o.toR.2.2.mono l⟩
def bkL (us : List Ten) (x : Int) : List Ten := us.filter fun t => decide (x ∈ t.l)
def rsL (us : List Ten) (x : Int) : List Ten := us.filter fun t => decide (x ∉ t.l)
noncomputable def bkJ (k p n : Int) (us : List Ten) (x : Int) : Ten := jnT k p n ((bkL us x).getD 0 noTen) ((bkL us x).drop 1)
noncomputable def bkS (k p n : Int) (us : List Ten) (x : Int) : Ten := sumR k p n (bkJ k p n us x) ((bkJ k p n us x).l.filter fun y => decide (y ≠ x))
noncomputable def elTo (k p n : Int) (ts : List Ten) (ls : List Int) : Nat → List Ten
  | 0 => ts
  | i + 1 => rsL (elTo k p n ts ls i) (ls.getD i 0) ++ [bkS k p n (elTo k p n ts ls i) (ls.getD i 0)]
def elFit (k p n : Int) (ts : List Ten) (ls : List Int) (i : Nat) : Prop := jnP k p n ((bkL (elTo k p n ts ls i) (ls.getD i 0)).getD 0 noTen) ((bkL (elTo k p n ts ls i) (ls.getD i 0)).drop 1)
theorem bk_split (us : List Ten) (x : Int) : (bkL us x).length + (rsL us x).length = us.length := by
  induction us with
  | nil => rfl
  | cons t us ih =>
    unfold bkL rsL at *
    by_cases h : x ∈ t.l
    · rw [List.filter_cons_of_pos (by simpa using h), List.filter_cons_of_neg (by simpa using h)]; simp only [List.length_cons]; omega
    · rw [List.filter_cons_of_neg (by simpa using h), List.filter_cons_of_pos (by simpa using h)]; simp only [List.length_cons]; omega
theorem bk_some {us : List Ten} {x : Int} (h : ∃ u ∈ us, x ∈ u.l) : 1 ≤ (bkL us x).length := by
  obtain ⟨u, hu, hx⟩ := h; exact List.length_pos_of_mem (List.mem_filter.2 ⟨hu, decide_eq_true hx⟩)
theorem bk_mem {us : List Ten} {x : Int} (h : 1 ≤ (bkL us x).length) : (bkL us x).getD 0 noTen ∈ us ∧ (∀ u ∈ (bkL us x).drop 1, u ∈ us) ∧ ∀ u, u ∈ bkL us x ↔ u = (bkL us x).getD 0 noTen ∨ u ∈ (bkL us x).drop 1 := by
  match e : bkL us x, h with
  | a :: r, _ =>
    have hs : ∀ u ∈ a :: r, u ∈ us := fun u hu => (List.mem_filter.1 (e ▸ hu)).1; exact ⟨hs _ (by simp), fun u hu => hs _ (by simp at hu; simp [hu]), fun u => by simp⟩
section
variable {k p n : Int} {ts : List Ten} {ls op : List Int}
theorem bkS_good {f : Int → Int} {us : List Ten} {x : Int} (hu : ∀ u ∈ us, goodT k p n f u) (hx : ∃ u ∈ us, x ∈ u.l) (hf : jnP k p n ((bkL us x).getD 0 noTen) ((bkL us x).drop 1)) :
    goodT k p n f (bkJ k p n us x) ∧ goodT k p n f (bkS k p n us x) ∧ ∀ y, y ∈ (bkS k p n us x).l ↔ y ≠ x ∧ ∃ u ∈ us, x ∈ u.l ∧ y ∈ u.l := by
  have hb := bk_mem (bk_some hx); obtain ⟨h1, h2⟩ := jnT_good (hu _ hb.1) (fun u h => hu u (hb.2.1 u h)) hf; obtain ⟨s1, s2, s3⟩ := sum_ten h1.1 ((bkJ k p n us x).l.filter fun y => decide (y ≠ x)); have hm : ∀ y, y ∈ (bkS k p n us x).l ↔ y ∈ (bkJ k p n us x).l ∧ y ≠ x := fun y => by
    show y ∈ (sumR k p n (bkJ k p n us x) _).l ↔ _
    unfold bkJ
    unfold bkJ at s2
    rw [s2, mem_keep, List.mem_filter, decide_eq_true_eq]; exact ⟨fun h => h.2, fun h => ⟨.inl h.1, h⟩⟩
  refine ⟨h1, ⟨s1, ?_⟩, fun y => ?_⟩
  · show (sumR k p n _ _).d = (sumR k p n _ _).l.map f
    unfold bkJ at s2 s3 ⊢
    rw [s3, s2]; refine List.map_congr_left fun y hy => ?_; have hy1 := ((mem_keep.1 hy).1).resolve_right (by simp [oneT]); rw [dimJ_yes hy1, h1.2, map_getD (findI_get hy1).1, (findI_get hy1).2]
  · rw [hm, bkJ, h2]
    constructor
    · rintro ⟨h, hne⟩; refine ⟨hne, ?_⟩
      rcases h with h | ⟨u, hu1, hu2⟩
      · have := (hb.2.2 _).2 (.inl rfl); exact ⟨_, (List.mem_filter.1 this).1, of_decide_eq_true (List.mem_filter.1 this).2, h⟩
      · have := (hb.2.2 u).2 (.inr hu1); exact ⟨u, (List.mem_filter.1 this).1, of_decide_eq_true (List.mem_filter.1 this).2, hu2⟩
    · rintro ⟨hne, u, hu1, hu2, hu3⟩; refine ⟨?_, hne⟩
      rcases (hb.2.2 u).1 (List.mem_filter.2 ⟨hu1, decide_eq_true hu2⟩) with rfl | h
      · exact .inl hu3
      · exact .inr ⟨u, h, hu3⟩
theorem el_good (h : netL k p n ts op) (hn : ls.Nodup) (hc : ∀ x ∈ ls, ∃ t ∈ ts, x ∈ t.l) : ∀ i, i ≤ ls.length → (∀ j, j < i → elFit k p n ts ls j) →
    (∀ u ∈ elTo k p n ts ls i, goodT k p n (dimOf ts) u) ∧ (elTo k p n ts ls i).length ≤ ts.length ∧ ∀ x, (∃ u ∈ elTo k p n ts ls i, x ∈ u.l) ↔ (∃ u ∈ ts, x ∈ u.l) ∧ x ∉ ls.take i
  | 0, _, _ => ⟨fun u hu => ⟨h.2.2.1 u hu, net_dmap h u hu⟩, Nat.le_refl _, fun x => by simp [elTo]⟩
  | i + 1, hi, hf => by
    obtain ⟨h1, h2, h3⟩ := el_good h hn hc i (by omega) fun j hj => hf j (by omega); have hx : ∃ u ∈ elTo k p n ts ls i, ls.getD i 0 ∈ u.l := (h3 _).2 ⟨hc _ (mem_getD (by omega)), nodup_not_take hn (by omega)⟩; obtain ⟨g1, g2, g3⟩ := bkS_good h1 hx (hf i (by omega)); have hb := bk_some hx; have hs := bk_split (elTo k p n ts ls i) (ls.getD i 0); refine ⟨fun u hu => ?_, ?_, fun x => ?_⟩
    · rcases List.mem_append.1 hu with hu | hu
      · exact h1 u (List.mem_filter.1 hu).1
      · rw [List.mem_singleton.1 hu]; exact g2
    · rw [elTo, List.length_append, List.length_singleton]; omega
    · rw [elTo, take_succ (by omega)]; simp only [List.mem_append, List.mem_singleton]
      constructor
      · rintro ⟨u, hu | rfl, hxu⟩
        · have hm := List.mem_filter.1 hu; have ho := (h3 x).1 ⟨u, hm.1, hxu⟩; refine ⟨ho.1, fun hh => hh.elim ho.2 fun e => ?_⟩; exact of_decide_eq_true hm.2 (e ▸ hxu)
        · obtain ⟨hne, v, hv, _, hv3⟩ := (g3 x).1 hxu; have ho := (h3 x).1 ⟨v, hv, hv3⟩; exact ⟨ho.1, fun hh => hh.elim ho.2 hne⟩
      · rintro ⟨ho, hno⟩; obtain ⟨u, hu, hxu⟩ := (h3 x).2 ⟨ho, fun hh => hno (.inl hh)⟩
        by_cases hc2 : ls.getD i 0 ∈ u.l
        · exact ⟨_, .inr rfl, (g3 x).2 ⟨fun e => hno (.inr e), u, hu, hc2, hxu⟩⟩
        · exact ⟨u, .inl (List.mem_filter.2 ⟨hu, decide_eq_true hc2⟩), hxu⟩
end
def elP (k p n : Int) (ts : List Ten) (op ls : List Int) : Prop := (netL k p n ts op ∧ setL (closedL ts op) ls) ∧ (∀ i, i < ls.length → elFit k p n ts ls i) ∧ jnP k p n (oneT k p n) (elTo k p n ts ls ls.length)
end Go.Proofs.YtmddmahaikineaaGreat
namespace Go.Proofs.YtmddmahaikineaaGreat
set_option maxRecDepth 100000
open Go.RowKit
theorem fits_k2 {t u : Ten} {f : Int → Int} {ks : List Int} {v : Value} {g h : PH} (r : IntsO (selP (fun x => decide (x ∈ ks)) (joinI t.l u.l) ((joinI t.l u.l).map f)) v g) (l : PLe g h) : IntsR ((keepL t u ks).map f) v h := by
  rw [selP_map] at r; exact r.toR.mono l
set_option maxHeartbeats 2000000 in
theorem ct_u_l08Fits (k p n : Int) (f : Int → Int) (t u : Ten) (ks : List Int) (a b c a' b' c' v : Value) (w : World) (r1 : IntsR t.l a (hp w)) (r2 : IntsR t.d b (hp w)) (r3 : IntsR t.x c (hp w)) (r1' : IntsR u.l a' (hp w)) (r2' : IntsR u.d b' (hp w)) (r3' : IntsR u.x c' (hp w)) (rk : IntsR ks v (hp w)) (h1 : tensorL k p n t.l t.d t.x) (h2 : tensorL k p n u.l u.d u.x) (ht : t.d = t.l.map f) (hu : u.d = u.l.map f) :
    Calls Tryz.prog 94 [tenV a b c, tenV a' b' c', v].toArray w (RetV w (.bool (pairB k p n t u ks))) := by
  have hat := ten_axes h1; have hau := ten_axes h2; have h12 := hat.1; have h12' := hau.1; have hun := axes_nodup hau; have hjl := joinI_len t.l u.l; have hdj : dimsIn ((joinI t.l u.l).map f) := map_dims fun x hx => by
    rcases mem_joinI.1 hx with h | h
    · exact dims_mem (axes_dims hat) _ (by rw [ht]; exact List.mem_map_of_mem h)
    · exact dims_mem (axes_dims hau) _ (by rw [hu]; exact List.mem_map_of_mem h)
  have hiff := pairP_iff (ks := ks) h1 h2 ht hu; have hb : ∀ q : Bool, (q = true ↔ pairP k p n t u ks) → Value.bool q = .bool (pairB k p n t u ks) := fun q h => by
    congr 1
    rw [Bool.eq_iff_iff, h, pairB_true]
  refine calls_in Tryz.func94 rfl Tryz.ntmps94 rfl (Sat.start w) ?_; have hle0 := r1.le; have hle1 := r2.le; have hle2 := r3.le; have hle3 := r1'.le; have hle4 := r2'.le; have hle5 := r3'.le; have hle6 := rk.le; refine wp_sc (wp_sq ?_); refine sq_x rfl (x_box rfl rfl) rfl ?_; rintro _ _ ⟨b3, rfl, rfl⟩; refine sq_x rfl (x_box rfl rfl) rfl ?_; rintro _ _ ⟨b4, rfl, rfl⟩; refine sq_v rfl (v_assign rfl) rfl (sq_end (qs_n (wp_sc (wp_sq (sq_v rfl (v_loadNB 1 ty_39 rfl rfl rfl rfl) rfl (sq_v rfl (v_loadNB 0 ty_39 rfl rfl rfl rfl) rfl ?_)))))); refine sq_x rfl (x_call rfl en_171 (fun w s => ct_u_l08Join f _ _ _ _ _ _ _ _ w (r1.mono (s.get 2 rfl)) (r2.mono (s.get 2 rfl)) (r1'.mono (s.get 2 rfl)) (r2'.mono (s.get 2 rfl)) (by first | assumption | omega) (by first | assumption | omega) (by first | assumption | omega) (by first | assumption | omega))) rfl ?_; rintro _ h13 ⟨v1, v2, rfl, q1, q2⟩; refine sq_v rfl (v_move rfl) rfl (sq_v rfl (v_extract rfl rfl) rfl (sq_v rfl (v_extract rfl rfl) rfl (sq_v rfl (v_extract rfl rfl) rfl (sq_v rfl (v_assign rfl) rfl (sq_v rfl (v_assign rfl) rfl (sq_v rfl (v_assign rfl) rfl (sq_end (qs_n (wp_sc (wp_sq (sq_v rfl (v_move rfl) rfl (sq_v rfl (v_move rfl) rfl (sq_v rfl (v_move rfl) rfl ?_))))))))))))); refine sq_u rfl (x_callv rfl en_172 (fun w s => ct_s_l05Product _ _ _ w (q2.mono (s.get 0 rfl)) (by first | assumption | omega) (by first | assumption | omega))) rfl (sq_v rfl (v_leq rfl rfl) rfl (sq_v rfl (v_pickt rfl rfl) rfl ?_)); refine sq_bd 22 rfl (fun c22 => ?_) (fun c22 => ?_)
  · refine sq_v rfl (v_move rfl) rfl (sq_v rfl (v_move rfl) rfl (sq_v rfl (v_move rfl) rfl (sq_v rfl (v_move rfl) rfl ?_))); refine sq_x rfl (x_call rfl en_173 (fun w s => ct_s_l08Keep _ _ _ _ _ _ w (q1.mono (s.get 0 rfl)) (q2.mono (s.get 0 rfl)) (rk.mono (s.get 3 rfl)) (by rw [List.length_map]) (by first | assumption | omega))) rfl ?_; rintro _ h27 ⟨k1, k2, g1, g2, rfl, rk1, rk2, mdk⟩; refine sq_u rfl (x_callv rfl en_139 (fun w s => ct_s_TensorSize _ _ _ _ _ w ((rk1.toR.mono (mdk.le g1 (by simp))).mono (s.get 0 rfl)) ((fits_k2 rk2 (mdk.le g2 (by simp))).mono (s.get 0 rfl)))) rfl (sq_v rfl (v_geq rfl rfl) rfl (sq_v rfl (v_pickt rfl rfl) rfl (sq_v rfl (v_assign rfl) rfl (sq_end (qs_n (wp_rt ?_)))))); exact qs_ret1 rfl rfl (fin_q (i := 4) rfl (hb _ (by rw [hiff, decide_eq_true_eq]; exact ⟨fun h => ⟨by omega, h⟩, fun h => h.2⟩)))
  · refine sq_v rfl (v_move rfl) rfl (sq_s rfl rfl (sq_s rfl rfl (sq_s rfl rfl (sq_s rfl rfl (sq_s rfl rfl (sq_s rfl rfl (sq_v rfl (v_pickf rfl rfl) rfl (sq_v rfl (v_assign rfl) rfl (sq_end (qs_n (wp_rt ?_))))))))))); exact qs_ret1 rfl rfl (fin_q (i := 3) rfl (hb _ (by rw [hiff]; exact ⟨fun h => (by cases h), fun h => absurd h.1 (by omega)⟩)))
theorem ct_u_l08Pair (k p n : Int) (t u : Ten) (ks : List Int) (a b c a' b' c' v : Value) (w : World) (r1 : IntsR t.l a (hp w)) (r2 : IntsR t.d b (hp w)) (r3 : IntsR t.x c (hp w)) (r1' : IntsR u.l a' (hp w)) (r2' : IntsR u.d b' (hp w)) (r3' : IntsR u.x c' (hp w)) (rk : IntsR ks v (hp w)) (hp' : pairP k p n t u ks) :
    Calls Tryz.prog 96 [ringV k p n, tenV a b c, tenV a' b' c', v].toArray w (Ret w emp (TenT (pairR k p n t u ks))) := by
  have ok := pair_ok hp'.1 hp'.2.1 hp'.2.2.1 hp'.2.2.2.1; have := ct_s_l08Pair k p n t u (dimJ t u) (keepL t u ks) ks a b c a' b' c' v w r1 r2 r3 r1' r2' r3' rk ok rfl (keep_ok ok hp'.2.2.2.2) (sizeI_ge.1 hp'.2.2.2.2).1.1; rw [pairR, if_pos hp']; exact this
set_option maxHeartbeats 1000000 in
theorem ct_s_l18Finish (k p n : Int) (ts : List Ten) (op : List Int) (t : Ten) (vt vo a b c : Value) (w : World) (r : TensR ts vt (hp w)) (r' : IntsR op vo (hp w)) (r1 : IntsR t.l a (hp w)) (r2 : IntsR t.d b (hp w)) (r3 : IntsR t.x c (hp w)) (ht : tensorL k p n t.l t.d t.x) (hn : op.Nodup) (hs : ∀ x ∈ op, x ∈ t.l) :
    Calls Tryz.prog 76 [netV k p n vt vo, tenV a b c].toArray w (Ret w emp (TenT (finT k p n t op))) := by
  have hpm := fin_perm ht hn hs; refine calls_in Tryz.func76 rfl Tryz.ntmps76 rfl (Sat.start w) ?_; have hle0 := r.le; obtain ⟨cs_r, rr_r, hc_r⟩ := r.at; have hle1 := r'.le; have hle2 := r1.le; have hle3 := r2.le; have hle4 := r3.le; refine wp_sc (wp_sq ?_); refine sq_x rfl (x_box rfl rfl) rfl ?_; rintro _ _ ⟨b2, rfl, rfl⟩; refine sq_x rfl (x_box rfl rfl) rfl ?_; rintro _ _ ⟨b3, rfl, rfl⟩; refine sq_x rfl (x_alloc ty_39 rfl) rfl ?_; rintro _ _ ⟨b4, rfl, rfl⟩; refine sq_end (qs_n (wp_sc (wp_rj 11 [(0, true), (1, true), (2, true), (3, true), (4, true), (5, true), (6, true), (8, true), (9, true), (7, false), (10, false), (11, false)] mixed_ok (by kernel_rfl) (rj_v rfl rfl (v_fieldAddr fd_32_0 ty_29 (by decide) rfl) rfl (rj_v rfl rfl (v_loadNB 2 ty_29 rfl rfl rfl rfl) rfl (rj_v rfl rfl (v_fieldAddr fd_32_0 ty_29 (by decide) rfl) rfl (rj_v rfl rfl (v_loadNB 2 ty_29 rfl rfl rfl rfl) rfl (rj_v rfl rfl (v_loadNB 1 ty_39 rfl rfl rfl rfl) rfl (rj_v rfl rfl (v_fieldAddr fd_32_2 ty_25 (by decide) rfl) rfl (rj_v rfl rfl (v_loadB 2 ty_25 rfl rfl rfl) rfl (rj_v rfl rfl (v_fieldAddr fd_32_2 ty_25 (by decide) rfl) rfl (rj_v rfl rfl (v_loadB 2 ty_25 rfl rfl rfl) rfl ?_)))))))))))); refine rj_x rfl rfl (x_call rfl en_73 (fun w s => ct_s_l08Sum _ _ _ _ _ _ _ _ _ w (r1.mono (s.get 3 rfl)) (r2.mono (s.get 3 rfl)) (r3.mono (s.get 3 rfl)) (r'.mono (s.get 3 rfl)) (by first | assumption | omega))) rfl ?_; rintro _ h12 ⟨va12, vb12, vc12, rfl, o12⟩; refine rj_x rfl rfl (x_call rfl en_95 (fun w s => ct_s_l06Permute _ _ _ _ _ _ _ _ _ w (o12.toR.1.mono (s.get 0 rfl)) (o12.toR.2.1.mono (s.get 0 rfl)) (o12.toR.2.2.mono (s.get 0 rfl)) (r'.mono (s.get 4 rfl)) (by first | assumption | omega))) rfl ?_; rintro _ h15 ⟨va15, vb15, vc15, rfl, o15⟩; refine rj_m 2 rfl rfl rfl rfl (m_store 2 ty_39 rfl rfl rfl rfl (by simp [o15.toR.1.sl.one, o15.toR.2.1.sl.one, o15.toR.2.2.sl.one]) rfl (Nat.le_of_ble_eq_true rfl)) rfl ?_; rintro _ _ ⟨rfl, rfl⟩; refine rj_end (qs_n (wp_rt ?_)); exact qs_retc 2 rfl ty_39 rfl rfl rfl (fin_t 0 (i := 5) rfl rfl rfl (⟨_, _, _, rfl, o15⟩))
set_option maxHeartbeats 1000000 in
theorem ct_i_allIn (xs ys : List Int) (v u : Value) (w : World) (r : IntsR xs v (hp w)) (r' : IntsR ys u (hp w)) : Calls Tryz.prog 163 [v, u].toArray w (RetV w (.bool (decide (∀ x ∈ xs, x ∈ ys)))) := by
  refine calls_in Tryz.func163 rfl Tryz.ntmps163 rfl (Sat.start w) ?_; have hle0 := r.le; have hle1 := r'.le; refine wp_sc (wp_sq (sq_v rfl (v_assign rfl) rfl (sq_end (qs_n (wp_sc (wp_sc (wp_sq (sq_v rfl (v_move rfl) rfl (sq_v rfl (v_len Tryz.underlying25 rfl r.sl) rfl (sq_v rfl (v_move rfl) rfl (sq_end (qs_n (wp_bl ?_))))))))))))); refine wp_lp (σ := Nat) (fun z_ => [(1, u), (4, .bool false), (7, v), (8, num xs.length), (9, num z_)]) (fun z_ => [hp w]) (fun z_ => z_ ≤ xs.length ∧ (∀ j, j < z_ → xs.getD j 0 ∈ ys)) (fun z_ => xs.length - z_) 0 (⟨by omega, fun j hj => by omega⟩) ⟨rfl, rfl, rfl, rfl, (by first | rfl | exact ksub rfl (by first | omega | (simp; done) | (simp; omega))), trivial⟩ (fun _ s => s) ?_; rintro i ⟨hi, ha⟩; refine wp_sc (wp_sq (sq_v rfl (v_lss rfl rfl) rfl (sq_end (qs_n (wp_sc ?_))))); refine wp_cd rfl (fun c10 => ?_) (fun c10 => ?_)
  · refine wp_sk (qs_n (wp_sc (wp_bl (wp_sc (wp_sq ?_))))); refine sq_v rfl (v_idxI Tryz.underlying25 ty_3 rfl rfl r (by first | omega | (simp; omega) | (simp only [List.length_append, List.length_cons, List.length_nil]; omega) | (rw [List.length_set]; omega)) (by first | omega | (simp; omega) | (simp only [List.length_append, List.length_cons, List.length_nil]; omega) | (rw [List.length_set]; omega))) rfl ?_; refine sq_v rfl (v_loadI (k := i) 0 ty_3 rfl rfl r (by first | omega | (simp; omega) | (simp only [List.length_append, List.length_cons, List.length_nil]; omega) | (rw [List.length_set]; omega))) rfl ?_; refine sq_v rfl (v_assign rfl) rfl (sq_end (qs_n (wp_sc (wp_sq (sq_v rfl (v_move rfl) rfl (sq_v rfl (v_move rfl) rfl (sq_u rfl (x_callv rfl en_152 (fun w s => ct_i_hasInt _ _ _ w (r'.mono (s.get 0 rfl)))) rfl (sq_v rfl (v_not rfl) rfl (sq_end (qs_n ?_)))))))))); refine wp_cnd rfl (fun c16 => ?_) (fun c16 => ?_)
    · refine wp_sc (wp_sq (sq_v rfl (v_assign rfl) rfl (sq_end (qs_n (wp_rt (qs_br (qs_r (qs_r (qs_br (qs_r ?_)))))))))); exact qs_ret1 rfl rfl (fin_q (i := 0) rfl (by rw [decide_eq_false]; exact fun h => absurd (h _ (mem_getD (k := i) (by omega))) (by simpa using c16)))
    · refine wp_sk (qs_bn (qs_n (wp_sq ?_))); refine sq_v rfl (v_add rfl rfl ((by unfold I64; omega))) rfl ?_; refine sq_v rfl (v_move rfl) rfl (sq_end ?_); exact qs_bk (i + 1) ⟨by omega, step_all ha (by simpa using c16)⟩ (by omega) ⟨rfl, rfl, rfl, rfl, (by first | rfl | exact ksub rfl (by first | omega | (simp; done) | (simp; omega))), trivial⟩ (fun _ s => s)
  · refine wp_ex (qs_x (qs_x (qs_bx (qs_n (wp_sc (wp_sq (sq_v rfl (v_assign rfl) rfl (sq_end (qs_n (wp_rt ?_)))))))))); exact qs_ret1 rfl rfl (fin_q (i := 0) rfl (by rw [decide_eq_true]; exact all_of fun j hj => ha j (by omega)))
theorem PermNo {k n : Int} {t : Ten} {ls : List Int} {q : Bool} (h : q = false) : TenB (ifB q (permT k n t ls) noTen) q (.tuple [tenV (.slice none 0 0) (.slice none 0 0) (.slice none 0 0), .bool false].toArray) emp :=
  ⟨.slice none 0 0, .slice none 0 0, .slice none 0 0, by rw [h], by rw [h]; exact triO_none⟩
def perP (k p n : Int) (t : Ten) (ls : List Int) : Prop := tensorL k p n t.l t.d t.x ∧ setL t.l ls
open Classical in
noncomputable def perB (k p n : Int) (t : Ten) (ls : List Int) : Bool := decide (perP k p n t ls)
theorem perB_true {k p n : Int} {t : Ten} {ls : List Int} : perB k p n t ls = true ↔ perP k p n t ls := by simp [perB]
theorem perB_no {k p n : Int} {t : Ten} {ls : List Int} (h : ¬ perP k p n t ls) : perB k p n t ls = false := by simp [perB, h]
theorem ct_i_PermuteTensor (k p n : Int) (t : Ten) (ls : List Int) (a b c v : Value) (w : World) (r1 : IntsR t.l a (hp w)) (r2 : IntsR t.d b (hp w)) (r3 : IntsR t.x c (hp w)) (rl : IntsR ls v (hp w)) :
    Calls Tryz.prog 100 [ringV k p n, tenV a b c, v].toArray w (Ret w emp (TenB (ifB (perB k p n t ls) (permT k n t ls) noTen) (perB k p n t ls))) := by
  refine calls_in Tryz.func100 rfl Tryz.ntmps100 rfl (Sat.start w) ?_; have hle0 := r1.le; have hle1 := r2.le; have hle2 := r3.le; have hle3 := rl.le; refine wp_sc (wp_sq ?_); refine sq_x rfl (x_box rfl rfl) rfl ?_; rintro _ _ ⟨b3, rfl, rfl⟩; refine sq_x rfl (x_box rfl rfl) rfl ?_; rintro _ _ ⟨b4, rfl, rfl⟩; refine sq_x rfl (x_alloc ty_39 rfl) rfl ?_; rintro _ _ ⟨b6, rfl, rfl⟩; refine sq_v rfl (v_assign rfl) rfl (sq_end (qs_n (wp_sc (wp_sc (wp_sq (sq_v rfl (v_loadNB 2 ty_29 rfl rfl rfl rfl) rfl (sq_v rfl (v_loadNB 1 ty_39 rfl rfl rfl rfl) rfl (sq_u rfl (x_callv rfl en_144 (fun w s => ct_i_TensorOk _ _ _ _ _ _ _ _ _ w (r1.mono (s.get 3 rfl)) (r2.mono (s.get 3 rfl)) (r3.mono (s.get 3 rfl)))) rfl ?_)))))))); refine sq_bb 10 rfl (fun c10 => ?_) (fun c10 => ?_)
  · refine sq_v rfl (v_not rfl) rfl (sq_v rfl (v_move rfl) rfl (sq_v rfl (v_fieldAddr fd_39_0 ty_25 (by decide) rfl) rfl (sq_v rfl (v_loadB 1 ty_25 rfl rfl rfl) rfl (sq_v rfl (v_move rfl) rfl (sq_u rfl (x_callv rfl en_159 (fun w s => ct_i_sameLabels _ _ _ _ w (r1.mono (s.get 3 rfl)) (rl.mono (s.get 3 rfl)))) rfl (sq_v rfl (v_not rfl) rfl (sq_v rfl (v_pickf rfl rfl) rfl (sq_end (qs_n ?_))))))))); refine wp_cn _ rfl (fun c18 => ?_) (fun c18 => ?_)
    · refine wp_sc (wp_sq (sq_v rfl (v_build [.slice none 0 0, .slice none 0 0, .slice none 0 0] rfl (by kernel_rfl)) rfl ?_)); refine sq_m 0 rfl rfl (m_store 0 ty_39 rfl rfl rfl rfl (by simp [one_sl]) rfl (Nat.le_of_ble_eq_true rfl)) rfl ?_; rintro _ _ ⟨rfl, rfl⟩; refine sq_v rfl (v_assign rfl) rfl (sq_end (qs_n (wp_rt (qs_r ?_)))); exact qs_retct 0 rfl ty_39 rfl rfl rfl rfl (fin_e (i := 3) rfl (PermNo (perB_no (fun h => by first | exact tensorB_false.1 c10 h.1 | exact setB_false.1 c18 h.2))))
    · refine wp_sk (qs_n (wp_sc (wp_sq (sq_v rfl (v_loadNB 2 ty_29 rfl rfl rfl rfl) rfl (sq_v rfl (v_loadNB 1 ty_39 rfl rfl rfl rfl) rfl (sq_v rfl (v_move rfl) rfl ?_)))))); have h1 := tensorB_true.1 c10; have h2 := setB_true.1 c18; have hok : PermOK k p n t ls := ⟨h1.1, h1, setL_perm h2⟩
      refine sq_x rfl (x_call rfl en_195 (fun w s => ct_i_rawPermute _ _ _ _ _ _ _ _ _ w (r1.mono (s.get 3 rfl)) (r2.mono (s.get 3 rfl)) (r3.mono (s.get 3 rfl)) (rl.mono (s.get 3 rfl)) (by first | assumption | omega))) rfl ?_; rintro _ h23 ⟨va23, vb23, vc23, rfl, o23⟩; refine sq_m 1 rfl rfl (m_store 1 ty_39 rfl rfl rfl rfl (by simp [o23.toR.1.sl.one, o23.toR.2.1.sl.one, o23.toR.2.2.sl.one]) rfl (Nat.le_of_ble_eq_true rfl)) rfl ?_; rintro _ _ ⟨rfl, rfl⟩; refine sq_v rfl (v_assign rfl) rfl (sq_end (qs_n (wp_rt ?_))); exact qs_retct 1 rfl ty_39 rfl rfl rfl rfl (fin_t 0 (i := 4) rfl rfl rfl (by rw [perB_true.2 ⟨h1, h2⟩]; exact ⟨_, _, _, rfl, o23⟩))
  · refine sq_v rfl (v_not rfl) rfl (sq_v rfl (v_move rfl) rfl (sq_s rfl rfl (sq_s rfl rfl (sq_s rfl rfl (sq_s rfl rfl (sq_s rfl rfl (sq_v rfl (v_pickt rfl rfl) rfl (sq_end (qs_n (wp_ct rfl (wp_sc (wp_sq (sq_v rfl (v_build [.slice none 0 0, .slice none 0 0, .slice none 0 0] rfl (by kernel_rfl)) rfl ?_))))))))))))); refine sq_m 0 rfl rfl (m_store 0 ty_39 rfl rfl rfl rfl (by simp [one_sl]) rfl (Nat.le_of_ble_eq_true rfl)) rfl ?_; rintro _ _ ⟨rfl, rfl⟩; refine sq_v rfl (v_assign rfl) rfl (sq_end (qs_n (wp_rt (qs_r ?_)))); exact qs_retct 0 rfl ty_39 rfl rfl rfl rfl (fin_e (i := 3) rfl (PermNo (perB_no (fun h => by first | exact tensorB_false.1 c10 h.1 | exact setB_false.1 c18 h.2))))
set_option maxHeartbeats 1000000 in
theorem ct_i_FinishTensor (k p n : Int) (ts : List Ten) (op : List Int) (t : Ten) (vt vo a b c : Value) (w : World) (r : TensR ts vt (hp w)) (r' : IntsR op vo (hp w)) (r1 : IntsR t.l a (hp w)) (r2 : IntsR t.d b (hp w)) (r3 : IntsR t.x c (hp w)) (hs : op.length ≤ 1048576) :
    Calls Tryz.prog 83 [netV k p n vt vo, tenV a b c].toArray w (Ret w emp (TenB (finR k p n ts op t) (finB k p n ts op t))) := by
  refine calls_in Tryz.func83 rfl Tryz.ntmps83 rfl (Sat.start w) ?_; have hle0 := r.le; obtain ⟨cs_r, rr_r, hc_r⟩ := r.at; have hle1 := r'.le; have hle2 := r1.le; have hle3 := r2.le; have hle4 := r3.le; refine wp_sc (wp_sq ?_); refine sq_x rfl (x_box rfl rfl) rfl ?_; rintro _ _ ⟨b2, rfl, rfl⟩; refine sq_x rfl (x_box rfl rfl) rfl ?_; rintro _ _ ⟨b3, rfl, rfl⟩; refine sq_x rfl (x_alloc ty_39 rfl) rfl ?_; rintro _ _ ⟨b4, rfl, rfl⟩; refine sq_v rfl (v_assign rfl) rfl (sq_end (qs_n (wp_sc (wp_sc (wp_sq (sq_v rfl (v_loadNB 2 ty_32 rfl rfl rfl rfl) rfl (sq_u rfl (x_callv rfl en_60 (fun w s => ct_i_NetworkOk _ _ _ _ _ _ _ w (r.mono (s.get 3 rfl)) (r'.mono (s.get 3 rfl)) (by first | assumption | omega))) rfl ?_))))))); refine sq_bb 7 rfl (fun c7 => ?_) (fun c7 => ?_)
  · refine sq_v rfl (v_not rfl) rfl (sq_v rfl (v_move rfl) rfl (sq_v rfl (v_fieldAddr fd_32_0 ty_29 (by decide) rfl) rfl (sq_v rfl (v_loadNB 2 ty_29 rfl rfl rfl rfl) rfl (sq_v rfl (v_loadNB 1 ty_39 rfl rfl rfl rfl) rfl (sq_u rfl (x_callv rfl en_144 (fun w s => ct_i_TensorOk _ _ _ _ _ _ _ _ _ w (r1.mono (s.get 3 rfl)) (r2.mono (s.get 3 rfl)) (r3.mono (s.get 3 rfl)))) rfl (sq_v rfl (v_not rfl) rfl (sq_v rfl (v_pickf rfl rfl) rfl ?_))))))); refine sq_bn 15 rfl (fun c15 => ?_) (fun c15 => ?_)
    · refine sq_v rfl (v_move rfl) rfl (sq_s rfl rfl (sq_s rfl rfl (sq_s rfl rfl (sq_s rfl rfl (sq_s rfl rfl (sq_s rfl rfl (sq_v rfl (v_pickt rfl rfl) rfl (sq_end (qs_n (wp_ct rfl (wp_sc (wp_sq (sq_v rfl (v_build [.slice none 0 0, .slice none 0 0, .slice none 0 0] rfl (by kernel_rfl)) rfl ?_))))))))))))); refine sq_m 0 rfl rfl (m_store 0 ty_39 rfl rfl rfl rfl (by simp [one_sl]) rfl (Nat.le_of_ble_eq_true rfl)) rfl ?_; rintro _ _ ⟨rfl, rfl⟩; refine sq_v rfl (v_assign rfl) rfl (sq_end (qs_n (wp_rt (qs_r ?_)))); exact qs_retct 0 rfl ty_39 rfl rfl rfl rfl (fin_e (i := 3) rfl (FinNo (fun h => by first | exact netB_false.1 c7 h.1 | exact tensorB_false.1 c15 h.2.1 | exact absurd h.2.2 (by simpa using c23))))
    · refine sq_v rfl (v_move rfl) rfl (sq_v rfl (v_fieldAddr fd_32_2 ty_25 (by decide) rfl) rfl (sq_v rfl (v_loadB 2 ty_25 rfl rfl rfl) rfl (sq_v rfl (v_fieldAddr fd_39_0 ty_25 (by decide) rfl) rfl (sq_v rfl (v_loadB 1 ty_25 rfl rfl rfl) rfl (sq_u rfl (x_callv rfl en_163 (fun w s => ct_i_allIn _ _ _ _ w (r'.mono (s.get 3 rfl)) (r1.mono (s.get 3 rfl)))) rfl (sq_v rfl (v_not rfl) rfl (sq_v rfl (v_pickf rfl rfl) rfl (sq_end (qs_n ?_))))))))); refine wp_cnd rfl (fun c23 => ?_) (fun c23 => ?_)
      · refine wp_sc (wp_sq (sq_v rfl (v_build [.slice none 0 0, .slice none 0 0, .slice none 0 0] rfl (by kernel_rfl)) rfl ?_)); refine sq_m 0 rfl rfl (m_store 0 ty_39 rfl rfl rfl rfl (by simp [one_sl]) rfl (Nat.le_of_ble_eq_true rfl)) rfl ?_; rintro _ _ ⟨rfl, rfl⟩; refine sq_v rfl (v_assign rfl) rfl (sq_end (qs_n (wp_rt (qs_r ?_)))); exact qs_retct 0 rfl ty_39 rfl rfl rfl rfl (fin_e (i := 3) rfl (FinNo (fun h => by first | exact netB_false.1 c7 h.1 | exact tensorB_false.1 c15 h.2.1 | exact absurd h.2.2 (by simpa using c23))))
      · refine wp_sk (qs_n (wp_sc (wp_rj 13 [(0, true), (1, true), (2, true), (3, true), (4, true), (5, true), (6, true), (8, true), (9, true), (7, false), (10, false), (11, true), (12, true), (13, false), (14, false)] mixed_ok (by kernel_rfl) ?_))); have hnet := netB_true.1 c7; have hten := tensorB_true.1 c15; have hall : ∀ x ∈ op, x ∈ t.l := (by simpa using c23); have hfp : finP k p n ts op t := ⟨hnet, hten, hall⟩; have hpm := hfp.perm; have hB := perB_true.2 (show perP k p n (sumR k p n t op) op from ⟨hpm.ten, setL_of_perm hpm.perm.symm (net_open hnet).1⟩); refine rj_v rfl rfl (v_fieldAddr fd_32_0 ty_29 (by decide) rfl) rfl (rj_v rfl rfl (v_loadNB 2 ty_29 rfl rfl rfl rfl) rfl (rj_v rfl rfl (v_fieldAddr fd_32_0 ty_29 (by decide) rfl) rfl (rj_v rfl rfl (v_loadNB 2 ty_29 rfl rfl rfl rfl) rfl (rj_v rfl rfl (v_loadNB 1 ty_39 rfl rfl rfl rfl) rfl (rj_v rfl rfl (v_fieldAddr fd_32_2 ty_25 (by decide) rfl) rfl (rj_v rfl rfl (v_loadB 2 ty_25 rfl rfl rfl) rfl (rj_v rfl rfl (v_fieldAddr fd_32_2 ty_25 (by decide) rfl) rfl (rj_v rfl rfl (v_loadB 2 ty_25 rfl rfl rfl) rfl ?_)))))))); refine rj_x rfl rfl (x_call rfl en_80 (fun w s => ct_i_SumLabels _ _ _ _ _ _ _ _ _ w (r1.mono (s.get 3 rfl)) (r2.mono (s.get 3 rfl)) (r3.mono (s.get 3 rfl)) (r'.mono (s.get 3 rfl)))) rfl ?_; rintro _ h32 ⟨va32, vb32, vc32, rfl, o32⟩; refine rj_x rfl rfl (x_call rfl en_100 (fun w s => ct_i_PermuteTensor _ _ _ _ _ _ _ _ _ w (o32.toR.1.mono (s.get 0 rfl)) (o32.toR.2.1.mono (s.get 0 rfl)) (o32.toR.2.2.mono (s.get 0 rfl)) (r'.mono (s.get 4 rfl)))) rfl ?_; rintro _ h35 ⟨va35, vb35, vc35, rfl, o35⟩; refine rj_v rfl rfl (v_extract rfl rfl) rfl (rj_v rfl rfl (v_extract rfl rfl) rfl ?_); refine rj_m 2 rfl rfl rfl rfl (m_store 2 ty_39 rfl rfl rfl rfl (by simp [o35.toR.1.sl.one, o35.toR.2.1.sl.one, o35.toR.2.2.sl.one]) rfl (Nat.le_of_ble_eq_true rfl)) rfl ?_; rintro _ _ ⟨rfl, rfl⟩; refine rj_fv rfl rfl (v_assign rfl) rfl (rj_end ?_); rw [hB] at o35; refine qs_n (wp_rt ?_); exact qs_retct 2 rfl ty_39 rfl rfl rfl rfl (fin_t 0 (i := 5) rfl rfl rfl (by rw [hB]; exact FinYes hfp o35))
  · refine sq_v rfl (v_not rfl) rfl (sq_v rfl (v_move rfl) rfl (sq_s rfl rfl (sq_s rfl rfl (sq_s rfl rfl (sq_s rfl rfl (sq_s rfl rfl (sq_v rfl (v_pickt rfl rfl) rfl (sq_v rfl (v_move rfl) rfl (sq_s rfl rfl ?_))))))))); refine sq_s rfl rfl (sq_s rfl rfl (sq_s rfl rfl (sq_s rfl rfl (sq_s rfl rfl (sq_v rfl (v_pickt rfl rfl) rfl (sq_end (qs_n (wp_ct rfl (wp_sc (wp_sq (sq_v rfl (v_build [.slice none 0 0, .slice none 0 0, .slice none 0 0] rfl (by kernel_rfl)) rfl ?_))))))))))); refine sq_m 0 rfl rfl (m_store 0 ty_39 rfl rfl rfl rfl (by simp [one_sl]) rfl (Nat.le_of_ble_eq_true rfl)) rfl ?_; rintro _ _ ⟨rfl, rfl⟩; refine sq_v rfl (v_assign rfl) rfl (sq_end (qs_n (wp_rt (qs_r ?_)))); exact qs_retct 0 rfl ty_39 rfl rfl rfl rfl (fin_e (i := 3) rfl (FinNo (fun h => by first | exact netB_false.1 c7 h.1 | exact tensorB_false.1 c15 h.2.1 | exact absurd h.2.2 (by simpa using c23))))
end Go.Proofs.YtmddmahaikineaaGreat
namespace Go.Proofs.YtmddmahaikineaaGreat
set_option maxRecDepth 100000
open Go.RowKit
theorem jnB_step {k p n : Int} {t : Ten} {us : List Ten} {i : Nat} (h : ∀ j, j < i → jnFit k p n t us j) (h1 : jnFit k p n t us i) : ∀ j, j < i + 1 → jnFit k p n t us j := fun j hj => by
  by_cases c : j < i
  · exact h j c
  · rw [show j = i by omega]; exact h1
set_option maxHeartbeats 4000000 in
theorem ct_s_l21Join (k p n : Int) (f : Int → Int) (t : Ten) (us : List Ten) (a b c v : Value) (w : World) (r1 : IntsR t.l a (hp w)) (r2 : IntsR t.d b (hp w)) (r3 : IntsR t.x c (hp w)) (r : TensR us v (hp w)) (ht : goodT k p n f t) (hu : ∀ u ∈ us, goodT k p n f u) (hl : us.length ≤ 1000) :
    Calls Tryz.prog 72 [ringV k p n, tenV a b c, v].toArray w (Ret w emp (JnR k p n t us [a, b, c])) := by
  refine calls_in Tryz.func72 rfl Tryz.ntmps72 rfl (Sat.start w) ?_; have hle0 := r1.le; have hle1 := r2.le; have hle2 := r3.le; have hle3 := r.le; obtain ⟨cs_r, rr_r, hc_r⟩ := r.at; refine wp_sc (wp_sq ?_); refine sq_x rfl (x_box rfl rfl) rfl ?_; rintro _ _ ⟨b3, rfl, rfl⟩; refine sq_x rfl (x_box rfl rfl) rfl ?_; rintro _ _ ⟨b4, rfl, rfl⟩; refine sq_x rfl (x_alloc ty_39 rfl) rfl ?_; rintro _ _ ⟨b6, rfl, rfl⟩; refine sq_v rfl (v_assign rfl) rfl (sq_end (qs_n (wp_sc (wp_sc (wp_sq (sq_v rfl (v_move rfl) rfl (sq_v rfl (v_len Tryz.underlying30 rfl r.sl) rfl (sq_v rfl (v_move rfl) rfl (sq_end (qs_s [PUn emp (hp w), box b6 [.slice none 0 0, .slice none 0 0, .slice none 0 0] 39, box b4 [a, b, c] 39, box b3 [num k, num p, num n] 29] (fun _ s => Sat.merge (emp_sat (s.pick (HS' := [hp w, box b6 [.slice none 0 0, .slice none 0 0, .slice none 0 0] 39, box b4 [a, b, c] 39, box b3 [num k, num p, num n] 29]) [3, 0, 1, 2] (by decide) rfl))) (qs_n (wp_bl ?_)))))))))))); refine wp_lp (σ := Nat × Value × Value × Value × PH) (fun z_ => [(3, .pointer (some ⟨b3, 0, none⟩)), (4, .pointer (some ⟨b4, 0, none⟩)), (6, .pointer (some ⟨b6, 0, none⟩)), (7, .bool false), (11, v), (12, num us.length), (13, num z_.1)]) (fun z_ => [(PUn z_.2.2.2.2 (hp w)), box b6 [.slice none 0 0, .slice none 0 0, .slice none 0 0] 39, box b4 [z_.2.1, z_.2.2.1, z_.2.2.2.1] 39, box b3 [num k, num p, num n] 29]) (fun z_ => z_.1 ≤ us.length ∧ PDj z_.2.2.2.2 (hp w) ∧ (∀ j, j < z_.1 → jnFit k p n t us j) ∧ ((z_.1 = 0 ∧ [z_.2.1, z_.2.2.1, z_.2.2.2.1] = [a, b, c]) ∨ TriO (jnTo k p n t us z_.1) z_.2.1 z_.2.2.1 z_.2.2.2.1 z_.2.2.2.2) ∧ IntsR (jnTo k p n t us z_.1).l z_.2.1 (PUn z_.2.2.2.2 (hp w)) ∧ IntsR (jnTo k p n t us z_.1).d z_.2.2.1 (PUn z_.2.2.2.2 (hp w)) ∧ IntsR (jnTo k p n t us z_.1).x z_.2.2.2.1 (PUn z_.2.2.2.2 (hp w))) (fun z_ => us.length - z_.1) (0, a, b, c, emp) (⟨by (try dsimp only); omega, PDj.emp _, fun j hj => by omega, .inl ⟨rfl, rfl⟩, r1.mono (PLe.un_r (PDj.emp _)), r2.mono (PLe.un_r (PDj.emp _)), r3.mono (PLe.un_r (PDj.emp _))⟩) ⟨rfl, rfl, rfl, rfl, rfl, rfl, (by first | rfl | exact ksub rfl (by first | omega | (simp; done) | (simp; omega))), trivial⟩ (fun _ s => s) ?_; rintro ⟨i, va, vb, vc, hl2⟩ ⟨hi, hdj, hfit, hst, q1, q2, q3⟩; dsimp only at hi hdj hfit hst q1 q2 q3 ⊢; obtain ⟨csU, rrU, hcU⟩ := (r.mono (PLe.un_r hdj)).at; have hgd := jn_good ht hu i hi hfit; have hln := ten_len hgd.1.1; refine wp_sc (wp_sq (sq_v rfl (v_lss rfl rfl) rfl (sq_end (qs_n (wp_sc ?_))))); refine wp_cd rfl (fun c14 => ?_) (fun c14 => ?_)
  · refine wp_sk (qs_n (wp_sc (wp_bl (wp_sc (wp_sq ?_))))); obtain ⟨t15, a15, b15, c15, ht15, hcs15, rl15, rd15, rx15⟩ := hcU (i) (by first | omega | (rw [List.length_set]; omega)); refine sq_v rfl (v_indexAddr Tryz.underlying30 ty_39 rfl rfl rrU (by decide) (by omega) (by omega)) rfl ?_; refine sq_v rfl (v_loadNE 0 ty_39 rfl rfl rrU (by have := rrU.1; omega) rfl hcs15) rfl ?_; refine sq_x rfl (x_alloc ty_39 rfl) rfl ?_; rintro _ _ ⟨b9, rfl, rfl⟩; refine sq_m 0 rfl rfl (m_store 0 ty_39 rfl rfl rfl rfl (by simp [rl15.sl.one, rd15.sl.one, rx15.sl.one]) rfl (Nat.le_of_ble_eq_true rfl)) rfl ?_; rintro _ _ ⟨rfl, rfl⟩; refine sq_end ?_; have hu15 := hu t15 (List.mem_of_getElem? ht15); have hln15 := ten_len hu15.1; have e15 : us.getD i noTen = t15 := getD_ten ht15; have hfi : jnFit k p n t us i ↔ pairP k p n (jnTo k p n t us i) t15 ((jnTo k p n t us i).l ++ t15.l) := by unfold jnFit; rw [e15]
    refine qs_n (wp_sc (wp_rj 5 [(0, true), (1, true), (3, true), (4, true), (2, false), (5, false), (6, false)] mixed_ok (by kernel_rfl) (rj_v rfl rfl (v_fieldAddr fd_39_0 ty_25 (by decide) rfl) rfl (rj_v rfl rfl (v_loadB 3 ty_25 rfl rfl rfl) rfl (rj_v rfl rfl (v_fieldAddr fd_39_0 ty_25 (by decide) rfl) rfl (rj_v rfl rfl (v_loadB 0 ty_25 rfl rfl rfl) rfl ?_)))))); refine rj_x rfl rfl (x_call rfl en_107 (fun w s => ct_s_l05Ints _ _ w (q1.mono (s.get 1 rfl)) (by first | assumption | omega))) rfl ?_; rintro v19 h19 r19; refine rj_m 0 rfl rfl rfl rfl (m_appI 0 2 Tryz.underlying25 ty_3 rfl rfl rfl rfl r19 rfl rl15 (by first | omega | (simp; omega) | (simp only [List.length_append, List.length_cons, List.length_nil]; omega) | (rw [List.length_set]; omega))) rfl ?_; intro v22 h_r22 r22; refine rj_fv rfl rfl (v_assign rfl) rfl (rj_end (qs_n (wp_sc (wp_sc (wp_sq (sq_v rfl (v_loadNB 4 ty_39 rfl rfl rfl rfl) rfl (sq_v rfl (v_loadNB 1 ty_39 rfl rfl rfl rfl) rfl (sq_v rfl (v_move rfl) rfl (sq_u rfl (x_callv rfl en_94 (fun w s => ct_u_l08Fits k p n f _ _ _ _ _ _ _ _ _ _ w (q1.mono (s.get 2 rfl)) (q2.mono (s.get 2 rfl)) (q3.mono (s.get 2 rfl)) (rl15.mono (s.get 2 rfl)) (rd15.mono (s.get 2 rfl)) (rx15.mono (s.get 2 rfl)) (r22.toR.mono (s.get 0 rfl)) hgd.1.1 hu15.1 hgd.1.2 hu15.2)) rfl (sq_v rfl (v_not rfl) rfl (sq_end (qs_n ?_)))))))))))); refine wp_cn _ rfl (fun c27 => ?_) (fun c27 => ?_)
    · refine wp_sc (wp_sq (sq_v rfl (v_build [.slice none 0 0, .slice none 0 0, .slice none 0 0] rfl (by kernel_rfl)) rfl ?_)); refine sq_m 3 rfl rfl (m_store 3 ty_39 rfl rfl rfl rfl (by simp [one_sl]) rfl (Nat.le_of_ble_eq_true rfl)) rfl ?_; rintro _ _ ⟨rfl, rfl⟩; refine sq_v rfl (v_assign rfl) rfl (sq_end (qs_n (wp_rt (qs_r (qs_br (qs_r (qs_r (qs_br (qs_r (qs_s [hl2, hp w, box b6 [.slice none 0 0, .slice none 0 0, .slice none 0 0] 39] (fun _ s => Sat.part hdj (s.pick [2, 3] (by decide) rfl)) ?_)))))))))); exact qs_retct 2 rfl ty_39 rfl rfl rfl rfl (fin_e (i := 1) rfl ⟨_, _, _, false, rfl, ⟨fun e => (by cases e), fun h => absurd (hfi.1 (h i (by omega))) (pairB_false.1 c27)⟩, fun e => (by cases e), rfl, rfl, rfl⟩)
    · refine wp_sk (qs_n (wp_sq (sq_v rfl (v_loadNB 5 ty_29 rfl rfl rfl rfl) rfl (sq_v rfl (v_loadNB 4 ty_39 rfl rfl rfl rfl) rfl (sq_v rfl (v_loadNB 1 ty_39 rfl rfl rfl rfl) rfl (sq_v rfl (v_move rfl) rfl ?_)))))); refine sq_x rfl (x_call rfl en_96 (fun w s => ct_u_l08Pair _ _ _ _ _ _ _ _ _ _ _ _ _ w (q1.mono (s.get 2 rfl)) (q2.mono (s.get 2 rfl)) (q3.mono (s.get 2 rfl)) (rl15.mono (s.get 2 rfl)) (rd15.mono (s.get 2 rfl)) (rx15.mono (s.get 2 rfl)) (r22.toR.mono (s.get 0 rfl)) (pairB_true.1 c27))) rfl ?_; rintro _ h33 ⟨va33, vb33, vc33, rfl, o33⟩; refine sq_m 5 rfl rfl (m_store 5 ty_39 rfl rfl rfl rfl (by simp [o33.toR.1.sl.one, o33.toR.2.1.sl.one, o33.toR.2.2.sl.one]) rfl (Nat.le_of_ble_eq_true rfl)) rfl ?_; rintro _ _ ⟨rfl, rfl⟩; refine sq_end (qs_bn (qs_n (wp_sq ?_))); refine sq_v rfl (v_add rfl rfl ((by unfold I64; omega))) rfl ?_; refine sq_v rfl (v_move rfl) rfl (sq_end ?_); refine qs_dj 3 0 rfl rfl rfl (fun hdm => ?_); have o33' : TriO (jnTo k p n t us (i + 1)) va33 vb33 vc33 h33 := by rw [jnTo, e15]; exact o33
      exact qs_bk (i + 1, va33, vb33, vc33, h33) ⟨by (try dsimp only); omega, (hdm.mono (PLe.un_r hdj)).symm, jnB_step hfit (hfi.2 (pairB_true.1 c27)), .inr o33', o33'.toR.1.mono (PLe.un_l _ _), o33'.toR.2.1.mono (PLe.un_l _ _), o33'.toR.2.2.mono (PLe.un_l _ _)⟩ (by simp only; omega) ⟨rfl, rfl, rfl, rfl, rfl, rfl, (by first | rfl | exact ksub rfl (by first | omega | (simp; done) | (simp; omega))), trivial⟩ (fun _ s => Sat.merge ((Sat.part hdj (s.pick (HS' := [PUn hl2 (hp w), h33, box b6 [.slice none 0 0, .slice none 0 0, .slice none 0 0] 39, box b4 [va33, vb33, vc33] 39, box b3 [num k, num p, num n] 29]) [3, 0, 4, 5, 6] (by decide) rfl)).pick (HS' := [h33, hp w, box b6 [.slice none 0 0, .slice none 0 0, .slice none 0 0] 39, box b4 [va33, vb33, vc33] 39, box b3 [num k, num p, num n] 29]) [2, 1, 3, 4, 5] (by decide) rfl))
  · refine wp_ex (qs_x (qs_x (qs_bx (qs_n (wp_sc (wp_sq (sq_v rfl (v_loadNB 2 ty_39 rfl rfl rfl rfl) rfl ?_))))))); refine sq_m 1 rfl rfl (m_store 1 ty_39 rfl rfl rfl rfl (by simp [q1.sl.one, q2.sl.one, q3.sl.one]) rfl (Nat.le_of_ble_eq_true rfl)) rfl ?_; rintro _ _ ⟨rfl, rfl⟩; refine sq_v rfl (v_assign rfl) rfl (sq_end (qs_n (wp_rt (qs_s [hl2, box b6 [va, vb, vc] 39, hp w] (fun _ s => (Sat.part hdj (s.pick (HS' := [PUn hl2 (hp w), box b6 [va, vb, vc] 39]) [0, 1] (by decide) rfl)).pick [0, 2, 1] (by decide) rfl) ?_)))); have ei : i = us.length := by omega
    subst ei; exact qs_retct 1 rfl ty_39 rfl rfl rfl rfl (fin_t 0 (i := 2) rfl rfl rfl ⟨_, _, _, true, rfl, ⟨fun _ => hfit, fun _ => rfl⟩, fun _ => hst.imp (fun h => ⟨List.eq_nil_of_length_eq_zero h.1, h.2⟩) id, q1.sl.one, q2.sl.one, q3.sl.one⟩)
theorem TensL.at0 {us : List Ten} {cs : List Value} {h : PH} (hT : TensL us cs h) : ∀ i, i < us.length → ∃ t a b c, us[i]? = some t ∧ (cs.drop (i * 3)).take 3 = [a, b, c] ∧ IntsR t.l a h ∧ IntsR t.d b h ∧ IntsR t.x c h := fun i hi => by
  have ht := List.getElem?_eq_getElem (l := us) (i := i) (by omega); obtain ⟨a, b, c, e, r1, r2, r3⟩ := hT.2 i _ ht; exact ⟨_, a, b, c, ht, e, r1, r2, r3⟩
theorem TensL.drop {us : List Ten} {cs : List Value} {h : PH} (hT : TensL us cs h) (m : Nat) (hm : m ≤ us.length) : TensL (us.drop m) (cs.drop (m * 3)) h := by
  refine ⟨by rw [List.length_drop, List.length_drop, hT.1]; omega, fun i t e => ?_⟩; rw [List.getElem?_drop] at e; have := hT.2 (m + i) t e; rw [List.drop_drop, show m * 3 + i * 3 = (m + i) * 3 by omega]; exact this
theorem TensR.subL {us : List Ten} {v : Value} {h : PH} (r : TensR us v h) {lo : Nat} (h1 : lo ≤ us.length) : TensR (us.drop lo) (subV v lo us.length 3) h := by
  obtain ⟨cs, rr, hc⟩ := r; have q := RowR.sub rr h1 (Nat.le_refl _); refine ⟨_, by rw [List.length_drop]; exact q, fun i t e => ?_⟩; have hi := (List.getElem?_eq_some_iff.1 e).1; rw [List.length_drop] at hi; rw [List.getElem?_drop] at e; have := hc (lo + i) t e; rw [List.drop_take, List.take_take, List.drop_drop, Nat.min_eq_left (by omega), show lo * 3 + i * 3 = (lo + i) * 3 by omega]; exact this
set_option maxHeartbeats 4000000 in
theorem ct_i_joinAll (k p n : Int) (f : Int → Int) (t : Ten) (us : List Ten) (cs : List Value) (v : Value) (w : World) (rr : RowR cs (t :: us).length 3 v (hp w)) (hT : TensL (t :: us) cs (hp w)) (ht : goodT k p n f t) (hu : ∀ u ∈ us, goodT k p n f u) (hl : us.length ≤ 1000) :
    Calls Tryz.prog 79 [ringV k p n, v].toArray w (Ret w emp (JnR k p n t us ((cs.drop (0 * 3)).take 3))) := by
  have r : TensR (t :: us) v (hp w) := hT.tens rr; have hcl : (t :: us).length = us.length + 1 := rfl; have hdl : ((t :: us).drop 1).length = us.length := rfl; have rT1 : TensR us (subV v 1 (t :: us).length 3) (hp w) := r.subL (lo := 1) (by omega); refine calls_in Tryz.func79 rfl Tryz.ntmps79 rfl (Sat.start w) (wp_sc (wp_sq ?_)); refine sq_x rfl (x_box rfl rfl) rfl ?_; rintro _ _ ⟨b2, rfl, rfl⟩; refine sq_x rfl (x_alloc ty_39 rfl) rfl ?_; rintro _ _ ⟨b4, rfl, rfl⟩; refine sq_v rfl (v_assign rfl) rfl (sq_end (qs_n (wp_sc (wp_sq (sq_v rfl (v_move rfl) rfl ?_))))); obtain ⟨t12, a12, b12, c12, ht12, hcs12, rl12, rd12, rx12⟩ := hT.at0 (0) (by first | omega | (rw [List.length_set]; omega)); refine sq_v rfl (v_indexAddr Tryz.underlying30 ty_39 rfl rfl rr (by decide) (by omega) (by omega)) rfl ?_; refine sq_v rfl (v_loadNE 2 ty_39 rfl rfl rr (by have := rr.1; omega) rfl hcs12) rfl ?_; refine sq_x rfl (x_alloc ty_39 rfl) rfl ?_; rintro _ _ ⟨b6, rfl, rfl⟩; refine sq_m 0 rfl rfl (m_store 0 ty_39 rfl rfl rfl rfl (by simp [rl12.sl.one, rd12.sl.one, rx12.sl.one]) rfl (Nat.le_of_ble_eq_true rfl)) rfl ?_; rintro _ _ ⟨rfl, rfl⟩; refine sq_end (qs_n (wp_sc (wp_sc (wp_sq (sq_v rfl (v_move rfl) rfl (sq_v rfl (v_sliceL Tryz.underlying30 ty_39 rfl rfl  rr (by omega) (by omega)) rfl ?_)))))); obtain ⟨cs_T_15, rr_T_15, hc_T_15⟩ := (r.subL (lo := 1) (by omega)).at; refine sq_v rfl (v_len Tryz.underlying30 rfl (r.subL (lo := 1) (by omega)).sl) rfl (sq_v rfl (v_move rfl) rfl (sq_end ?_)); have e12 : t = t12 := by simpa using ht12
  subst e12; rw [hcs12]; refine qs_s [PUn emp (hp w), box b6 [a12, b12, c12] 39, box b4 [.slice none 0 0, .slice none 0 0, .slice none 0 0] 39, box b2 [num k, num p, num n] 29] (fun _ s => Sat.merge (emp_sat (s.pick (HS' := [hp w, box b6 [a12, b12, c12] 39, box b4 [.slice none 0 0, .slice none 0 0, .slice none 0 0] 39, box b2 [num k, num p, num n] 29]) [3, 0, 1, 2] (by decide) rfl))) (qs_n (wp_bl ?_)); refine wp_lp (σ := Nat × Value × Value × Value × PH) (fun z_ => [(2, .pointer (some ⟨b2, 0, none⟩)), (4, .pointer (some ⟨b4, 0, none⟩)), (5, .bool false), (6, .pointer (some ⟨b6, 0, none⟩)), (15, subV v 1 (t :: us).length 3), (16, num ((t :: us).drop 1).length), (17, num z_.1)]) (fun z_ => [(PUn z_.2.2.2.2 (hp w)), box b6 [z_.2.1, z_.2.2.1, z_.2.2.2.1] 39, box b4 [.slice none 0 0, .slice none 0 0, .slice none 0 0] 39, box b2 [num k, num p, num n] 29]) (fun z_ => z_.1 ≤ us.length ∧ PDj z_.2.2.2.2 (hp w) ∧ (∀ j, j < z_.1 → jnFit k p n t us j) ∧ ((z_.1 = 0 ∧ [z_.2.1, z_.2.2.1, z_.2.2.2.1] = [a12, b12, c12]) ∨ TriO (jnTo k p n t us z_.1) z_.2.1 z_.2.2.1 z_.2.2.2.1 z_.2.2.2.2) ∧ IntsR (jnTo k p n t us z_.1).l z_.2.1 (PUn z_.2.2.2.2 (hp w)) ∧ IntsR (jnTo k p n t us z_.1).d z_.2.2.1 (PUn z_.2.2.2.2 (hp w)) ∧ IntsR (jnTo k p n t us z_.1).x z_.2.2.2.1 (PUn z_.2.2.2.2 (hp w))) (fun z_ => us.length - z_.1) (0, a12, b12, c12, emp) (⟨by (try dsimp only); omega, PDj.emp _, fun j hj => by omega, .inl ⟨rfl, rfl⟩, rl12.mono (PLe.un_r (PDj.emp _)), rd12.mono (PLe.un_r (PDj.emp _)), rx12.mono (PLe.un_r (PDj.emp _))⟩) ⟨rfl, rfl, rfl, rfl, rfl, rfl, (by first | rfl | exact ksub rfl (by first | omega | (simp; done) | (simp; omega))), trivial⟩ (fun _ s => s) ?_; rintro ⟨i, va, vb, vc, hl2⟩ ⟨hi, hdj, hfit, hst, q1, q2, q3⟩; dsimp only at hi hdj hfit hst q1 q2 q3 ⊢; obtain ⟨csU, rrU, hcU⟩ := (rT1.mono (PLe.un_r hdj)).at; have hgd := jn_good ht hu i hi hfit; have hln := ten_len hgd.1.1; refine wp_sc (wp_sq (sq_v rfl (v_lss rfl rfl) rfl (sq_end (qs_n (wp_sc ?_))))); refine wp_cd rfl (fun c18 => ?_) (fun c18 => ?_)
  · refine wp_sk (qs_n (wp_sc (wp_bl (wp_sc (wp_sq ?_))))); obtain ⟨t19, a19, b19, c19, ht19, hcs19, rl19, rd19, rx19⟩ := hcU (i) (by first | omega | (rw [List.length_set]; omega)); refine sq_v rfl (v_indexAddr Tryz.underlying30 ty_39 rfl rfl rrU (by decide) (by omega) (by omega)) rfl ?_; refine sq_v rfl (v_loadNE 0 ty_39 rfl rfl rrU (by have := rrU.1; omega) rfl hcs19) rfl ?_; refine sq_x rfl (x_alloc ty_39 rfl) rfl ?_; rintro _ _ ⟨b8, rfl, rfl⟩; refine sq_m 0 rfl rfl (m_store 0 ty_39 rfl rfl rfl rfl (by simp [rl19.sl.one, rd19.sl.one, rx19.sl.one]) rfl (Nat.le_of_ble_eq_true rfl)) rfl ?_; rintro _ _ ⟨rfl, rfl⟩; refine sq_end ?_; have ht19' : us[i]? = some t19 := ht19; have hu19 := hu t19 (List.mem_of_getElem? ht19'); have hln19 := ten_len hu19.1; have hjc := jn_congr (k := k) (p := p) (n := n) (t := t) ht19'; refine qs_n (wp_sc ?_); refine wp_ra (σ := Nat × PH × PH × Value × Value × Value × Value) 14 (fun z_ => IntsO (joinI ((jnTo k p n t us i).l) t19.l) z_.2.2.2.1 z_.2.2.1 ∧ TriO (pairR k p n (jnTo k p n t us i) t19 (joinI ((jnTo k p n t us i).l) t19.l)) z_.2.2.2.2.1 z_.2.2.2.2.2.1 z_.2.2.2.2.2.2 z_.2.1) (fun z_ => [(2, .pointer (some ⟨b2, 0, none⟩)), (4, .pointer (some ⟨b4, 0, none⟩)), (5, .bool false), (6, .pointer (some ⟨b6, 0, none⟩)), (8, .pointer (some ⟨b8, 0, none⟩)), (9, .pointer (some ⟨z_.1, 0, none⟩)), (10, .bool (pairB k p n (jnTo k p n t us i) t19 (joinI ((jnTo k p n t us i).l) t19.l))), (15, subV v 1 (t :: us).length 3), (16, num ((t :: us).drop 1).length), (17, num i), (18, .bool (decide ((i : Int) < ((t :: us).drop 1).length))), (20, .agg [a19, b19, c19].toArray)]) (fun z_ => [box z_.1 [z_.2.2.2.2.1, z_.2.2.2.2.2.1, z_.2.2.2.2.2.2] 39, z_.2.1, z_.2.2.1, box b8 [a19, b19, c19] 39, (PUn hl2 (hp w)), box b6 [va, vb, vc] 39, box b4 [.slice none 0 0, .slice none 0 0, .slice none 0 0] 39, box b2 [num k, num p, num n] 29]) mixed_ok (by kernel_rfl) ?_ ?_
    · refine rak_of (rak_v (i := 0) (by kernel_rfl) rfl rfl (v_loadNB 4 ty_29 rfl rfl rfl rfl) rfl (rak_v (i := 1) (by kernel_rfl) rfl rfl (v_loadNB 2 ty_39 rfl rfl rfl rfl) rfl (rak_v (i := 2) (by kernel_rfl) rfl rfl (v_loadNB 0 ty_39 rfl rfl rfl rfl) rfl (rak_v (i := 3) (by kernel_rfl) rfl rfl (v_fieldAddr fd_39_0 ty_25 (by decide) rfl) rfl (rak_v (i := 4) (by kernel_rfl) rfl rfl (v_loadB 2 ty_25 rfl rfl rfl) rfl (rak_v (i := 5) (by kernel_rfl) rfl rfl (v_fieldAddr fd_39_0 ty_25 (by decide) rfl) rfl (rak_v (i := 6) (by kernel_rfl) rfl rfl (v_loadB 0 ty_25 rfl rfl rfl) rfl ?_))))))); refine rak_2 (i := 7) (j := 12) (by kernel_rfl) ?_ ?_
      · refine rok_x rfl rfl (x_call rfl en_161 (fun w s => ct_i_joinLabels _ _ _ _ w (q1.mono (s.get 1 rfl)) (rl19.mono (s.get 1 rfl)) (by first | assumption | omega))) rfl ?_; rintro v29 h29 r29; refine rak_2 (i := 8) (j := 12) (by kernel_rfl) ?_ ?_
        · refine rok_x rfl rfl (x_call rfl en_99 (fun w s => ct_i_ContractPair _ _ _ _ _ _ _ _ _ _ _ _ _ w (q1.mono (s.get 2 rfl)) (q2.mono (s.get 2 rfl)) (q3.mono (s.get 2 rfl)) (rl19.mono (s.get 2 rfl)) (rd19.mono (s.get 2 rfl)) (rx19.mono (s.get 2 rfl)) (r29.toR.mono (s.get 0 rfl)))) rfl ?_; rintro _ h30 ⟨va30, vb30, vc30, rfl, o30⟩; refine rak_rk [(9, true), (10, true), (11, true), (12, false), (13, false), (14, false)] (by kernel_rfl) rfl (rk_v rfl rfl (v_move rfl) rfl (rk_v rfl rfl (v_extract rfl rfl) rfl (rk_v rfl rfl (v_extract rfl rfl) rfl ?_))); refine rk_xb rfl rfl (x_alloc ty_39 rfl) rfl ?_; rintro _ _ ⟨b9, rfl, rfl⟩; refine rk_m 0 rfl rfl rfl rfl (m_store 0 ty_39 rfl rfl rfl rfl (by simp [o30.toR.1.sl.one, o30.toR.2.1.sl.one, o30.toR.2.2.sl.one]) rfl (Nat.le_of_ble_eq_true rfl)) rfl ?_; rintro _ _ ⟨rfl, rfl⟩; refine rk_fv rfl rfl (v_assign rfl) rfl (rk_end ?_); exact qs_mid (b9, h30, h29, v29, va30, vb30, vc30) ⟨r29, o30⟩ ⟨rfl, rfl, rfl, rfl, rfl, rfl, rfl, rfl, rfl, rfl, rfl, rfl, trivial⟩ (fun _ s => s.pick [0, 1, 2, 3, 4, 5, 6, 7] (by decide) rfl)
        · refine rok_xb rfl rfl (x_alloc ty_39 rfl) rfl ?_; rintro _ _ ⟨b9, rfl, rfl⟩; refine rak_rk [(8, false), (9, true), (10, true), (11, true), (13, false), (14, false)] (by kernel_rfl) rfl ?_; refine rk_x rfl rfl (x_call rfl en_99 (fun w s => ct_i_ContractPair _ _ _ _ _ _ _ _ _ _ _ _ _ w (q1.mono (s.get 3 rfl)) (q2.mono (s.get 3 rfl)) (q3.mono (s.get 3 rfl)) (rl19.mono (s.get 3 rfl)) (rd19.mono (s.get 3 rfl)) (rx19.mono (s.get 3 rfl)) (r29.toR.mono (s.get 1 rfl)))) rfl ?_; rintro _ h30 ⟨va30, vb30, vc30, rfl, o30⟩; refine rk_v rfl rfl (v_move rfl) rfl (rk_v rfl rfl (v_extract rfl rfl) rfl (rk_v rfl rfl (v_extract rfl rfl) rfl ?_)); refine rk_m 1 rfl rfl rfl rfl (m_store 1 ty_39 rfl rfl rfl rfl (by simp [o30.toR.1.sl.one, o30.toR.2.1.sl.one, o30.toR.2.2.sl.one]) rfl (Nat.le_of_ble_eq_true rfl)) rfl ?_; rintro _ _ ⟨rfl, rfl⟩; refine rk_fv rfl rfl (v_assign rfl) rfl (rk_end ?_); exact qs_mid (b9, h30, h29, v29, va30, vb30, vc30) ⟨r29, o30⟩ ⟨rfl, rfl, rfl, rfl, rfl, rfl, rfl, rfl, rfl, rfl, rfl, rfl, trivial⟩ (fun _ s => s.pick [1, 0, 2, 3, 4, 5, 6, 7] (by decide) rfl)
      · refine rok_xb rfl rfl (x_alloc ty_39 rfl) rfl ?_; rintro _ _ ⟨b9, rfl, rfl⟩; refine rak_rk [(7, false), (8, false), (9, true), (10, true), (11, true), (13, false), (14, false)] (by kernel_rfl) rfl ?_; refine rk_x rfl rfl (x_call rfl en_161 (fun w s => ct_i_joinLabels _ _ _ _ w (q1.mono (s.get 2 rfl)) (rl19.mono (s.get 2 rfl)) (by first | assumption | omega))) rfl ?_; rintro v29 h29 r29; refine rk_x rfl rfl (x_call rfl en_99 (fun w s => ct_i_ContractPair _ _ _ _ _ _ _ _ _ _ _ _ _ w (q1.mono (s.get 3 rfl)) (q2.mono (s.get 3 rfl)) (q3.mono (s.get 3 rfl)) (rl19.mono (s.get 3 rfl)) (rd19.mono (s.get 3 rfl)) (rx19.mono (s.get 3 rfl)) (r29.toR.mono (s.get 0 rfl)))) rfl ?_; rintro _ h30 ⟨va30, vb30, vc30, rfl, o30⟩; refine rk_v rfl rfl (v_move rfl) rfl (rk_v rfl rfl (v_extract rfl rfl) rfl (rk_v rfl rfl (v_extract rfl rfl) rfl ?_)); refine rk_m 2 rfl rfl rfl rfl (m_store 2 ty_39 rfl rfl rfl rfl (by simp [o30.toR.1.sl.one, o30.toR.2.1.sl.one, o30.toR.2.2.sl.one]) rfl (Nat.le_of_ble_eq_true rfl)) rfl ?_; rintro _ _ ⟨rfl, rfl⟩; refine rk_fv rfl rfl (v_assign rfl) rfl (rk_end ?_); exact qs_mid (b9, h30, h29, v29, va30, vb30, vc30) ⟨r29, o30⟩ ⟨rfl, rfl, rfl, rfl, rfl, rfl, rfl, rfl, rfl, rfl, rfl, rfl, trivial⟩ (fun _ s => s.pick [2, 0, 1, 3, 4, 5, 6, 7] (by decide) rfl)
    · rintro ⟨b9, h30, h29, v29, va30, vb30, vc30⟩ ⟨r29, o30⟩; dsimp only at r29 o30 ⊢; have hjc := jn_congr (k := k) (p := p) (n := n) (t := t) ht19'; rw [hjc.1] at o30; refine qs_n (wp_sc (wp_sc (wp_sq (sq_v rfl (v_move rfl) rfl (sq_v rfl (v_not rfl) rfl (sq_end (qs_n ?_))))))); refine wp_cn _ rfl (fun c34 => ?_) (fun c34 => ?_)
      · refine wp_sc (wp_sq (sq_v rfl (v_build [.slice none 0 0, .slice none 0 0, .slice none 0 0] rfl (by kernel_rfl)) rfl ?_)); refine sq_m 6 rfl rfl (m_store 6 ty_39 rfl rfl rfl rfl (by simp [one_sl]) rfl (Nat.le_of_ble_eq_true rfl)) rfl ?_; rintro _ _ ⟨rfl, rfl⟩; refine sq_v rfl (v_assign rfl) rfl (sq_end (qs_n (wp_rt (qs_r (qs_br (qs_r (qs_r (qs_br (qs_r (qs_s [hl2, hp w, box b4 [.slice none 0 0, .slice none 0 0, .slice none 0 0] 39] (fun _ s => Sat.part hdj (s.pick [4, 6] (by decide) rfl)) ?_)))))))))); exact qs_retct 2 rfl ty_39 rfl rfl rfl rfl (fin_e (i := 1) rfl ⟨_, _, _, false, rfl, ⟨fun e => (by cases e), fun h => absurd (hjc.2.2 (h i (by omega))) (pairB_false.1 c34)⟩, fun e => (by cases e), rfl, rfl, rfl⟩)
      · refine wp_sk (qs_n (wp_sq (sq_v rfl (v_loadNB 0 ty_39 rfl rfl rfl rfl) rfl ?_))); refine sq_m 5 rfl rfl (m_store 5 ty_39 rfl rfl rfl rfl (by simp [o30.toR.1.sl.one, o30.toR.2.1.sl.one, o30.toR.2.2.sl.one]) rfl (Nat.le_of_ble_eq_true rfl)) rfl ?_; rintro _ _ ⟨rfl, rfl⟩; refine sq_end (qs_bn (qs_n (wp_sq ?_))); refine sq_v rfl (v_add rfl rfl ((by unfold I64; omega))) rfl ?_; refine sq_v rfl (v_move rfl) rfl (sq_end ?_); refine qs_dj 4 1 rfl rfl rfl (fun hdm => ?_); exact qs_bk (i + 1, va30, vb30, vc30, h30) ⟨by (try dsimp only); omega, (hdm.mono (PLe.un_r hdj)).symm, jnB_step hfit (hjc.2.1 (pairB_true.1 c34)), .inr o30, o30.toR.1.mono (PLe.un_l _ _), o30.toR.2.1.mono (PLe.un_l _ _), o30.toR.2.2.mono (PLe.un_l _ _)⟩ (by simp only; omega) ⟨rfl, rfl, rfl, rfl, rfl, rfl, (by first | rfl | exact ksub rfl (by first | omega | (simp; done) | (simp; omega))), trivial⟩ (fun _ s => Sat.merge ((Sat.part hdj (s.pick (HS' := [PUn hl2 (hp w), h30, box b6 [va30, vb30, vc30] 39, box b4 [.slice none 0 0, .slice none 0 0, .slice none 0 0] 39, box b2 [num k, num p, num n] 29]) [4, 1, 5, 6, 7] (by decide) rfl)).pick (HS' := [h30, hp w, box b6 [va30, vb30, vc30] 39, box b4 [.slice none 0 0, .slice none 0 0, .slice none 0 0] 39, box b2 [num k, num p, num n] 29]) [2, 1, 3, 4, 5] (by decide) rfl))
  · refine wp_ex (qs_x (qs_x (qs_bx (qs_n (wp_sc (wp_sq (sq_v rfl (v_loadNB 1 ty_39 rfl rfl rfl rfl) rfl ?_))))))); refine sq_m 2 rfl rfl (m_store 2 ty_39 rfl rfl rfl rfl (by simp [q1.sl.one, q2.sl.one, q3.sl.one]) rfl (Nat.le_of_ble_eq_true rfl)) rfl ?_; rintro _ _ ⟨rfl, rfl⟩; refine sq_v rfl (v_assign rfl) rfl (sq_end (qs_n (wp_rt (qs_s [hl2, box b4 [va, vb, vc] 39, hp w] (fun _ s => (Sat.part hdj (s.pick (HS' := [PUn hl2 (hp w), box b4 [va, vb, vc] 39]) [0, 2] (by decide) rfl)).pick [0, 2, 1] (by decide) rfl) ?_)))); have ei : i = us.length := by have : ((t :: us).drop 1).length = us.length := rfl; omega
    subst ei; exact qs_retct 1 rfl ty_39 rfl rfl rfl rfl (fin_t 0 (i := 2) rfl rfl rfl ⟨_, _, _, true, rfl, ⟨fun _ => hfit, fun _ => rfl⟩, fun _ => hst.imp (fun h => ⟨List.eq_nil_of_length_eq_zero h.1, h.2⟩) id, q1.sl.one, q2.sl.one, q3.sl.one⟩)
end Go.Proofs.YtmddmahaikineaaGreat
namespace Go.Proofs.YtmddmahaikineaaGreat
set_option maxRecDepth 100000
open Go.RowKit
theorem dotTo_cons (a b : Int) (xs ys : List Int) : ∀ m, dotTo (a :: xs) (b :: ys) (m + 1) = a * b + dotTo xs ys m
  | 0 => by simp [dotTo]
  | m + 1 => by
    have ih := dotTo_cons a b xs ys m; rw [dotTo, ih, dotTo]; simp only [List.getD_cons_succ]
    omega
theorem dotL_cons (a b : Int) (xs ys : List Int) : dotL (a :: xs) (b :: ys) = a * b + dotL xs ys := by
  unfold dotL
  rw [List.length_cons, dotTo_cons]
theorem steps_skip {labels ls ds : List Int} {l d : Int} (h : l ∉ labels) : stepsL labels (l :: ls) (d :: ds) = stepsL labels ls ds :=
  List.map_congr_left fun x hx => by simp only [strOf]; rw [if_neg (fun e => h (by rw [← e]; exact hx))]
theorem sl_full : ∀ {ls ds is : List Int}, ls.Nodup → ls.length = ds.length → is.length = ls.length → dotL (stepsL ls ls ds) is = offL ds is
  | [], [], [], _, _, _ => by simp [dotL, stepsL, dotTo, offL]
  | l :: ls, d :: ds, i :: is, hn, hl, hi => by
    have hn' := List.nodup_cons.1 hn; have ih := sl_full (ls := ls) (ds := ds) (is := is) hn'.2 (by simpa using hl) (by simpa using hi); have e : stepsL (l :: ls) (l :: ls) (d :: ds) = prodI ds :: stepsL ls ls ds := by
      rw [← steps_skip (l := l) (d := d) hn'.1]
      simp [stepsL, strOf]
    rw [e, dotL_cons, ih, offL, Int.mul_comm]
  | [], _ :: _, _, _, hl, _ => by simp at hl
  | _ :: _, [], _, _, hl, _ => by simp at hl
  | [], [], _ :: _, _, _, hi => by simp at hi
  | _ :: _, _ :: _, [], _, _, hi => by simp at hi
theorem sl_dot : ∀ {ls ds is : List Int} {j : Nat} (v : Int), ls.Nodup → ls.length = ds.length → j < ls.length → is.length + 1 = ls.length → v * strOf ls ds (ls.getD j 0) + dotL (stepsL (ls.eraseIdx j) ls ds) is = offL ds (is.insertIdx j v)
  | l :: ls, d :: ds, is, 0, v, hn, hl, _, hi => by
    have hn' := List.nodup_cons.1 hn; have h := sl_full (ls := ls) (ds := ds) (is := is) hn'.2 (by simpa using hl) (by simpa using hi); rw [List.eraseIdx_zero, List.tail_cons, steps_skip hn'.1, h]
    simp [strOf, offL]
  | l :: ls, d :: ds, i :: is, j + 1, v, hn, hl, hj, hi => by
    have hn' := List.nodup_cons.1 hn; have hj' : j < ls.length := by simpa using hj
    have ih := sl_dot (ls := ls) (ds := ds) (is := is) (j := j) v hn'.2 (by simpa using hl) hj' (by simpa using hi); have hne : ls.getD j 0 ≠ l := fun e => hn'.1 (e ▸ mem_getD hj'); have hm : l ∉ ls.eraseIdx j := fun h => hn'.1 (List.mem_of_mem_eraseIdx h); have e : stepsL (l :: ls.eraseIdx j) (l :: ls) (d :: ds) = prodI ds :: stepsL (ls.eraseIdx j) ls ds := by
      rw [← steps_skip (l := l) (d := d) hm]
      simp [stepsL, strOf]
    rw [List.eraseIdx_cons_succ, e, dotL_cons, List.insertIdx_succ_cons, offL, ← ih, List.getD_cons_succ]; simp only [strOf]; rw [if_neg hne, Int.mul_comm (prodI ds)]
    omega
  | [], _, _, _, _, _, _, hj, _ => by simp at hj
  | _ :: _, [], _, _, _, _, hl, _, _ => by simp at hl
  | l :: ls, _ :: _, [], j + 1, _, _, _, hj, hi => by
    have h1 : (l :: ls).length = ls.length + 1 := rfl; have h2 : ([] : List Int).length = 0 := rfl
    omega
theorem idxL_cons (d : Int) (ds : List Int) (n : Int) : idxL (d :: ds) n = (n / prodI ds % d) :: idxL ds n := by
  unfold idxL
  rw [List.length_cons, List.range_succ_eq_map, List.map_cons, List.map_map]
  rfl
theorem idxL_shift : ∀ {ds : List Int} (_ : ∀ d ∈ ds, 1 ≤ d) (q m : Int), idxL ds (q * prodI ds + m) = idxL ds m
  | [], _, q, m => rfl
  | d :: ds, hd, q, m => by
    have h1 := prodI_one (ds := ds) fun x hx => hd x (by simp [hx]); have hd1 := hd d (by simp); have ih := idxL_shift (ds := ds) (fun x hx => hd x (by simp [hx])) (q * d) m; have e : q * prodI (d :: ds) + m = q * d * prodI ds + m := by rw [prodI_cons, Int.mul_assoc]
    rw [e, idxL_cons, idxL_cons, ih]
    congr 1
    rw [Int.add_comm, Int.add_mul_ediv_right _ _ (by omega), Int.add_mul_emod_self_right]
theorem range_blocks (b : Nat) : ∀ a : Nat, List.range (a * b) = (List.range a).flatMap fun q => (List.range b).map fun r => q * b + r
  | 0 => by simp
  | a + 1 => by
    rw [Nat.add_mul, Nat.one_mul, List.range_add, range_blocks b a, List.range_succ, List.flatMap_append]
    simp
theorem one_block {α : Type} (g : Nat → List α) {v : Nat} : ∀ {a : Nat}, v < a → (List.range a).flatMap (fun q => if q = v then g q else []) = g v
  | 0, h => by omega
  | a + 1, h => by
    rw [List.range_succ, List.flatMap_append]
    by_cases e : a = v
    · subst e; have h0 : (List.range a).flatMap (fun q => if q = a then g q else []) = [] := List.flatMap_eq_nil_iff.2 fun q hq => by
        have := List.mem_range.1 hq; rw [if_neg (by omega)]
      rw [h0]; simp
    · rw [one_block g (show v < a by omega)]; simp [e]
theorem flatMap_congr' {α β : Type} {l : List α} {f g : α → List β} (h : ∀ x ∈ l, f x = g x) : l.flatMap f = l.flatMap g := by
  induction l with
  | nil => rfl
  | cons x l ih => rw [List.flatMap_cons, List.flatMap_cons, h x (by simp), ih fun y hy => h y (by simp [hy])]
theorem filter_flatMap {α β : Type} (p : β → Bool) (f : α → List β) (l : List α) : (l.flatMap f).filter p = l.flatMap fun x => (f x).filter p := by
  induction l with
  | nil => rfl
  | cons x l ih => rw [List.flatMap_cons, List.flatMap_cons, List.filter_append, ih]
theorem map_flatMap' {α β γ : Type} (g : β → γ) (f : α → List β) (l : List α) : (l.flatMap f).map g = l.flatMap fun x => (f x).map g := by
  induction l with
  | nil => rfl
  | cons x l ih => rw [List.flatMap_cons, List.flatMap_cons, List.map_append, ih]
def slHas (ds : List Int) (j : Nat) (v : Int) (n : Nat) : Bool := decide ((idxL ds n).getD j 0 = v)
def slTo (ds : List Int) (j : Nat) (v : Int) (m : Nat) : List Nat := (List.range m).filter (slHas ds j v)
def slAt (ds : List Int) (j : Nat) (v : Int) (m : Nat) : Nat := (offL ds ((idxL (ds.eraseIdx j) m).insertIdx j v)).toNat
theorem ins_in {ds is : List Int} {j : Nat} {v : Int} (hj : j < ds.length) (hv : 0 ≤ v ∧ v < ds.getD j 0) (h : idxIn (ds.eraseIdx j) is) : idxIn ds (is.insertIdx j v) := by
  have hl := h.1; rw [List.length_eraseIdx_of_lt hj] at hl; refine ⟨by rw [List.length_insertIdx_of_le_length (by omega)]; omega, fun i hi => ?_⟩
  rcases Nat.lt_trichotomy i j with c | c | c
  · have e1 : (is.insertIdx j v).getD i 0 = is.getD i 0 := by simp only [List.getD]; rw [List.getElem?_insertIdx_of_lt c]
    have e2 : (ds.eraseIdx j).getD i 0 = ds.getD i 0 := by simp only [List.getD]; rw [List.getElem?_eraseIdx_of_lt c]
    have := h.2 i (by rw [List.length_eraseIdx_of_lt hj]; omega); rw [e1, ← e2]; exact this
  · subst c; have e1 : (is.insertIdx i v).getD i 0 = v := by simp only [List.getD]; rw [List.getElem?_insertIdx_self, if_pos (by omega)]; rfl
    rw [e1]; exact hv
  · have e1 : (is.insertIdx j v).getD i 0 = is.getD (i - 1) 0 := by simp only [List.getD]; rw [List.getElem?_insertIdx_of_gt c]
    have e2 : (ds.eraseIdx j).getD (i - 1) 0 = ds.getD i 0 := by
      simp only [List.getD]; rw [List.getElem?_eraseIdx_of_ge (by omega), show i - 1 + 1 = i by omega]
    have := h.2 (i - 1) (by rw [List.length_eraseIdx_of_lt hj]; omega); rw [e1, ← e2]; exact this
theorem erase_mem {ds : List Int} {j : Nat} {p : Int → Prop} (h : ∀ d ∈ ds, p d) : ∀ d ∈ ds.eraseIdx j, p d := fun d hd => h d (List.mem_of_mem_eraseIdx hd)
theorem sl_in {ds : List Int} (hd : ∀ d ∈ ds, 1 ≤ d) {j : Nat} (hj : j < ds.length) {v : Int} (hv : 0 ≤ v ∧ v < ds.getD j 0) (m : Int) : 0 ≤ offL ds ((idxL (ds.eraseIdx j) m).insertIdx j v) ∧ offL ds ((idxL (ds.eraseIdx j) m).insertIdx j v) ≤ prodI ds - 1 :=
  offL_in hd (ins_in hj hv (idxL_in (erase_mem hd) m))
theorem sl_eq : ∀ {ds : List Int} (_ : ∀ d ∈ ds, 1 ≤ d) {j : Nat} (_ : j < ds.length) {v : Int} (_ : 0 ≤ v ∧ v < ds.getD j 0), slTo ds j v (prodI ds).toNat = (List.range (prodI (ds.eraseIdx j)).toNat).map (slAt ds j v)
  | [], _, j, hj, _, _ => by simp at hj
  | d :: ds, hd, 0, _, v, hv => by
    have hd' : ∀ x ∈ ds, 1 ≤ x := fun x hx => hd x (by simp [hx]); have hd1 := hd d (by simp); have hP := prodI_one hd'; have hv' : 0 ≤ v ∧ v < d := by simpa using hv
    have eP : (prodI (d :: ds)).toNat = d.toNat * (prodI ds).toNat := by rw [prodI_cons, Int.toNat_mul (by omega) (by omega)]
    rw [slTo, eP, range_blocks, filter_flatMap, List.eraseIdx_zero, List.tail_cons]; have e : ∀ q ∈ List.range d.toNat, ((List.range (prodI ds).toNat).map fun r => q * (prodI ds).toNat + r).filter (slHas (d :: ds) 0 v) = if q = v.toNat then (List.range (prodI ds).toNat).map fun r => q * (prodI ds).toNat + r else [] := fun q hq => by
      have hq' := List.mem_range.1 hq; have hdig : ∀ r, r < (prodI ds).toNat → slHas (d :: ds) 0 v (q * (prodI ds).toNat + r) = decide (q = v.toNat) := fun r hr => by
        unfold slHas
        rw [idxL_cons]; have e1 : ((q * (prodI ds).toNat + r : Nat) : Int) = r + q * prodI ds := by
          rw [Int.natCast_add, Int.natCast_mul, show (((prodI ds).toNat : Nat) : Int) = prodI ds by omega, Int.add_comm]
        rw [e1, Int.add_mul_ediv_right _ _ (by omega), Int.ediv_eq_zero_of_lt (by omega) (by omega), Int.zero_add, Int.emod_eq_of_lt (by omega) (by omega), Bool.eq_iff_iff, decide_eq_true_eq, decide_eq_true_eq]; simp only [List.getD_cons_zero]
        omega
      by_cases c : q = v.toNat
      · rw [if_pos c, List.filter_eq_self]; intro x hx; obtain ⟨r, hr, rfl⟩ := List.mem_map.1 hx; rw [hdig r (List.mem_range.1 hr)]; simpa using c
      · rw [if_neg c, List.filter_eq_nil_iff]; intro x hx; obtain ⟨r, hr, rfl⟩ := List.mem_map.1 hx; rw [hdig r (List.mem_range.1 hr)]; simpa using c
    rw [flatMap_congr' e, one_block _ (show v.toNat < d.toNat by omega)]; refine List.map_congr_left fun r hr => ?_; have hr' := List.mem_range.1 hr
    unfold slAt
    rw [List.eraseIdx_zero, List.tail_cons, List.insertIdx_zero, offL, offL_idx hd' (by omega) (by omega), Int.toNat_add (Int.mul_nonneg hv'.1 (by omega)) (by omega), Int.toNat_mul hv'.1 (by omega)]
    simp
  | d :: ds, hd, j + 1, hj, v, hv => by
    have hd' : ∀ x ∈ ds, 1 ≤ x := fun x hx => hd x (by simp [hx]); have hd1 := hd d (by simp); have hP := prodI_one hd'; have hj' : j < ds.length := by simpa using hj
    have hv' : 0 ≤ v ∧ v < ds.getD j 0 := by simpa using hv
    have he := erase_mem (j := j) hd'; have hP' := prodI_one he; have ih := sl_eq hd' hj' hv'; have eP : (prodI (d :: ds)).toNat = d.toNat * (prodI ds).toNat := by rw [prodI_cons, Int.toNat_mul (by omega) (by omega)]
    have eP' : (prodI ((d :: ds).eraseIdx (j + 1))).toNat = d.toNat * (prodI (ds.eraseIdx j)).toNat := by rw [List.eraseIdx_cons_succ, prodI_cons, Int.toNat_mul (by omega) (by omega)]
    rw [slTo, eP, eP', range_blocks, range_blocks, filter_flatMap, map_flatMap']; refine flatMap_congr' fun q hq => ?_; have hq' := List.mem_range.1 hq; rw [List.filter_map]; have e2 : (slHas (d :: ds) (j + 1) v ∘ fun r => q * (prodI ds).toNat + r) = slHas ds j v := by
      funext r
      simp only [Function.comp, slHas]; rw [idxL_cons, List.getD_cons_succ]; have e1 : ((q * (prodI ds).toNat + r : Nat) : Int) = q * prodI ds + r := by
        rw [Int.natCast_add, Int.natCast_mul, show (((prodI ds).toNat : Nat) : Int) = prodI ds by omega]
      rw [e1, idxL_shift hd']
    rw [e2]; have ih' : (List.range (prodI ds).toNat).filter (slHas ds j v) = (List.range (prodI (ds.eraseIdx j)).toNat).map (slAt ds j v) := ih; rw [ih', List.map_map, List.map_map]; refine List.map_congr_left fun m hm => ?_; have hm' := List.mem_range.1 hm; have hin := sl_in hd' hj' hv' m; simp only [Function.comp, slAt]; have e1 : ((q * (prodI (ds.eraseIdx j)).toNat + m : Nat) : Int) = m + q * prodI (ds.eraseIdx j) := by
      rw [Int.natCast_add, Int.natCast_mul, show (((prodI (ds.eraseIdx j)).toNat : Nat) : Int) = prodI (ds.eraseIdx j) by omega, Int.add_comm]
    rw [List.eraseIdx_cons_succ, idxL_cons, e1, Int.add_mul_ediv_right _ _ (by omega), Int.ediv_eq_zero_of_lt (by omega) (by omega), Int.zero_add, Int.emod_eq_of_lt (by omega) (by omega), List.insertIdx_succ_cons, offL, Int.add_comm (m : Int), idxL_shift he,
      Int.toNat_add (Int.mul_nonneg (by omega) (by omega)) hin.1, Int.toNat_mul (by omega) (by omega)]
    simp
end Go.Proofs.YtmddmahaikineaaGreat
namespace Go.Proofs.YtmddmahaikineaaGreat
set_option maxRecDepth 100000
open Go.RowKit
theorem one_drop_none {α : Type} {l : List α} {k : Nat} (h : l[k]? = none) : (l.drop (k * 1)).take 1 = [] := by
  rw [Nat.mul_one, List.drop_of_length_le (List.getElem?_eq_none_iff.1 h)]; rfl
theorem mem_dropK {α : Type} {l : List α} {p q : Nat} {t : α} : ∀ k, t ∈ dropK 1 l p q k ↔ ∃ m, m < k ∧ m ≠ p ∧ m ≠ q ∧ l[m]? = some t
  | 0 => by simp [dropK]
  | k + 1 => by
    have ih := mem_dropK (l := l) (p := p) (q := q) (t := t) k; have hx : t ∈ (l.drop (k * 1)).take 1 ↔ l[k]? = some t := by
      cases h : l[k]? with
      | none => rw [one_drop_none h]; simp
      | some x => rw [one_drop h]; simp [eq_comm]
    by_cases hc : k ≠ p ∧ k ≠ q
    · rw [dropK_yes hc, List.mem_append, ih, hx]
      constructor
      · rintro (⟨m, h1, h2⟩ | h)
        · exact ⟨m, by omega, h2⟩
        · exact ⟨k, by omega, hc.1, hc.2, h⟩
      · rintro ⟨m, h1, h2, h3, h4⟩
        by_cases e : m = k
        · subst e; exact .inr h4
        · exact .inl ⟨m, by omega, h2, h3, h4⟩
    · rw [dropK_no hc, ih]
      constructor
      · rintro ⟨m, h1, h2⟩; exact ⟨m, by omega, h2⟩
      · rintro ⟨m, h1, h2, h3, h4⟩; have : m ≠ k := fun e => hc (e ▸ ⟨h2, h3⟩); exact ⟨m, by omega, h2, h3, h4⟩
def needS (ts : List Ten) (op : List Int) (i j m : Nat) : List Int := op ++ (dropK 1 ts i j m).flatMap (·.l)
section
variable {ts : List Ten} {op : List Int} {i j k : Nat} {t : Ten}
end
theorem net_has {k p n : Int} {ts : List Ten} {op : List Int} (h : netL k p n ts op) {x : Int} (hx : x ∈ op) : ∃ t ∈ ts, x ∈ t.l := by
  obtain ⟨j, hj, e⟩ := getD_of_mem hx; have ho := (open_at h.2.2.2.2 hj).2; rw [e] at ho; exact dimOf_mem (by omega)
def mgLo (i j : Int) : Nat := (min i j).toNat
def mgHi (i j : Int) : Nat := (max i j).toNat
def mgA (ts : List Ten) (i j : Int) : Ten := ts.getD (mgLo i j) noTen
def mgB (ts : List Ten) (i j : Int) : Ten := ts.getD (mgHi i j) noTen
def mergN (ts : List Ten) (op : List Int) (i j : Int) : List Int := needS ts op i.toNat j.toNat ts.length
def mergP (k p n : Int) (ts : List Ten) (op : List Int) (i j : Int) : Prop := netL k p n ts op ∧ (0 ≤ i ∧ i < ts.length) ∧ (0 ≤ j ∧ j < ts.length) ∧ i ≠ j ∧ pairP k p n (mgA ts i j) (mgB ts i j) (mergN ts op i j)
noncomputable def mergT (k p n : Int) (ts : List Ten) (op : List Int) (i j : Int) : Ten := pairR k p n (mgA ts i j) (mgB ts i j) (mergN ts op i j)
noncomputable def mergL (k p n : Int) (ts : List Ten) (op : List Int) (i j : Int) (m : Nat) : List Ten := dropK 1 (ts.set (mgLo i j) (mergT k p n ts op i j)) (mgHi i j) (mgHi i j) m
section
variable {k p n : Int} {ts : List Ten} {op : List Int} {i j : Int}
theorem merg_hi {m : Nat} (h : (m : Int) = max i j) : mergL k p n ts op i j (m + 1) = mergL k p n ts op i j m := by
  have e : m = mgHi i j := by unfold mgHi; omega
  unfold mergL
  rw [dropK_no (by omega)]
theorem merg_len (m : Nat) : (mergL k p n ts op i j m).length ≤ m := by
  have := dropK_len (m := 1) (cs := ts.set (mgLo i j) (mergT k p n ts op i j)) (p := mgHi i j) (q := mgHi i j) m
  unfold mergL; omega
theorem mergP.mem (h : mergP k p n ts op i j) {t : Ten} : t ∈ mergL k p n ts op i j ts.length ↔ t = mergT k p n ts op i j ∨ ∃ m, m < ts.length ∧ m ≠ mgLo i j ∧ m ≠ mgHi i j ∧ ts[m]? = some t := by
  obtain ⟨_, hi, hj, hne, _⟩ := h; have e : mgLo i j ≠ mgHi i j := by unfold mgLo mgHi; omega
  have e2 : mgLo i j < ts.length := by unfold mgLo; omega
  rw [mergL, mem_dropK]
  constructor
  · rintro ⟨m, h1, h2, _, h4⟩
    by_cases c : mgLo i j = m
    · subst c; rw [List.getElem?_set_self h1] at h4
      cases h4; exact .inl rfl
    · rw [List.getElem?_set_ne c] at h4; exact .inr ⟨m, h1, Ne.symm c, h2, h4⟩
  · rintro (rfl | ⟨m, h1, h2, h3, h4⟩)
    · exact ⟨mgLo i j, e2, e, e, List.getElem?_set_self e2⟩
    · exact ⟨m, h1, h3, h3, by rw [List.getElem?_set_ne (Ne.symm h2)]; exact h4⟩
theorem mergP.less (h : mergP k p n ts op i j) : (mergL k p n ts op i j ts.length).length + 1 ≤ ts.length := by
  obtain ⟨_, hi, hj, hne, _⟩ := h; have e : mgHi i j < ts.length := by unfold mgHi; omega
  have hs : ∀ (c m : Nat), mgHi i j < m → m = mgHi i j + 1 + c → (mergL k p n ts op i j m).length + 1 ≤ m := by
    intro c
    induction c with
    | zero =>
      intro m hm e; have := merg_len (k := k) (p := p) (n := n) (ts := ts) (op := op) (i := i) (j := j) (mgHi i j); rw [show m = mgHi i j + 1 by omega, merg_hi (by unfold mgHi; omega)]
      omega
    | succ c ih =>
      intro m hm e; have ih := ih (mgHi i j + 1 + c) (by omega) rfl; have e3 : mgHi i j + 1 + c ≠ mgHi i j := by omega
      rw [show m = (mgHi i j + 1 + c) + 1 by omega, mergL, dropK_yes ⟨e3, e3⟩, List.length_append, List.length_take]
      unfold mergL at ih
      omega
  exact hs (ts.length - (mgHi i j + 1)) ts.length e (by omega)
end
end Go.Proofs.YtmddmahaikineaaGreat
namespace Go.Proofs.YtmddmahaikineaaGreat
set_option maxRecDepth 100000
open Go.RowKit
theorem prod_erase : ∀ {ds : List Int} {j : Nat}, j < ds.length → prodI (ds.eraseIdx j) * ds.getD j 0 = prodI ds
  | [], j, h => by simp at h
  | d :: ds, 0, _ => by rw [List.eraseIdx_zero, List.tail_cons, prodI_cons, Int.mul_comm]; rfl
  | d :: ds, j + 1, h => by
    have ih := prod_erase (ds := ds) (j := j) (by simpa using h); rw [List.eraseIdx_cons_succ, prodI_cons, prodI_cons, List.getD_cons_succ, Int.mul_assoc, ih]
def slJ (t : Ten) (x : Int) : Nat := (findI t.l x).toNat
def slX (wd : Int) (t : Ten) (j : Nat) (v : Int) (m : Nat) : List Int := (slTo t.d j v m).flatMap fun (n : Nat) => elt t.x wd n
noncomputable def slT (k n : Int) (t : Ten) (x v : Int) : Ten := ⟨t.l.eraseIdx (slJ t x), t.d.eraseIdx (slJ t x), slX (widthI k n) t (slJ t x) v (prodI t.d).toNat⟩
/-- The numbers as the program meets them. -/
def slY (wd : Int) (t : Ten) (j : Nat) (v : Int) (m : Nat) : List Int := ((List.range m).map (slAt t.d j v)).flatMap fun (n : Nat) => elt t.x wd n
theorem slY_step {wd : Int} {t : Ten} {j m : Nat} {v : Int} : slY wd t j v (m + 1) = slY wd t j v m ++ elt t.x wd (slAt t.d j v m) := by
  unfold slY
  rw [List.range_succ, List.map_append, List.flatMap_append]
  simp
structure SlOK (k p n : Int) (t : Ten) (x v : Int) : Prop where
  ten : tensorL k p n t.l t.d t.x
  mem : x ∈ t.l
  val : 0 ≤ v ∧ v < t.d.getD (slJ t x) 0
section
variable {k p n : Int} {t : Ten} {x v : Int}
theorem sl_j (h : tensorL k p n t.l t.d t.x) (hx : x ∈ t.l) : slJ t x < t.l.length ∧ slJ t x < t.d.length ∧ t.l.getD (slJ t x) 0 = x := by
  have hg := findI_get hx; have ha := ten_axes h; exact ⟨hg.1, by rw [← ha.2.1]; exact hg.1, hg.2⟩
theorem SlOK.eq (h : SlOK k p n t x v) : slX (widthI k n) t (slJ t x) v (prodI t.d).toNat = slY (widthI k n) t (slJ t x) v (prodI (t.d.eraseIdx (slJ t x))).toNat := by
  have hj := sl_j h.ten h.mem
  unfold slX slY
  rw [sl_eq (fun d hd => (dims_mem (axes_dims (ten_axes h.ten)) d hd).1) hj.2.1 h.val]
theorem SlOK.at_ (h : SlOK k p n t x v) (m : Nat) : slAt t.d (slJ t x) v m < (prodI t.d).toNat ∧ ((slAt t.d (slJ t x) v m : Nat) : Int) = v * strOf t.l t.d x + dotL (stepsL (t.l.eraseIdx (slJ t x)) t.l t.d) (idxL (t.d.eraseIdx (slJ t x)) m) := by
  have hj := sl_j h.ten h.mem; have ha := ten_axes h.ten; have hd : ∀ d ∈ t.d, 1 ≤ d := fun d hd => (dims_mem (axes_dims ha) d hd).1; have hin := sl_in hd hj.2.1 h.val m; have hs := sl_dot (ls := t.l) (ds := t.d) (is := idxL (t.d.eraseIdx (slJ t x)) m) (j := slJ t x) v (axes_nodup ha) ha.2.1 hj.1 (by rw [idxL_len, List.length_eraseIdx_of_lt hj.2.1]; have := hj.2.1; have := ha.2.1; omega); rw [hj.2.2] at hs
  unfold slAt
  omega
theorem SlOK.dims (h : SlOK k p n t x v) : dimsIn (t.d.eraseIdx (slJ t x)) ∧ 1 ≤ prodI (t.d.eraseIdx (slJ t x)) ∧ prodI (t.d.eraseIdx (slJ t x)) ≤ 4096 := by
  have hj := sl_j h.ten h.mem; have ha := ten_axes h.ten; have hm := erase_mem (j := slJ t x) (dims_mem (axes_dims ha)); have hp1 := prodI_one fun d hd => (hm d hd).1; have hpe := prod_erase hj.2.1; have hd := axes_dims ha (slJ t x) hj.2.1; have hp := ten_prod h.ten; have h1 : prodI (t.d.eraseIdx (slJ t x)) * 1 ≤ prodI (t.d.eraseIdx (slJ t x)) * t.d.getD (slJ t x) 0 := Int.mul_le_mul_of_nonneg_left hd.1 (by omega); exact ⟨fun j hj => hm _ (mem_getD hj), hp1, by omega⟩
theorem SlOK.el (h : SlOK k p n t x v) (m : Nat) : InR k p n (elt t.x (widthI k n) (slAt t.d (slJ t x) v m)) := by
  have := (h.at_ m).1; exact elt_inR h.ten (by omega) (by omega)
theorem SlOK.all (h : SlOK k p n t x v) : ∀ m : Nat, ((slY (widthI k n) t (slJ t x) v m).length : Int) = m * widthI k n ∧ ∀ a ∈ slY (widthI k n) t (slJ t x) v m, 0 ≤ a ∧ a ≤ topI k p n
  | 0 => by simp [slY]
  | m + 1 => by
    have ih := SlOK.all h m; have he := h.el m; have hw := width_range h.ten.1; rw [slY_step]; refine ⟨?_, fun a ha => ?_⟩
    · rw [List.length_append, he.1, Int.natCast_add, ih.1, show ((m + 1 : Nat) : Int) = (m : Int) + 1 from rfl, Int.add_mul, Int.one_mul]; omega
    · rcases List.mem_append.1 ha with ha | ha
      · exact ih.2 a ha
      · exact he.2 a ha
theorem SlOK.axes (h : SlOK k p n t x v) : axesL (t.l.eraseIdx (slJ t x)) (t.d.eraseIdx (slJ t x)) := by
  have hj := sl_j h.ten h.mem; have ha := ten_axes h.ten; have hl := List.length_eraseIdx_of_lt hj.1; have hl2 := List.length_eraseIdx_of_lt hj.2.1; have hn : (t.l.eraseIdx (slJ t x)).Nodup := (axes_nodup ha).sublist (List.eraseIdx_sublist _ _); refine ⟨by rw [hl]; have := ha.1; omega, by rw [hl, hl2, ha.2.1], fun i hi => ⟨?_, h.dims.1 i (by rw [hl] at hi; rw [hl2]; have := ha.2.1; omega), nodup_not_take hn hi⟩⟩; obtain ⟨q, hq, e⟩ := getD_of_mem (List.mem_of_mem_eraseIdx (mem_getD hi)); rw [← e]; exact (ha.2.2 q hq).1
theorem SlOK.out (h : SlOK k p n t x v) : tensorL k p n (slT k n t x v).l (slT k n t x v).d (slT k n t x v).x := by
  have hd := h.dims; have ha := h.axes; have hx := h.all (prodI (t.d.eraseIdx (slJ t x))).toNat; refine ⟨h.ten.1, sizeI_ge.2 ⟨ha, hd.2.2⟩, ?_, fun a hm => ?_⟩
  · show ((slX (widthI k n) t (slJ t x) v (prodI t.d).toNat).length : Int) = sizeI (t.l.eraseIdx (slJ t x)) (t.d.eraseIdx (slJ t x)) * widthI k n
    rw [h.eq, sizeI_yes ha hd.2.2, hx.1, show (((prodI (t.d.eraseIdx (slJ t x))).toNat : Nat) : Int) = prodI (t.d.eraseIdx (slJ t x)) by omega]
  · have hm' : a ∈ slX (widthI k n) t (slJ t x) v (prodI t.d).toNat := hm; rw [h.eq] at hm'; exact hx.2 a hm'
end
end Go.Proofs.YtmddmahaikineaaGreat
namespace Go.Proofs.YtmddmahaikineaaGreat
set_option maxRecDepth 100000
open Go.RowKit
theorem ct_i_withoutInt (ls : List Int) (x : Int) (v : Value) (w : World) (r : IntsR ls v (hp w)) (hs : ls.length ≤ 1048576) :
    Calls Tryz.prog 81 [v, num x].toArray w (Ret w emp (IntsO (ls.filter fun y => decide (y ≠ x)))) := by
  refine calls_in Tryz.func81 rfl Tryz.ntmps81 rfl (Sat.start w) ?_; have hle0 := r.le; refine wp_sc (wp_sq (sq_v rfl (v_assign rfl) rfl (sq_end (qs_n (wp_sc (wp_sq (sq_v rfl (v_assign rfl) rfl (sq_end (qs_n (wp_sc (wp_sc (wp_sq (sq_v rfl (v_move rfl) rfl (sq_v rfl (v_len Tryz.underlying25 rfl r.sl) rfl (sq_v rfl (v_move rfl) rfl (sq_end (qs_n (wp_bl ?_)))))))))))))))))); refine wp_lp (σ := Nat × Value × PH) (fun z_ => [(1, num x), (4, .slice none 0 0), (5, z_.2.1), (8, v), (9, num ls.length), (10, num z_.1)]) (fun z_ => [z_.2.2, hp w]) (fun z_ => z_.1 ≤ ls.length ∧ IntsO ((ls.take z_.1).filter fun y => decide (y ≠ x)) z_.2.1 z_.2.2) (fun z_ => ls.length - z_.1) (0, .slice none 0 0, emp) (⟨by (try dsimp only); omega, IntsO.nil⟩) ⟨rfl, rfl, rfl, rfl, rfl, rfl, trivial⟩ (fun _ s => (emp_sat s)) ?_; rintro ⟨i, lv, lh⟩ ⟨hi, q⟩; dsimp only at hi q ⊢; have hle_q := q.toR.le; have hfl := filter_take_len ls (fun y => decide (y ≠ x)) i; refine wp_sc (wp_sq (sq_v rfl (v_lss rfl rfl) rfl (sq_end (qs_n (wp_sc ?_))))); refine wp_cd rfl (fun c11 => ?_) (fun c11 => ?_)
  · refine wp_sk (qs_n (wp_sc (wp_bl (wp_sc (wp_sq (sq_v rfl (v_idxI Tryz.underlying25 ty_3 rfl rfl r (by omega) (by omega)) rfl (sq_v rfl (v_loadI (k := i) 1 ty_3 rfl rfl r (by omega)) rfl (sq_v rfl (v_assign rfl) rfl (sq_end (qs_n (wp_sc (wp_sq (sq_v rfl (v_move rfl) rfl (sq_v rfl (v_move rfl) rfl (sq_v rfl (v_neq rfl rfl) rfl (sq_end (qs_n ?_))))))))))))))))); refine wp_cd rfl (fun c16 => ?_) (fun c16 => ?_)
    · refine wp_sq (sq_v rfl (v_move rfl) rfl (sq_v rfl (v_move rfl) rfl ?_)); refine sq_x rfl (x_buildS [num (ls.getD i 0)] Tryz.underlying25 ty_3 (by decide) rfl rfl rfl (by decide) (by decide) (by intro v hv; simp at hv; rcases hv with rfl <;> rfl)) rfl ?_; intro v19 h19 (r19 : IntsO [ls.getD i 0] v19 h19); refine sq_m 1 rfl rfl (m_appI 1 0 Tryz.underlying25 ty_3 rfl rfl rfl rfl q rfl r19.toR (by first | omega | (simp; omega) | (simp only [List.length_append, List.length_cons, List.length_nil]; omega) | (rw [List.length_set]; omega))) rfl ?_; intro v20 h_r20 r20; refine sq_v rfl (v_assign rfl) rfl (sq_end (qs_bn (qs_n (wp_sq ?_)))); refine sq_v rfl (v_add rfl rfl ((by unfold I64; omega))) rfl ?_; refine sq_v rfl (v_move rfl) rfl (sq_end ?_); exact qs_bk (i + 1, v20, h_r20) ⟨by (try dsimp only); omega, by (try dsimp only); rw [filter_yes (by omega) (decide_eq_true (by omega))]; exact r20⟩ (by simp only; omega) ⟨rfl, rfl, rfl, rfl, rfl, rfl, trivial⟩ (fun _ s => s.pick [1, 2] (by decide) rfl)
    · refine wp_sk (qs_bn (qs_n (wp_sq ?_))); refine sq_v rfl (v_add rfl rfl ((by unfold I64; omega))) rfl ?_; refine sq_v rfl (v_move rfl) rfl (sq_end ?_); exact qs_bk (i + 1, lv, lh) ⟨by (try dsimp only); omega, by (try dsimp only); rw [filter_no (by omega) (decide_eq_false (by omega))]; exact q⟩ (by simp only; omega) ⟨rfl, rfl, rfl, rfl, rfl, rfl, trivial⟩ (fun _ s => s)
  · refine wp_ex (qs_x (qs_x (qs_bx (qs_n (wp_sc (wp_sq (sq_v rfl (v_move rfl) rfl (sq_v rfl (v_assign rfl) rfl (sq_end (qs_n (wp_rt ?_))))))))))); exact qs_ret1 rfl rfl (fin_t 0 (i := 1) rfl rfl rfl (by rw [List.take_of_length_le (by omega)] at q; exact q))
end Go.Proofs.YtmddmahaikineaaGreat
namespace Go.Proofs.YtmddmahaikineaaGreat
set_option maxRecDepth 100000
section
variable {P : Program} {n : Nat} {w0 : World} {K : Env} {HS HK : List PH} {Q : Exit → Act → World → Prop} {ops : Array Oper} {m f : Nat} {listed : Array Bool}
theorem rok_m {i : Nat} {oi : Oper} (p : Nat) {h : PH} {T : Value → PH → Prop} (hi : ops[i]? = some oi) (hb : HK[p]? = some emp) (hw : wantK ops K oi.guard = some true) (hp : HS[p]? = some h) (hx : StepX P n w0 K HS oi h T) (hf : fitsK n oi.dst = true)
    (k : ∀ v h', T v h' → RAK P n w0 ops m Q f (listed.setIfInBounds i true) (putK oi.dst v K) (HS.set p h') HK) : ROK P n w0 ops m Q f i listed K HS HK := fun hwk inv ht a w e s => by
  unfold wpOp
  simp only [hi]; rw [if_pos (e.wanted hw)]; refine .inl (Oper.wp_imp (hx a w e s) (fun a' w' ⟨v, h', ha, u, ht'⟩ => ?_) (fun _ _ _ f => f.elim)); subst ha; have hwk' : WkL (HS.set p h') HK := hwk.set hb; exact ⟨fun _ => hwk'.sat (s.upd hp u), k v h' ht' hwk' inv ht _ _ (e.put v hf) (s.upd hp u)⟩
end
end Go.Proofs.YtmddmahaikineaaGreat
