/-
  Whether an order is in order, in the program and in the reference: the same answer.
  Conditions: none.
-/
import Derived.Test.YtikeobneipjfnaaOrd4
namespace Go.Proofs.Ytikeobneipjfnaa
set_option maxRecDepth 100000
open Go.RowKit
theorem pigeon : ∀ {l m : List Int}, l.Nodup → (∀ x ∈ l, x ∈ m) → l.length ≤ m.length
  | [], _, _, _ => by simp
  | a :: r, m, hn, hs => by
    have ha := hs a (by simp)
    have hn' := List.nodup_cons.1 hn
    have ih := pigeon (l := r) (m := m.erase a) hn'.2 (fun x hx => (List.mem_erase_of_ne (fun e => hn'.1 (by rw [← e]; exact hx))).2 (hs x (by simp [hx])))
    rw [List.length_erase_of_mem ha] at ih
    have : 0 < m.length := List.length_pos_of_mem ha
    simp only [List.length_cons]
    omega
theorem joinI_nodup {a b : List Int} (ha : a.Nodup) (hb : b.Nodup) : (joinI a b).Nodup := by
  refine List.nodup_append.2 ⟨ha, List.Pairwise.filter _ hb, fun x hx y hy e => ?_⟩
  subst e
  have := (List.mem_filter.1 hy).2
  simp [hx] at this
theorem mem_joinI {a b : List Int} {x : Int} : x ∈ joinI a b ↔ x ∈ a ∨ x ∈ b := by
  simp only [joinI, List.mem_append, List.mem_filter, decide_eq_true_eq]
  constructor
  · rintro (h | h)
    · exact .inl h
    · exact .inr h.1
  · rintro (h | h)
    · exact .inl h
    · by_cases hx : x ∈ a
      · exact .inl hx
      · exact .inr ⟨h, hx⟩
/-- Each row of labels is without repetition and of labels of the network. -/
def Sh.fine (s : Sh) : Prop := s.ok ∧ ∀ i, (s.lab i).Nodup ∧ ∀ x ∈ s.lab i, 0 ≤ x ∧ x ≤ 99
theorem few_labels {l : List Int} (h : l.Nodup) (h1 : ∀ x ∈ l, 0 ≤ x ∧ x ≤ 99) : l.length ≤ 100 := by
  have := pigeon (m := (List.range 100).map Int.ofNat) h (fun x hx => by
    have := h1 x hx
    simp only [List.mem_map, List.mem_range]
    exact ⟨x.toNat, by omega, show ((x.toNat : Nat) : Int) = x by omega⟩)
  simpa using this
theorem Sh.fine.few {s : Sh} (h : s.fine) (i : Nat) : (s.lab i).length ≤ 100 := few_labels (h.2 i).1 (h.2 i).2
theorem res_mem {op : List Int} {s : Sh} {a b : Nat} {x : Int} (h : x ∈ s.res op a b) : x ∈ s.lab a ∨ x ∈ s.lab b := mem_joinI.1 (List.mem_filter.1 h).1
theorem Sh.fine.step {s : Sh} (h : s.fine) (op : List Int) (a b : Nat) : (s.step op a b).fine := by
  refine ⟨Sh.step_ok h.1 a b, fun i => ?_⟩
  rcases Nat.lt_trichotomy i s.all.length with hi | hi | hi
  · rw [step_lab hi]; exact h.2 i
  · subst hi
    rw [step_lab_new]
    refine ⟨List.Pairwise.filter _ (joinI_nodup (h.2 a).1 (h.2 b).1), fun x hx => ?_⟩
    rcases res_mem hx with hx | hx
    · exact (h.2 a).2 x hx
    · exact (h.2 b).2 x hx
  · have : (s.step op a b).lab i = [] := by simp only [Sh.lab, Sh.step, List.getD]; rw [List.getElem?_eq_none (by simp; omega)]; rfl
    rw [this]
    exact ⟨List.nodup_nil, fun x hx => by simp at hx⟩
theorem sh0_fine {ts : List Ten} (h : ∀ t ∈ ts, axesL t.l t.d) : (sh0 ts).fine := by
  refine ⟨sh0_ok ts, fun i => ?_⟩
  by_cases hi : i < ts.length
  · have : (sh0 ts).lab i = ts[i].l := by simp [Sh.lab, sh0, List.getD, hi]
    rw [this]
    have hax := h ts[i] (List.getElem_mem hi)
    exact ⟨axes_nodup hax, fun x hx => by obtain ⟨j, hj, e⟩ := getD_of_mem hx; have := (hax.2.2 j hj).1; rw [e] at this; exact this⟩
  · have : (sh0 ts).lab i = [] := by simp [Sh.lab, sh0, List.getD, Nat.le_of_not_lt hi]
    rw [this]
    exact ⟨List.nodup_nil, fun x hx => by simp at hx⟩
/-- The state behind some steps. -/
noncomputable def shTo (op : List Int) (s : Sh) (ss : List Stp) : Sh := ss.foldl (fun s x => s.step op x.a.toNat x.b.toNat) s
theorem shTo_step {op : List Int} {s : Sh} {ss : List Stp} {i : Nat} {x : Stp} (h : ss[i]? = some x) : shTo op s (ss.take (i + 1)) = (shTo op s (ss.take i)).step op x.a.toNat x.b.toNat := by
  obtain ⟨hi, e⟩ := List.getElem?_eq_some_iff.1 h
  rw [List.take_succ_eq_append_getElem hi, e, shTo, List.foldl_append]; rfl
theorem shTo_fine {op : List Int} {s : Sh} (h : s.fine) : ∀ ss, (shTo op s ss).fine
  | [] => h
  | x :: r => shTo_fine (h.step op x.a.toNat x.b.toNat) r
theorem shTo_all {op : List Int} : ∀ {s : Sh} {ss : List Stp}, (shTo op s ss).all.length = s.all.length + ss.length
  | s, [] => by simp [shTo]
  | s, x :: r => by
    have := shTo_all (op := op) (s := s.step op x.a.toNat x.b.toNat) (ss := r)
    show (shTo op (s.step op x.a.toNat x.b.toNat) r).all.length = _
    rw [this]
    simp [Sh.step]; omega
def stepOk (s : Sh) (x : Stp) : Prop := s.live x.a ∧ s.live x.b ∧ x.a < x.b
def okSteps (op : List Int) (s : Sh) (ss : List Stp) : Prop := ∀ i, i < ss.length → ∀ x, ss[i]? = some x → stepOk (shTo op s (ss.take i)) x
def orderL (k p n : Int) (ts : List Ten) (op : List Int) (ss : List Stp) : Prop := netL k p n ts op ∧ ss.length = ts.length - 1 ∧ okSteps op (sh0 ts) ss
open Classical in
noncomputable def orderB (k p n : Int) (ts : List Ten) (op : List Int) (ss : List Stp) : Bool := decide (orderL k p n ts op ss)
theorem orderB_no {k p n : Int} {ts : List Ten} {op : List Int} {ss : List Stp} (h : ¬ orderL k p n ts op ss) : Value.bool false = .bool (orderB k p n ts op ss) := by simp [orderB, h]
theorem orderB_yes {k p n : Int} {ts : List Ten} {op : List Int} {ss : List Stp} (h : orderL k p n ts op ss) : Value.bool true = .bool (orderB k p n ts op ss) := by simp [orderB, h]
theorem orderB_true {k p n : Int} {ts : List Ten} {op : List Int} {ss : List Stp} : orderB k p n ts op ss = true ↔ orderL k p n ts op ss := by simp [orderB]
theorem orderB_false {k p n : Int} {ts : List Ten} {op : List Int} {ss : List Stp} : orderB k p n ts op ss = false ↔ ¬ orderL k p n ts op ss := by simp [orderB]
open Classical in
noncomputable def okB (s : Sh) (x y : Int) : Bool := decide (s.live x ∧ s.live y ∧ x < y)
open Classical in
noncomputable def nextSh (op : List Int) (s : Sh) (x y : Int) : Sh := if s.live x ∧ s.live y ∧ x < y then s.step op x.toNat y.toNat else s
theorem okB_true {s : Sh} {x y : Int} : okB s x y = true ↔ s.live x ∧ s.live y ∧ x < y := by simp [okB]
theorem okB_false {s : Sh} {x y : Int} : okB s x y = false ↔ ¬ (s.live x ∧ s.live y ∧ x < y) := by simp [okB]
theorem nextSh_yes {op : List Int} {s : Sh} {x y : Int} (h : okB s x y = true) : nextSh op s x y = s.step op x.toNat y.toNat := if_pos (okB_true.1 h)
theorem nextSh_no {op : List Int} {s : Sh} {x y : Int} (h : okB s x y = false) : nextSh op s x y = s := if_neg (okB_false.1 h)
theorem ct_L_follow (arr op : List Int) (vo : Value) (sh : Sh) (bb : Nat) (x y : Int) (w : World) (h : PH) (hle : PLe h (hp w)) (rs : StO arr vo sh bb h) (ro : IntsR op vo (restP w h))
    (hsz : ∀ i, (sh.lab i).length ≤ 50000) (hall : sh.all.length ≤ 100000) :
    Calls Try.prog 151 [.pointer (some ⟨bb, 0, none⟩), stepV x y].toArray w (Ret w h (fun u h' => u = .bool (okB sh x y) ∧ StO arr vo (nextSh op sh x y) bb h')) :=
  (ct_i_follow arr op vo sh bb x y w h hle rs ro hsz hall).mono fun _ _ hh => by
    obtain ⟨u, h', h1, h2, h3⟩ := hh
    refine ⟨u, h', h1, h2, ?_⟩
    by_cases hc : sh.live x ∧ sh.live y ∧ x < y
    · have := h3.1 hc
      exact ⟨by rw [okB_true.2 hc]; exact this.1, by rw [nextSh_yes (okB_true.2 hc)]; exact this.2⟩
    · have := h3.2 hc
      exact ⟨by rw [okB_false.2 hc]; exact this.1, by rw [nextSh_no (okB_false.2 hc)]; exact this.2⟩
set_option maxHeartbeats 1000000 in
theorem ct_i_OrderOk (k p n : Int) (ts : List Ten) (op : List Int) (ss : List Stp) (vt vo v : Value) (w : World) (r : TensR ts vt (hp w)) (r' : IntsR op vo (hp w)) (rv : StepsR ss v (hp w)) (hs : op.length ≤ 1048576) :
    Calls Try.prog 109 [netV k p n vt vo, v].toArray w (RetV w (.bool (orderB k p n ts op ss))) := by
  refine calls_in Try.func109 rfl Try.ntmps109 rfl (Sat.start w) ?_
  have hle0 := r.le
  obtain ⟨cs_r, rr_r, hc_r⟩ := r.at
  have hle1 := r'.le
  have hle2 := rv.le
  obtain ⟨cs_rv, rr_rv, hc_rv⟩ := rv.at
  refine wp_sc ?_
  refine wp_sq ?_
  refine sq_x rfl (x_box rfl rfl) rfl ?_; rintro _ _ ⟨b2, rfl, rfl⟩
  refine sq_v rfl (v_assign rfl) rfl ?_
  refine sq_end ?_
  refine qs_n ?_
  refine wp_sc ?_
  refine wp_sc ?_
  refine wp_sq ?_
  refine sq_v rfl (v_loadNB 0 ty_48 rfl rfl rfl rfl) rfl ?_
  refine sq_u rfl (x_callv rfl en_79 (fun w s => ct_i_NetworkOk _ _ _ _ _ _ _ w (r.mono (s.get 1 rfl)) (r'.mono (s.get 1 rfl)) (by first | assumption | omega))) rfl ?_
  refine sq_bb 9 rfl (fun c9 => ?_) (fun c9 => ?_)
  · refine sq_v rfl (v_not rfl) rfl ?_
    refine sq_v rfl (v_move rfl) rfl ?_
    refine sq_v rfl (v_move rfl) rfl ?_
    refine sq_v rfl (v_len Try.underlying43 rfl rv.sl) rfl ?_
    refine sq_v rfl (v_fieldAddr fd_48_1 ty_46 (by decide) rfl) rfl ?_
    refine sq_v rfl (v_loadB 0 ty_46 rfl rfl rfl) rfl ?_
    refine sq_v rfl (v_len Try.underlying46 rfl r.sl) rfl ?_
    refine sq_v rfl (v_sub rfl rfl ((by unfold I64; omega))) rfl ?_
    refine sq_v rfl (v_max rfl rfl) rfl ?_
    refine sq_v rfl (v_neq rfl rfl) rfl ?_
    refine sq_v rfl (v_pickf rfl rfl) rfl ?_
    refine sq_end ?_
    refine qs_n ?_
    refine wp_cd rfl (fun c20 => ?_) (fun c20 => ?_)
    · refine wp_sc ?_
      refine wp_sq ?_
      refine sq_v rfl (v_assign rfl) rfl ?_
      refine sq_end ?_
      refine qs_n ?_
      refine wp_rt ?_
      refine qs_r ?_
      exact qs_ret1 rfl rfl (fin_q (i := 1) rfl (orderB_no (fun h => by have := h.2.1; omega)))
    · refine wp_sk ?_
      refine qs_n ?_
      refine wp_sc ?_
      refine wp_sq ?_
      refine sq_v rfl (v_loadNB 0 ty_48 rfl rfl rfl rfl) rfl ?_
      have hnet := netB_true.1 c9; have hax := net_axes hnet; have h12 := hnet.2.1; have hfi := sh0_fine hax
      refine sq_x rfl (x_call rfl en_150 (fun w s => ct_i_startState _ _ _ _ _ _ _ w (r.mono (s.get 1 rfl)) (r'.mono (s.get 1 rfl)) hax h12)) rfl ?_; rintro _ h22 ⟨bb, arr, rfl, rst, _⟩
      refine sq_v rfl (v_assign rfl) rfl ?_
      refine sq_end ?_
      refine qs_n ?_
      refine wp_sc ?_
      refine wp_sc ?_
      refine wp_sq ?_
      refine sq_v rfl (v_move rfl) rfl ?_
      refine sq_v rfl (v_len Try.underlying43 rfl rv.sl) rfl ?_
      refine sq_v rfl (v_move rfl) rfl ?_
      refine sq_end ?_
      refine qs_n ?_
      refine wp_bl ?_
      refine wp_lp (σ := Nat × PH) (fun z_ => [(4, .bool false), (5, ptrV bb), (23, v), (24, num ss.length), (25, num z_.1)]) (fun z_ => [z_.2, box b2 [num k, num p, num n, vt, vo] 48, hp w]) (fun z_ => z_.1 ≤ ss.length ∧ StO arr vo (shTo op (sh0 ts) (ss.take z_.1)) bb z_.2 ∧ (∀ j, j < z_.1 → ∀ x, ss[j]? = some x → stepOk (shTo op (sh0 ts) (ss.take j)) x)) (fun z_ => ss.length - z_.1) (0, h22) (⟨by (try dsimp only); omega, rst, fun j hj => by omega⟩) ⟨rfl, rfl, rfl, rfl, (by first | rfl | exact ksub rfl (by first | omega | (simp; done) | (simp; omega))), trivial⟩ (fun _ s => s) ?_
      rintro ⟨i, g⟩ ⟨hi, rst, hks⟩
      dsimp only at hi rst hks ⊢
      have hfs := shTo_fine (op := op) hfi (ss.take i)
      have hal := shTo_all (op := op) (s := sh0 ts) (ss := ss.take i)
      rw [show (sh0 ts).all.length = ts.length by simp [sh0], List.length_take] at hal
      refine wp_sc ?_
      refine wp_sq ?_
      refine sq_v rfl (v_lss rfl rfl) rfl ?_
      refine sq_end ?_
      refine qs_n ?_
      refine wp_sc ?_
      refine wp_cd rfl (fun c26 => ?_) (fun c26 => ?_)
      · refine wp_sk ?_
        refine qs_n ?_
        refine wp_sc ?_
        refine wp_bl ?_
        refine wp_sc ?_
        refine wp_sq ?_
        obtain ⟨x27, hx27, hcs27⟩ := hc_rv (i) (by first | omega | (rw [List.length_set]; omega))
        refine sq_v rfl (v_indexAddr Try.underlying43 ty_114 rfl rfl rr_rv (by decide) (by omega) (by first | omega | (rw [List.length_set]; omega))) rfl ?_
        refine sq_v rfl (v_loadNE 2 ty_114 rfl rfl rr_rv (by have := rr_rv.1; omega) rfl hcs27) rfl ?_
        refine sq_x rfl (x_alloc ty_114 rfl) rfl ?_; rintro _ _ ⟨b7, rfl, rfl⟩
        refine sq_m 0 rfl rfl (m_store 0 ty_114 rfl rfl rfl rfl (by simp [Value.oneCell']) rfl (Nat.le_of_ble_eq_true rfl)) rfl ?_; rintro _ _ ⟨rfl, rfl⟩
        refine sq_end ?_
        refine qs_n ?_
        refine wp_sc ?_
        refine wp_sq ?_
        refine sq_v rfl (v_move rfl) rfl ?_
        refine sq_v rfl (v_loadNB 0 ty_114 rfl rfl rfl rfl) rfl ?_
        refine sq_m 1 rfl rfl (x_call rfl en_151 (fun w s => ct_L_follow arr op vo _ bb _ _ w _ (s.get 1 rfl) rst (r'.mono (s.getR 1 3 rfl rfl (by decide))) (fun i => by have := hfs.few i; omega) (by omega))) rfl ?_; rintro _ h31 ⟨rfl, rst'⟩
        refine sq_v rfl (v_not rfl) rfl ?_
        refine sq_end ?_
        refine qs_n ?_
        refine wp_cn _ rfl (fun c32 => ?_) (fun c32 => ?_)
        · refine wp_sc ?_
          refine wp_sq ?_
          refine sq_v rfl (v_assign rfl) rfl ?_
          refine sq_end ?_
          refine qs_n ?_
          refine wp_rt ?_
          refine qs_br ?_
          refine qs_r ?_
          refine qs_r ?_
          refine qs_br ?_
          refine qs_r ?_
          exact qs_ret1 rfl rfl (fin_q (i := 3) rfl (orderB_no (fun h => okB_false.1 c32 (h.2.2 i (by omega) x27 hx27))))
        · refine wp_sk ?_
          refine qs_bn ?_
          refine qs_n ?_
          refine wp_sq ?_
          refine sq_v rfl (v_add rfl rfl ((by unfold I64; omega))) rfl ?_
          refine sq_v rfl (v_move rfl) rfl ?_
          refine sq_end ?_
          exact qs_bk (i + 1, h31) ⟨by (try dsimp only); omega, by (try dsimp only); rw [nextSh_yes c32] at rst'; rw [shTo_step hx27]; exact rst', step_all hks (fun x hx => by rw [hx27] at hx; cases hx; exact okB_true.1 c32)⟩ (by simp only; omega) ⟨rfl, rfl, rfl, rfl, (by first | rfl | exact ksub rfl (by first | omega | (simp; done) | (simp; omega))), trivial⟩ (fun _ s => s.pick [1, 2, 3] (by decide) rfl)
      · refine wp_ex ?_
        refine qs_x ?_
        refine qs_x ?_
        refine qs_bx ?_
        refine qs_n ?_
        refine wp_sc ?_
        refine wp_sq ?_
        refine sq_v rfl (v_assign rfl) rfl ?_
        refine sq_end ?_
        refine qs_n ?_
        refine wp_rt ?_
        exact qs_ret1 rfl rfl (fin_q (i := 2) rfl (orderB_yes ⟨hnet, by omega, fun j hj => hks j (by omega)⟩))
  · refine sq_v rfl (v_not rfl) rfl ?_
    refine sq_v rfl (v_move rfl) rfl ?_
    refine sq_s rfl rfl ?_
    refine sq_s rfl rfl ?_
    refine sq_s rfl rfl ?_
    refine sq_s rfl rfl ?_
    refine sq_s rfl rfl ?_
    refine sq_s rfl rfl ?_
    refine sq_s rfl rfl ?_
    refine sq_s rfl rfl ?_
    refine sq_v rfl (v_pickt rfl rfl) rfl ?_
    refine sq_end ?_
    refine qs_n ?_
    refine wp_ct rfl ?_
    refine wp_sc ?_
    refine wp_sq ?_
    refine sq_v rfl (v_assign rfl) rfl ?_
    refine sq_end ?_
    refine qs_n ?_
    refine wp_rt ?_
    refine qs_r ?_
    exact qs_ret1 rfl rfl (fin_q (i := 1) rfl (orderB_no (fun h => netB_false.1 c9 h.1)))
theorem shTo_gone {op : List Int} {s : Sh} {ss : List Stp} (h : s.ok) : (shTo op s ss).gone.length = s.gone.length + ss.length := by
  induction ss generalizing s with
  | nil => simp [shTo]
  | cons x r ih =>
    have := ih (s := s.step op x.a.toNat x.b.toNat) (Sh.step_ok h _ _)
    show (shTo op (s.step op x.a.toNat x.b.toNat) r).gone.length = _
    rw [this]
    simp [Sh.step]; omega
theorem getD_appB {a b : List Bool} {i : Nat} (h : i < a.length) : (a ++ b).getD i false = a.getD i false := getD_append_left h
theorem set2_rep {G : List Bool} {a b m : Nat} (ha : a < G.length) (hb : b < G.length) : ((G ++ List.replicate (m + 1) false).set a true).set b true = ((G.set a true).set b true ++ [false]) ++ List.replicate m false := by
  rw [List.set_append_left _ _ ha, List.set_append_left _ _ (by rw [List.length_set]; exact hb), List.replicate_succ, List.append_assoc]; rfl
set_option maxHeartbeats 1000000 in
theorem ct_s_OrderOk (k p n : Int) (ts : List Ten) (op : List Int) (ss : List Stp) (vt vo v : Value) (w : World) (r : TensR ts vt (hp w)) (r' : IntsR op vo (hp w)) (rv : StepsR ss v (hp w)) (hs : op.length ≤ 1048576) (hss : ss.length ≤ 1048576) :
    Calls Try.prog 105 [netV k p n vt vo, v].toArray w (RetV w (.bool (orderB k p n ts op ss))) := by
  refine calls_in Try.func105 rfl Try.ntmps105 rfl (Sat.start w) ?_
  have hle0 := r.le
  obtain ⟨cs_r, rr_r, hc_r⟩ := r.at
  have hle1 := r'.le
  have hle2 := rv.le
  obtain ⟨cs_rv, rr_rv, hc_rv⟩ := rv.at
  refine wp_sc ?_
  refine wp_sq ?_
  refine sq_x rfl (x_box rfl rfl) rfl ?_; rintro _ _ ⟨b2, rfl, rfl⟩
  refine sq_v rfl (v_assign rfl) rfl ?_
  refine sq_end ?_
  refine qs_n ?_
  refine wp_sc ?_
  refine wp_sq ?_
  refine sq_v rfl (v_fieldAddr fd_48_1 ty_46 (by decide) rfl) rfl ?_
  refine sq_v rfl (v_loadB 0 ty_46 rfl rfl rfl) rfl ?_
  refine sq_v rfl (v_len Try.underlying46 rfl r.sl) rfl ?_
  refine sq_v rfl (v_assign rfl) rfl ?_
  refine sq_end ?_
  refine qs_n ?_
  refine wp_sc ?_
  refine wp_sc ?_
  refine wp_sq ?_
  refine sq_v rfl (v_loadNB 0 ty_48 rfl rfl rfl rfl) rfl ?_
  refine sq_u rfl (x_callv rfl en_86 (fun w s => ct_s_NetworkOk _ _ _ _ _ _ _ w (r.mono (s.get 1 rfl)) (r'.mono (s.get 1 rfl)) (by first | assumption | omega))) rfl ?_
  refine sq_bb 13 rfl (fun c13 => ?_) (fun c13 => ?_)
  · refine sq_v rfl (v_not rfl) rfl ?_
    refine sq_v rfl (v_move rfl) rfl ?_
    refine sq_v rfl (v_move rfl) rfl ?_
    refine sq_v rfl (v_len Try.underlying43 rfl rv.sl) rfl ?_
    refine sq_v rfl (v_move rfl) rfl ?_
    refine sq_v rfl (v_sub rfl rfl ((by unfold I64; omega))) rfl ?_
    refine sq_v rfl (v_max rfl rfl) rfl ?_
    refine sq_v rfl (v_neq rfl rfl) rfl ?_
    refine sq_v rfl (v_pickf rfl rfl) rfl ?_
    refine sq_end ?_
    refine qs_n ?_
    refine wp_cd rfl (fun c22 => ?_) (fun c22 => ?_)
    · refine wp_sc ?_
      refine wp_sq ?_
      refine sq_v rfl (v_assign rfl) rfl ?_
      refine sq_end ?_
      refine qs_n ?_
      refine wp_rt ?_
      refine qs_r ?_
      exact qs_ret1 rfl rfl (fin_q (i := 1) rfl (orderB_no (fun h => by have := h.2.1; omega)))
    · refine wp_sk ?_
      refine qs_n ?_
      refine wp_sc ?_
      refine wp_sq ?_
      refine sq_v rfl (v_move rfl) rfl ?_
      refine sq_v rfl (v_move rfl) rfl ?_
      refine sq_v rfl (v_len Try.underlying43 rfl rv.sl) rfl ?_
      refine sq_v rfl (v_add rfl rfl ((by unfold I64; omega))) rfl ?_
      have hnet := netB_true.1 c13; have h12 := hnet.2.1
      refine sq_x rfl (x_makeBl Try.underlying128 ty_4 rfl rfl (by first | omega | (simp only [List.length_cons, List.length_nil]; omega) | (simp only [List.length_append, List.length_cons, List.length_nil]; omega) | (rw [List.length_set]; omega) | (rw [List.length_replicate]; omega) | (simp; omega)) (by first | omega | (simp only [List.length_cons, List.length_nil]; omega) | (simp only [List.length_append, List.length_cons, List.length_nil]; omega) | (rw [List.length_set]; omega) | (rw [List.length_replicate]; omega) | (simp; omega)) (by first | omega | (simp only [List.length_cons, List.length_nil]; omega) | (simp only [List.length_append, List.length_cons, List.length_nil]; omega) | (rw [List.length_set]; omega) | (rw [List.length_replicate]; omega) | (simp; omega))) rfl ?_; intro v27 h27 r27
      refine sq_v rfl (v_assign rfl) rfl ?_
      refine sq_end ?_
      refine qs_n ?_
      refine wp_sc ?_
      refine wp_sc ?_
      refine wp_sq ?_
      refine sq_v rfl (v_move rfl) rfl ?_
      refine sq_v rfl (v_len Try.underlying43 rfl rv.sl) rfl ?_
      refine sq_v rfl (v_move rfl) rfl ?_
      refine sq_end ?_
      refine qs_n ?_
      refine wp_bl ?_
      refine wp_lp (σ := Nat × (List Bool) × PH) (fun z_ => [(4, .bool false), (5, num ts.length), (6, v27), (28, v), (29, num ss.length), (30, num z_.1)]) (fun z_ => [z_.2.2, box b2 [num k, num p, num n, vt, vo] 48, hp w]) (fun z_ => z_.1 ≤ ss.length ∧ z_.2.1 = (shTo op (sh0 ts) (ss.take z_.1)).gone ++ List.replicate (ss.length - z_.1) false ∧ (∀ j, j < z_.1 → ∀ x, ss[j]? = some x → stepOk (shTo op (sh0 ts) (ss.take j)) x) ∧ BoolsO z_.2.1 v27 z_.2.2) (fun z_ => ss.length - z_.1) (0, List.replicate (ts.length + ss.length) false, h27) (⟨by (try dsimp only); omega, by (try dsimp only); simp [shTo, sh0, List.replicate_append_replicate], fun j hj => by omega, by (try dsimp only); rw [show ((ts.length : Int) + ss.length).toNat = ts.length + ss.length by omega] at r27; exact r27⟩) ⟨rfl, rfl, rfl, rfl, rfl, (by first | rfl | exact ksub rfl (by first | omega | (simp; done) | (simp; omega))), trivial⟩ (fun _ s => s) ?_
      rintro ⟨i, us, g⟩ ⟨hi, hus, hks, q⟩
      dsimp only at hi hus hks q ⊢
      have hle_q := q.toR.le
      have hgl := shTo_gone (op := op) (ss := ss.take i) (sh0_ok ts)
      have hal := shTo_all (op := op) (s := sh0 ts) (ss := ss.take i)
      rw [show (sh0 ts).all.length = ts.length by simp [sh0], List.length_take] at hal
      rw [show (sh0 ts).gone.length = ts.length by simp [sh0], List.length_take] at hgl
      have hul : us.length = ts.length + ss.length := by rw [hus, List.length_append, hgl, List.length_replicate]; omega
      have hug : ∀ z : Nat, z < ts.length + i → us.getD z false = (shTo op (sh0 ts) (ss.take i)).gone.getD z false := fun z hz => by rw [hus, getD_appB (by omega)]
      refine wp_sc ?_
      refine wp_sq ?_
      refine sq_v rfl (v_lss rfl rfl) rfl ?_
      refine sq_end ?_
      refine qs_n ?_
      refine wp_sc ?_
      refine wp_cd rfl (fun c31 => ?_) (fun c31 => ?_)
      · refine wp_sk ?_
        refine qs_n ?_
        refine wp_sc ?_
        refine wp_bl ?_
        refine wp_sc ?_
        refine wp_sq ?_
        refine sq_v rfl (v_move rfl) rfl ?_
        obtain ⟨x33, hx33, hcs33⟩ := hc_rv (i) (by first | omega | (rw [List.length_set]; omega))
        refine sq_v rfl (v_indexAddr Try.underlying43 ty_114 rfl rfl rr_rv (by decide) (by omega) (by first | omega | (rw [List.length_set]; omega))) rfl ?_
        refine sq_v rfl (v_loadNE 2 ty_114 rfl rfl rr_rv (by have := rr_rv.1; omega) rfl hcs33) rfl ?_
        refine sq_x rfl (x_alloc ty_114 rfl) rfl ?_; rintro _ _ ⟨b8, rfl, rfl⟩
        refine sq_v rfl (v_assign rfl) rfl ?_
        refine sq_m 0 rfl rfl (m_store 0 ty_114 rfl rfl rfl rfl (by simp [Value.oneCell']) rfl (Nat.le_of_ble_eq_true rfl)) rfl ?_; rintro _ _ ⟨rfl, rfl⟩
        refine sq_end ?_
        refine qs_n ?_
        refine wp_sc ?_
        refine wp_sc ?_
        refine wp_sq ?_
        refine sq_v rfl (v_fieldAddr fd_114_0 ty_3 (by decide) rfl) rfl ?_
        refine sq_v rfl (v_loadB 0 ty_3 rfl rfl rfl) rfl ?_
        refine sq_v rfl (v_lss rfl rfl) rfl ?_
        refine sq_bd 37 rfl (fun c37 => ?_) (fun c37 => ?_)
        · refine sq_v rfl (v_move rfl) rfl ?_
          refine sq_s rfl rfl ?_
          refine sq_s rfl rfl ?_
          refine sq_s rfl rfl ?_
          refine sq_s rfl rfl ?_
          refine sq_s rfl rfl ?_
          refine sq_v rfl (v_pickt rfl rfl) rfl ?_
          refine sq_v rfl (v_move rfl) rfl ?_
          refine sq_s rfl rfl ?_
          refine sq_s rfl rfl ?_
          refine sq_s rfl rfl ?_
          refine sq_s rfl rfl ?_
          refine sq_s rfl rfl ?_
          refine sq_s rfl rfl ?_
          refine sq_v rfl (v_pickt rfl rfl) rfl ?_
          refine sq_v rfl (v_move rfl) rfl ?_
          refine sq_s rfl rfl ?_
          refine sq_s rfl rfl ?_
          refine sq_s rfl rfl ?_
          refine sq_s rfl rfl ?_
          refine sq_s rfl rfl ?_
          refine sq_v rfl (v_pickt rfl rfl) rfl ?_
          refine sq_v rfl (v_move rfl) rfl ?_
          refine sq_s rfl rfl ?_
          refine sq_s rfl rfl ?_
          refine sq_s rfl rfl ?_
          refine sq_s rfl rfl ?_
          refine sq_s rfl rfl ?_
          refine sq_v rfl (v_pickt rfl rfl) rfl ?_
          refine sq_end ?_
          refine qs_n ?_
          refine wp_ct rfl ?_
          refine wp_sc ?_
          refine wp_sq ?_
          refine sq_v rfl (v_assign rfl) rfl ?_
          refine sq_end ?_
          refine qs_n ?_
          refine wp_rt ?_
          refine qs_r ?_
          refine qs_br ?_
          refine qs_r ?_
          refine qs_r ?_
          refine qs_br ?_
          refine qs_r ?_
          exact qs_ret1 rfl rfl (fin_q (i := 3) rfl (orderB_no (fun h => by have := (h.2.2 i (by omega) x33 hx33).1.1; omega)))
        · refine sq_v rfl (v_move rfl) rfl ?_
          refine sq_v rfl (v_fieldAddr fd_114_0 ty_3 (by decide) rfl) rfl ?_
          refine sq_v rfl (v_loadB 0 ty_3 rfl rfl rfl) rfl ?_
          refine sq_v rfl (v_fieldAddr fd_114_1 ty_3 (by decide) rfl) rfl ?_
          refine sq_v rfl (v_loadB 0 ty_3 rfl rfl rfl) rfl ?_
          refine sq_v rfl (v_geq rfl rfl) rfl ?_
          refine sq_v rfl (v_pickf rfl rfl) rfl ?_
          refine sq_bd 44 rfl (fun c44 => ?_) (fun c44 => ?_)
          · refine sq_v rfl (v_move rfl) rfl ?_
            refine sq_s rfl rfl ?_
            refine sq_s rfl rfl ?_
            refine sq_s rfl rfl ?_
            refine sq_s rfl rfl ?_
            refine sq_s rfl rfl ?_
            refine sq_s rfl rfl ?_
            refine sq_v rfl (v_pickt rfl rfl) rfl ?_
            refine sq_v rfl (v_move rfl) rfl ?_
            refine sq_s rfl rfl ?_
            refine sq_s rfl rfl ?_
            refine sq_s rfl rfl ?_
            refine sq_s rfl rfl ?_
            refine sq_s rfl rfl ?_
            refine sq_v rfl (v_pickt rfl rfl) rfl ?_
            refine sq_v rfl (v_move rfl) rfl ?_
            refine sq_s rfl rfl ?_
            refine sq_s rfl rfl ?_
            refine sq_s rfl rfl ?_
            refine sq_s rfl rfl ?_
            refine sq_s rfl rfl ?_
            refine sq_v rfl (v_pickt rfl rfl) rfl ?_
            refine sq_end ?_
            refine qs_n ?_
            refine wp_ct rfl ?_
            refine wp_sc ?_
            refine wp_sq ?_
            refine sq_v rfl (v_assign rfl) rfl ?_
            refine sq_end ?_
            refine qs_n ?_
            refine wp_rt ?_
            refine qs_r ?_
            refine qs_br ?_
            refine qs_r ?_
            refine qs_r ?_
            refine qs_br ?_
            refine qs_r ?_
            exact qs_ret1 rfl rfl (fin_q (i := 3) rfl (orderB_no (fun h => by have := (h.2.2 i (by omega) x33 hx33).2.2; omega)))
          · refine sq_v rfl (v_move rfl) rfl ?_
            refine sq_v rfl (v_fieldAddr fd_114_1 ty_3 (by decide) rfl) rfl ?_
            refine sq_v rfl (v_loadB 0 ty_3 rfl rfl rfl) rfl ?_
            refine sq_v rfl (v_move rfl) rfl ?_
            refine sq_v rfl (v_move rfl) rfl ?_
            refine sq_v rfl (v_add rfl rfl ((by unfold I64; omega))) rfl ?_
            refine sq_v rfl (v_geq rfl rfl) rfl ?_
            refine sq_v rfl (v_pickf rfl rfl) rfl ?_
            refine sq_bd 52 rfl (fun c52 => ?_) (fun c52 => ?_)
            · refine sq_v rfl (v_move rfl) rfl ?_
              refine sq_s rfl rfl ?_
              refine sq_s rfl rfl ?_
              refine sq_s rfl rfl ?_
              refine sq_s rfl rfl ?_
              refine sq_s rfl rfl ?_
              refine sq_v rfl (v_pickt rfl rfl) rfl ?_
              refine sq_v rfl (v_move rfl) rfl ?_
              refine sq_s rfl rfl ?_
              refine sq_s rfl rfl ?_
              refine sq_s rfl rfl ?_
              refine sq_s rfl rfl ?_
              refine sq_s rfl rfl ?_
              refine sq_v rfl (v_pickt rfl rfl) rfl ?_
              refine sq_end ?_
              refine qs_n ?_
              refine wp_ct rfl ?_
              refine wp_sc ?_
              refine wp_sq ?_
              refine sq_v rfl (v_assign rfl) rfl ?_
              refine sq_end ?_
              refine qs_n ?_
              refine wp_rt ?_
              refine qs_r ?_
              refine qs_br ?_
              refine qs_r ?_
              refine qs_r ?_
              refine qs_br ?_
              refine qs_r ?_
              exact qs_ret1 rfl rfl (fin_q (i := 3) rfl (orderB_no (fun h => by have := (h.2.2 i (by omega) x33 hx33).2.1.2.1; omega)))
            · refine sq_v rfl (v_move rfl) rfl ?_
              refine sq_v rfl (v_move rfl) rfl ?_
              refine sq_v rfl (v_fieldAddr fd_114_0 ty_3 (by decide) rfl) rfl ?_
              refine sq_v rfl (v_loadB 0 ty_3 rfl rfl rfl) rfl ?_
              refine sq_v rfl (v_idxB Try.underlying128 ty_4 rfl rfl q.toR (by first | omega | (simp only [List.length_cons, List.length_nil]; omega) | (simp only [List.length_append, List.length_cons, List.length_nil]; omega) | (rw [List.length_set]; omega) | (rw [List.length_replicate]; omega) | (simp; omega)) (by first | omega | (simp only [List.length_cons, List.length_nil]; omega) | (simp only [List.length_append, List.length_cons, List.length_nil]; omega) | (rw [List.length_set]; omega) | (rw [List.length_replicate]; omega) | (simp; omega))) rfl ?_
              refine sq_v rfl (v_loadBl  1 ty_4 rfl rfl q.toR (by first | omega | (simp only [List.length_cons, List.length_nil]; omega) | (simp only [List.length_append, List.length_cons, List.length_nil]; omega) | (rw [List.length_set]; omega) | (rw [List.length_replicate]; omega) | (simp; omega))) rfl ?_
              refine sq_v rfl (v_pickf rfl rfl) rfl ?_
              refine sq_bb 59 rfl (fun c59 => ?_) (fun c59 => ?_)
              · refine sq_v rfl (v_move rfl) rfl ?_
                refine sq_s rfl rfl ?_
                refine sq_s rfl rfl ?_
                refine sq_s rfl rfl ?_
                refine sq_s rfl rfl ?_
                refine sq_s rfl rfl ?_
                refine sq_v rfl (v_pickt rfl rfl) rfl ?_
                refine sq_end ?_
                refine qs_n ?_
                refine wp_ct rfl ?_
                refine wp_sc ?_
                refine wp_sq ?_
                refine sq_v rfl (v_assign rfl) rfl ?_
                refine sq_end ?_
                refine qs_n ?_
                refine wp_rt ?_
                refine qs_r ?_
                refine qs_br ?_
                refine qs_r ?_
                refine qs_r ?_
                refine qs_br ?_
                refine qs_r ?_
                exact qs_ret1 rfl rfl (fin_q (i := 3) rfl (orderB_no (fun h => by have := (h.2.2 i (by omega) x33 hx33).1.2.2; rw [← hug _ (by omega), c59] at this; cases this)))
              · refine sq_v rfl (v_move rfl) rfl ?_
                refine sq_v rfl (v_move rfl) rfl ?_
                refine sq_v rfl (v_fieldAddr fd_114_1 ty_3 (by decide) rfl) rfl ?_
                refine sq_v rfl (v_loadB 0 ty_3 rfl rfl rfl) rfl ?_
                refine sq_v rfl (v_idxB Try.underlying128 ty_4 rfl rfl q.toR (by first | omega | (simp only [List.length_cons, List.length_nil]; omega) | (simp only [List.length_append, List.length_cons, List.length_nil]; omega) | (rw [List.length_set]; omega) | (rw [List.length_replicate]; omega) | (simp; omega)) (by first | omega | (simp only [List.length_cons, List.length_nil]; omega) | (simp only [List.length_append, List.length_cons, List.length_nil]; omega) | (rw [List.length_set]; omega) | (rw [List.length_replicate]; omega) | (simp; omega))) rfl ?_
                refine sq_v rfl (v_loadBl  1 ty_4 rfl rfl q.toR (by first | omega | (simp only [List.length_cons, List.length_nil]; omega) | (simp only [List.length_append, List.length_cons, List.length_nil]; omega) | (rw [List.length_set]; omega) | (rw [List.length_replicate]; omega) | (simp; omega))) rfl ?_
                refine sq_v rfl (v_pickf rfl rfl) rfl ?_
                refine sq_end ?_
                refine qs_n ?_
                refine wp_cb _ rfl (fun c66 => ?_) (fun c66 => ?_)
                · refine wp_sc ?_
                  refine wp_sq ?_
                  refine sq_v rfl (v_assign rfl) rfl ?_
                  refine sq_end ?_
                  refine qs_n ?_
                  refine wp_rt ?_
                  refine qs_r ?_
                  refine qs_br ?_
                  refine qs_r ?_
                  refine qs_r ?_
                  refine qs_br ?_
                  refine qs_r ?_
                  exact qs_ret1 rfl rfl (fin_q (i := 3) rfl (orderB_no (fun h => by have := (h.2.2 i (by omega) x33 hx33).2.1.2.2; rw [← hug _ (by omega), c66] at this; cases this)))
                · refine wp_sk ?_
                  refine qs_n ?_
                  refine wp_sc ?_
                  refine wp_sq ?_
                  refine sq_v rfl (v_move rfl) rfl ?_
                  refine sq_v rfl (v_fieldAddr fd_114_0 ty_3 (by decide) rfl) rfl ?_
                  refine sq_v rfl (v_loadB 0 ty_3 rfl rfl rfl) rfl ?_
                  refine sq_v rfl (v_idxB Try.underlying128 ty_4 rfl rfl q.toR (by first | omega | (simp only [List.length_cons, List.length_nil]; omega) | (simp only [List.length_append, List.length_cons, List.length_nil]; omega) | (rw [List.length_set]; omega) | (rw [List.length_replicate]; omega) | (simp; omega)) (by first | omega | (simp only [List.length_cons, List.length_nil]; omega) | (simp only [List.length_append, List.length_cons, List.length_nil]; omega) | (rw [List.length_set]; omega) | (rw [List.length_replicate]; omega) | (simp; omega))) rfl ?_
                  refine sq_m 1 rfl rfl (m_storeBl 1 ty_4 rfl rfl rfl q (by first | omega | (simp only [List.length_cons, List.length_nil]; omega) | (simp only [List.length_append, List.length_cons, List.length_nil]; omega) | (rw [List.length_set]; omega) | (rw [List.length_replicate]; omega) | (simp; omega))) rfl ?_; rintro _ h_q10_4 ⟨rfl, q10_4⟩
                  refine sq_end ?_
                  refine qs_n ?_
                  refine wp_sq ?_
                  refine sq_v rfl (v_move rfl) rfl ?_
                  refine sq_v rfl (v_fieldAddr fd_114_1 ty_3 (by decide) rfl) rfl ?_
                  refine sq_v rfl (v_loadB 0 ty_3 rfl rfl rfl) rfl ?_
                  refine sq_v rfl (v_idxB Try.underlying128 ty_4 rfl rfl q10_4.toR (by first | omega | (simp only [List.length_cons, List.length_nil]; omega) | (simp only [List.length_append, List.length_cons, List.length_nil]; omega) | (rw [List.length_set]; omega) | (rw [List.length_replicate]; omega) | (simp; omega)) (by first | omega | (simp only [List.length_cons, List.length_nil]; omega) | (simp only [List.length_append, List.length_cons, List.length_nil]; omega) | (rw [List.length_set]; omega) | (rw [List.length_replicate]; omega) | (simp; omega))) rfl ?_
                  refine sq_m 1 rfl rfl (m_storeBl 1 ty_4 rfl rfl rfl q10_4 (by first | omega | (simp only [List.length_cons, List.length_nil]; omega) | (simp only [List.length_append, List.length_cons, List.length_nil]; omega) | (rw [List.length_set]; omega) | (rw [List.length_replicate]; omega) | (simp; omega))) rfl ?_; rintro _ h_q11_4 ⟨rfl, q11_4⟩
                  refine sq_end ?_
                  refine qs_bn ?_
                  refine qs_n ?_
                  refine wp_sq ?_
                  refine sq_v rfl (v_add rfl rfl ((by unfold I64; omega))) rfl ?_
                  refine sq_v rfl (v_move rfl) rfl ?_
                  refine sq_end ?_
                  exact qs_bk (i + 1, _, h_q11_4) ⟨by (try dsimp only); omega, by (try dsimp only); rw [hus, show ss.length - i = (ss.length - (i + 1)) + 1 by omega, set2_rep (by omega) (by omega), shTo_step hx33]; rfl, step_all hks (fun x hx => by rw [hx33] at hx; cases hx; exact ⟨⟨by omega, by omega, by rw [← hug _ (by omega)]; exact c59⟩, ⟨by omega, by omega, by rw [← hug _ (by omega)]; exact c66⟩, by omega⟩), q11_4⟩ (by simp only; omega) ⟨rfl, rfl, rfl, rfl, rfl, (by first | rfl | exact ksub rfl (by first | omega | (simp; done) | (simp; omega))), trivial⟩ (fun _ s => s.pick [1, 2, 3] (by decide) rfl)
      · refine wp_ex ?_
        refine qs_x ?_
        refine qs_x ?_
        refine qs_bx ?_
        refine qs_n ?_
        refine wp_sc ?_
        refine wp_sq ?_
        refine sq_v rfl (v_assign rfl) rfl ?_
        refine sq_end ?_
        refine qs_n ?_
        refine wp_rt ?_
        exact qs_ret1 rfl rfl (fin_q (i := 2) rfl (orderB_yes ⟨hnet, by omega, fun j hj => hks j (by omega)⟩))
  · refine sq_v rfl (v_not rfl) rfl ?_
    refine sq_v rfl (v_move rfl) rfl ?_
    refine sq_s rfl rfl ?_
    refine sq_s rfl rfl ?_
    refine sq_s rfl rfl ?_
    refine sq_s rfl rfl ?_
    refine sq_s rfl rfl ?_
    refine sq_s rfl rfl ?_
    refine sq_v rfl (v_pickt rfl rfl) rfl ?_
    refine sq_end ?_
    refine qs_n ?_
    refine wp_ct rfl ?_
    refine wp_sc ?_
    refine wp_sq ?_
    refine sq_v rfl (v_assign rfl) rfl ?_
    refine sq_end ?_
    refine qs_n ?_
    refine wp_rt ?_
    refine qs_r ?_
    exact qs_ret1 rfl rfl (fin_q (i := 1) rfl (orderB_no (fun h => netB_false.1 c13 h.1)))
end Go.Proofs.Ytikeobneipjfnaa
