/-
  The reference's run of an order.
  Conditions: none.
-/
import Derived.Test.YtikeobneipjfnaaSp2
namespace Go.Proofs.Ytikeobneipjfnaa
set_option maxRecDepth 100000
open Go.RowKit
/-- The world's heap once more. -/
theorem Sat.whole {w0 w : World} {HS : List PH} {q : PH} (lq : PLe q (hp w0)) (s : Sat w0 (q :: restP w0 q :: HS) w) : Sat w0 (HS ++ [hp w0]) w := by
  have l : PLe (hp w0) (PUn q (restP w0 q)) := fun k o e => by
    unfold PUn restP
    cases hq : q k with
    | none => simp [hq, e]
    | some o' => have := lq k o' hq; rw [e] at this; simp [this]
  have s1 := Sat.less (i := 0) s.merge rfl l
  exact Sat.comm (A := [hp w0]) (B := HS) s1
/-- The first i tensors' shapes. -/
def tenTo (ts : List Ten) (i : Nat) : List Ten := (ts.take i).map fun t => ⟨t.l, t.d, []⟩
theorem tenTo_step {ts : List Ten} {i : Nat} {t : Ten} (h : ts[i]? = some t) : tenTo ts (i + 1) = tenTo ts i ++ [⟨t.l, t.d, []⟩] := by
  rw [tenTo, take_ten h, List.map_append]; rfl
theorem tenTo_len {ts : List Ten} {i : Nat} (h : i ≤ ts.length) : (tenTo ts i).length = i := by simp [tenTo]; omega
theorem tenTo_sh {f : Int → Int} {ts : List Ten} (h : ∀ t ∈ ts, t.d = t.l.map f) : tenTo ts ts.length = shTens f (sh0 ts) := by
  simp only [tenTo, List.take_length, shTens, sh0, List.map_map]
  exact List.map_congr_left fun t ht => by simp [h t ht]
set_option maxHeartbeats 2000000 in
theorem ct_s_l17New (f : Int → Int) (k p n : Int) (ts : List Ten) (vt vo : Value) (w : World) (q : PH) (lq : PLe q (hp w)) (r : TensR ts vt q) (hd : ∀ t ∈ ts, t.d = t.l.map f) (hts : ts.length ≤ 1000) :
    Calls Try.prog 197 [netV k p n vt vo].toArray w (Ret w emp (fun u h => ∃ bb, u = ptrV bb ∧ SpO f (sh0 ts) bb h q)) := by
  refine calls_in Try.func197 rfl Try.ntmps197 rfl (Sat.start2 lq) ?_
  have hle0 := r.le
  obtain ⟨cs_r, rr_r, hc_r⟩ := r.at
  refine wp_sc ?_
  refine wp_sq ?_
  refine sq_x rfl (x_box rfl rfl) rfl ?_; rintro _ _ ⟨b1, rfl, rfl⟩
  refine sq_v rfl (v_assign rfl) rfl ?_
  refine sq_end ?_
  refine qs_n ?_
  refine wp_sc ?_
  refine wp_sq ?_
  refine sq_v rfl (v_build [.slice none 0 0, .slice none 0 0] rfl (by kernel_rfl)) rfl ?_
  refine sq_x rfl (x_box rfl rfl) rfl ?_; rintro _ _ ⟨b7, rfl, rfl⟩
  refine sq_v rfl (v_assign rfl) rfl ?_
  refine sq_end ?_
  refine qs_n ?_
  refine wp_sc ?_
  refine wp_sc ?_
  refine wp_sq ?_
  refine sq_v rfl (v_fieldAddr fd_48_1 ty_46 (by decide) rfl) rfl ?_
  refine sq_v rfl (v_loadB 1 ty_46 rfl rfl rfl) rfl ?_
  refine sq_v rfl (v_len Try.underlying46 rfl r.sl) rfl ?_
  refine sq_v rfl (v_move rfl) rfl ?_
  refine sq_end ?_
  refine qs_n ?_
  refine wp_bl ?_
  refine wp_lp (σ := Nat × Value × PH × (List Value) × Value × PH) (fun z_ => [(2, .pointer none), (3, .pointer (some ⟨b7, 0, none⟩)), (9, vt), (10, num ts.length), (11, num z_.1)]) (fun z_ => [z_.2.2.1, z_.2.2.2.2.2, box b7 [z_.2.1, z_.2.2.2.2.1] 189, box b1 [num k, num p, num n, vt, vo] 48, q, (restP w q)]) (fun z_ => z_.1 ≤ ts.length ∧ TensL (tenTo ts z_.1) z_.2.2.2.1 q ∧ RowO (28) z_.2.2.2.1 z_.1 3 z_.2.1 z_.2.2.1 ∧ BoolsO (List.replicate z_.1 false) z_.2.2.2.2.1 z_.2.2.2.2.2) (fun z_ => ts.length - z_.1) (0, .slice none 0 0, emp, [], .slice none 0 0, emp) (⟨by (try dsimp only); omega, TensL.nil _, RowO.nil, BoolsO.nil⟩) ⟨rfl, rfl, rfl, rfl, (by first | rfl | exact ksub rfl (by first | omega | (simp; done) | (simp; omega))), trivial⟩ (fun _ s => (emp_sat (emp_sat s))) ?_
  rintro ⟨i, va, ha, cs, vg, hg⟩ ⟨hi, hlv, rr, qg⟩
  dsimp only at hi hlv rr qg ⊢
  have hle_qg := qg.toR.le
  have hrl : (List.replicate i false).length = i := List.length_replicate
  refine wp_sc ?_
  refine wp_sq ?_
  refine sq_v rfl (v_lss rfl rfl) rfl ?_
  refine sq_end ?_
  refine qs_n ?_
  refine wp_sc ?_
  refine wp_cd rfl (fun c12 => ?_) (fun c12 => ?_)
  · refine wp_sk ?_
    refine qs_n ?_
    refine wp_sc ?_
    refine wp_bl ?_
    refine wp_sc ?_
    refine wp_sq ?_
    obtain ⟨t13, a13, b13, c13, ht13, hcs13, rl13, rd13, rx13⟩ := hc_r (i) (by first | omega | (rw [List.length_set]; omega))
    refine sq_v rfl (v_indexAddr Try.underlying46 ty_28 rfl rfl rr_r (by decide) (by omega) (by omega)) rfl ?_
    refine sq_v rfl (v_loadNE 4 ty_28 rfl rfl rr_r (by have := rr_r.1; omega) rfl hcs13) rfl ?_
    refine sq_x rfl (x_alloc ty_28 rfl) rfl ?_; rintro _ _ ⟨b5, rfl, rfl⟩
    refine sq_m 0 rfl rfl (m_store 0 ty_28 rfl rfl rfl rfl (by simp [rl13.sl.one, rd13.sl.one, rx13.sl.one]) rfl (Nat.le_of_ble_eq_true rfl)) rfl ?_; rintro _ _ ⟨rfl, rfl⟩
    refine sq_end ?_
    refine qs_n ?_
    refine wp_sc ?_
    refine wp_rk [false, true, false, false, false, false, false] 12 [(0, true), (1, true), (2, true), (3, true), (4, true), (5, true), (6, true), (7, true), (8, true), (9, true), (10, false), (11, false), (12, false), (13, false), (14, false)] mixed_ok (by kernel_rfl) ?_
    refine rk_v rfl rfl (v_move rfl) rfl ?_
    refine rk_v rfl rfl (v_move rfl) rfl ?_
    refine rk_v rfl rfl (v_nilCheck rfl) rfl ?_
    refine rk_v rfl rfl (v_fieldAddr fd_189_0 ty_46 (by decide) rfl) rfl ?_
    refine rk_v rfl rfl (v_loadB 3 ty_46 rfl rfl rfl) rfl ?_
    refine rk_v rfl rfl (v_fieldAddr fd_28_0 ty_24 (by decide) rfl) rfl ?_
    refine rk_v rfl rfl (v_loadB 0 ty_24 rfl rfl rfl) rfl ?_
    refine rk_v rfl rfl (v_fieldAddr fd_28_1 ty_24 (by decide) rfl) rfl ?_
    refine rk_v rfl rfl (v_loadB 0 ty_24 rfl rfl rfl) rfl ?_
    refine rk_v rfl rfl (v_build [a13, b13, .slice none 0 0] rfl (by obtain ⟨_, _, rfl⟩ := rl13.sl; obtain ⟨_, _, rfl⟩ := rd13.sl; kernel_rfl)) rfl ?_
    refine rk_x rfl rfl (x_buildS [.agg [a13, b13, .slice none 0 0].toArray] Try.underlying46 ty_28 (by decide) rfl rfl rfl (by decide) (by decide) (by intro v hv; simp at hv; subst hv; rfl)) rfl ?_; intro v25 h25 (r25 : RowO 28 [a13, b13, .slice none 0 0] 1 3 v25 h25)
    refine rk_m 2 rfl rfl rfl rfl (m_append 2 0 Try.underlying46 ty_28 rfl rfl (by decide) rfl rfl rfl rr rfl r25.toR (by simp [one_sl, rl13.sl.one, rd13.sl.one]) (by unfold maxLen; omega) (by omega)) rfl ?_; intro v26 h_r26 (r26 : RowO 28 (cs ++ [a13, b13, .slice none 0 0]) (i + 1) 3 v26 h_r26)
    refine rk_fv rfl rfl (v_nilCheck rfl) rfl ?_
    refine rk_fv rfl rfl (v_fieldAddr fd_189_0 ty_46 (by decide) rfl) rfl ?_
    refine rk_mt 4 rfl rfl rfl rfl (m_store1 4 ty_46 rfl rfl r26.toR.sl.one rfl (Nat.le_of_ble_eq_true rfl)) rfl ?_; rintro _ _ ⟨rfl, rfl⟩
    refine rk_end ?_
    refine qs_n ?_
    refine wp_sq ?_
    refine sq_v rfl (v_move rfl) rfl ?_
    refine sq_v rfl (v_move rfl) rfl ?_
    refine sq_v rfl (v_nilCheck rfl) rfl ?_
    refine sq_v rfl (v_fieldAddr fd_189_1 ty_128 (by decide) rfl) rfl ?_
    refine sq_v rfl (v_loadB 4 ty_128 rfl rfl rfl) rfl ?_
    refine sq_x rfl (x_buildS [.bool (false)] Try.underlying128 ty_4 (by decide) rfl rfl rfl (by decide) (by decide) (by intro v hv; simp at hv; rcases hv with rfl <;> rfl)) rfl ?_; intro v34 h34 (r34 : BoolsO [false] v34 h34)
    refine sq_m 4 rfl rfl (m_appBl 4 0 Try.underlying128 ty_4 rfl rfl rfl rfl qg rfl r34.toR (by first | omega | (simp only [List.length_cons, List.length_nil]; omega) | (simp only [List.length_append, List.length_cons, List.length_nil]; omega) | (rw [List.length_set]; omega) | (rw [List.length_replicate]; omega) | (simp; omega))) rfl ?_; intro v35 h_r35 r35
    refine sq_v rfl (v_nilCheck rfl) rfl ?_
    refine sq_v rfl (v_fieldAddr fd_189_1 ty_128 (by decide) rfl) rfl ?_
    refine sq_m 5 rfl rfl (m_store1 5 ty_128 rfl rfl r35.toR.sl.one rfl (Nat.le_of_ble_eq_true rfl)) rfl ?_; rintro _ _ ⟨rfl, rfl⟩
    refine sq_end ?_
    refine qs_bn ?_
    refine qs_n ?_
    refine wp_sq ?_
    refine sq_v rfl (v_add rfl rfl ((by unfold I64; omega))) rfl ?_
    refine sq_v rfl (v_move rfl) rfl ?_
    refine sq_end ?_
    exact qs_bk (i + 1, v26, h_r26, cs ++ [a13, b13, .slice none 0 0], v35, h_r35) ⟨by (try dsimp only); omega, by (try dsimp only); rw [tenTo_step ht13]; exact hlv.snoc rl13 rd13 (IntsR.nil _), r26, by (try dsimp only); rw [List.replicate_succ']; exact r35⟩ (by simp only; omega) ⟨rfl, rfl, rfl, rfl, (by first | rfl | exact ksub rfl (by first | omega | (simp; done) | (simp; omega))), trivial⟩ (fun _ s => s.pick [3, 4, 5, 6, 7, 8] (by decide) rfl)
  · refine wp_ex ?_
    refine qs_x ?_
    refine qs_x ?_
    refine qs_bx ?_
    refine qs_n ?_
    refine wp_sc ?_
    refine wp_sq ?_
    refine sq_v rfl (v_move rfl) rfl ?_
    refine sq_v rfl (v_assign rfl) rfl ?_
    refine sq_end ?_
    refine qs_n ?_
    refine wp_rt ?_
    refine qs_close [hp w] [box b7 _ _, ha, hg, emp] (fun _ s => Sat.pick (HS := emp :: ha :: hg :: box b7 _ _ :: box b1 _ _ :: hp w :: []) (emp_sat (Sat.whole lq (HS := [ha, hg, box b7 _ _, box b1 _ _]) (s.pick [4, 5, 0, 1, 2, 3] (by decide) rfl))) [5, 3, 1, 2, 0] (by decide) rfl) (fun md => ?_)
    have ei : i = ts.length := by omega
    subst ei
    rw [tenTo_sh hd] at hlv
    have el : (sh0 ts).all.length = ts.length := by simp [sh0]
    exact qs_ret1 rfl rfl (fin_t 0 (i := 1) rfl rfl rfl ⟨b7, rfl, sh0_ok ts, va, vg, ha, hg, emp, cs, by rw [el]; exact rr, qg, hlv.mono (fun k o e => by simpa [PUn, emp] using e), md⟩)
noncomputable def costsL (f : Int → Int) (op : List Int) : Sh → List Stp → List Int
  | _, [] => []
  | s, x :: r => costL f s x.a.toNat x.b.toNat :: costsL f op (s.step op x.a.toNat x.b.toNat) r
theorem costsL_append (f : Int → Int) (op : List Int) : ∀ (s : Sh) (a b : List Stp), costsL f op s (a ++ b) = costsL f op s a ++ costsL f op (shTo op s a) b
  | s, [], b => by simp [costsL, shTo]
  | s, x :: r, b => by
    have := costsL_append f op (s.step op x.a.toNat x.b.toNat) r b
    simp only [List.cons_append, costsL, this]
    rfl
theorem costsL_len (f : Int → Int) (op : List Int) : ∀ (s : Sh) (ss : List Stp), (costsL f op s ss).length = ss.length
  | _, [] => rfl
  | s, x :: r => by simp [costsL, costsL_len f op (s.step op x.a.toNat x.b.toNat) r]
theorem costsL_step {f : Int → Int} {op : List Int} {s : Sh} {ss : List Stp} {i : Nat} {x : Stp} (h : ss[i]? = some x) : costsL f op s (ss.take (i + 1)) = costsL f op s (ss.take i) ++ [costL f (shTo op s (ss.take i)) x.a.toNat x.b.toNat] := by
  obtain ⟨hi, e⟩ := List.getElem?_eq_some_iff.1 h
  rw [List.take_succ_eq_append_getElem hi, e, costsL_append]; rfl
theorem costsL_at {f : Int → Int} {op : List Int} : ∀ {s : Sh} {ss : List Stp} {i : Nat} {x : Stp}, ss[i]? = some x → (costsL f op s ss).getD i 0 = costL f (shTo op s (ss.take i)) x.a.toNat x.b.toNat
  | s, [], i, x, h => by simp at h
  | s, y :: r, 0, x, h => by cases h; rfl
  | s, y :: r, i + 1, x, h => by
    have := costsL_at (f := f) (op := op) (s := s.step op y.a.toNat y.b.toNat) (ss := r) (i := i) (x := x) (by simpa using h)
    show (costsL f op (s.step op y.a.toNat y.b.toNat) r).getD i 0 = _
    rw [this]; rfl
theorem costL_in {f : Int → Int} {s : Sh} {a b : Nat} (h : ∀ i, ∀ l ∈ s.lab i, 1 ≤ f l ∧ f l ≤ 8) : 1 ≤ costL f s a b ∧ costL f s a b ≤ 1000000000 := by
  have := prodI_one (ds := (joinI (s.lab a) (s.lab b)).map f) (fun d hd => by
    simp only [List.mem_map] at hd
    obtain ⟨x, hx, rfl⟩ := hd
    exact ((mem_joinI.1 hx).elim (h _ x) (h _ x)).1)
  unfold costL
  omega
theorem fit_step {f : Int → Int} {op : List Int} {s : Sh} {a b : Nat} (h : ∀ i, ∀ l ∈ s.lab i, 1 ≤ f l ∧ f l ≤ 8) : ∀ i, ∀ l ∈ (s.step op a b).lab i, 1 ≤ f l ∧ f l ≤ 8 := fun i l hl => by
  rcases Nat.lt_trichotomy i s.all.length with hi | hi | hi
  · rw [step_lab hi] at hl; exact h i l hl
  · subst hi
    rw [step_lab_new] at hl
    exact (res_mem hl).elim (h _ l) (h _ l)
  · have : (s.step op a b).lab i = [] := by simp only [Sh.lab, Sh.step, List.getD]; rw [List.getElem?_eq_none (by simp; omega)]; rfl
    rw [this] at hl; simp at hl
theorem fit_to {f : Int → Int} {op : List Int} : ∀ {s : Sh} (_ : ∀ i, ∀ l ∈ s.lab i, 1 ≤ f l ∧ f l ≤ 8) (ss : List Stp), ∀ i, ∀ l ∈ (shTo op s ss).lab i, 1 ≤ f l ∧ f l ≤ 8
  | _, h, [] => h
  | _, h, x :: r => fit_to (fit_step (op := op) (a := x.a.toNat) (b := x.b.toNat) h) r
theorem net_dmap {k p n : Int} {ts : List Ten} {op : List Int} (h : netL k p n ts op) : ∀ t ∈ ts, t.d = t.l.map (dimOf ts) := fun t ht => by
  have hax := net_axes h t ht
  refine ext_getD (by rw [List.length_map, hax.2.1]) fun j hj => ?_
  have hj' : j < t.l.length := by rw [hax.2.1]; exact hj
  rw [map_getD hj', net_dim h ht (mem_getD hj'), find_at hax hj', Int.toNat_natCast]
theorem net_fit {k p n : Int} {ts : List Ten} {op : List Int} (h : netL k p n ts op) : ∀ i, ∀ l ∈ (sh0 ts).lab i, 1 ≤ dimOf ts l ∧ dimOf ts l ≤ 8 := fun i l hl => by
  by_cases hi : i < ts.length
  · have : (sh0 ts).lab i = ts[i].l := by simp [Sh.lab, sh0, List.getD, hi]
    rw [this] at hl
    have hm := List.getElem_mem hi
    have hax := net_axes h _ hm
    have hg := findI_get hl
    rw [net_dim h hm hl]
    exact (hax.2.2 _ hg.1).2.1
  · have : (sh0 ts).lab i = [] := by simp [Sh.lab, sh0, List.getD, Nat.le_of_not_lt hi]
    rw [this] at hl; simp at hl
set_option maxHeartbeats 2000000 in
theorem ct_s_l17Run (f : Int → Int) (k p n : Int) (ts : List Ten) (op : List Int) (ss : List Stp) (vt vo v : Value) (w : World) (q : PH) (lq : PLe q (hp w)) (r : TensR ts vt q) (r' : IntsR op vo (hp w)) (rv : StepsR ss v (hp w)) (hd : ∀ t ∈ ts, t.d = t.l.map f) (hts : ts.length ≤ 500) (hss : ss.length ≤ 500)
    (hfi : (sh0 ts).fine) (hfit : ∀ i, ∀ l ∈ (sh0 ts).lab i, 1 ≤ f l ∧ f l ≤ 8) (hok : okSteps op (sh0 ts) ss) (hop : op.length ≤ 1048576) :
    Calls Try.prog 106 [netV k p n vt vo, v].toArray w (Ret w emp (fun u h => ∃ bb vc g1 g2, u = .tuple [ptrV bb, vc].toArray ∧ SpO f (shTo op (sh0 ts) ss) bb g1 q ∧ IntsO (costsL f op (sh0 ts) ss) vc g2 ∧ Made h [g1, g2])) := by
  refine calls_in Try.func106 rfl Try.ntmps106 rfl (Sat.start w) ?_
  have hle0 := r'.le
  have hle1 := rv.le
  obtain ⟨cs_rv, rr_rv, hc_rv⟩ := rv.at
  refine wp_sc ?_
  refine wp_sq ?_
  refine sq_x rfl (x_box rfl rfl) rfl ?_; rintro _ _ ⟨b2, rfl, rfl⟩
  refine sq_v rfl (v_assign rfl) rfl ?_
  refine sq_v rfl (v_assign rfl) rfl ?_
  refine sq_end ?_
  refine qs_n ?_
  refine wp_sc ?_
  refine wp_sq ?_
  refine sq_v rfl (v_loadNB 0 ty_48 rfl rfl rfl rfl) rfl ?_
  refine sq_x rfl (x_call rfl en_197 (fun w s => ct_s_l17New f _ _ _ _ _ _ w q (lq.trans (s.get 1 rfl)) r hd (by first | assumption | omega))) rfl ?_; rintro _ h11 ⟨bb, rfl, rsp⟩
  refine sq_v rfl (v_assign rfl) rfl ?_
  refine sq_end ?_
  refine qs_n ?_
  refine wp_sc ?_
  refine wp_sq ?_
  refine sq_x rfl (x_build0 Try.underlying24 ty_3) rfl ?_; intro v12 h12 (r12 : IntsO [] v12 h12)
  refine sq_v rfl (v_assign rfl) rfl ?_
  refine sq_end ?_
  refine qs_n ?_
  refine wp_sc ?_
  refine wp_sc ?_
  refine wp_sq ?_
  refine sq_v rfl (v_move rfl) rfl ?_
  refine sq_v rfl (v_len Try.underlying43 rfl rv.sl) rfl ?_
  refine sq_v rfl (v_move rfl) rfl ?_
  refine sq_end ?_
  refine qs_n ?_
  refine wp_bl ?_
  refine wp_lp (σ := Nat × PH × Value × PH) (fun z_ => [(2, .pointer (some ⟨b2, 0, none⟩)), (4, .pointer none), (5, .slice none 0 0), (6, ptrV bb), (7, z_.2.2.1), (13, v), (14, num ss.length), (15, num z_.1)]) (fun z_ => [z_.2.1, z_.2.2.2, box b2 [num k, num p, num n, vt, vo] 48, hp w]) (fun z_ => z_.1 ≤ ss.length ∧ SpO f (shTo op (sh0 ts) (ss.take z_.1)) bb z_.2.1 q ∧ IntsO (costsL f op (sh0 ts) (ss.take z_.1)) z_.2.2.1 z_.2.2.2) (fun z_ => ss.length - z_.1) (0, h11, v12, h12) (⟨by (try dsimp only); omega, by (try dsimp only); simpa [shTo] using rsp, by (try dsimp only); simpa [costsL] using r12⟩) ⟨rfl, rfl, rfl, rfl, (by first | rfl | exact ksub rfl (by first | omega | (simp; done) | (simp; omega))), rfl, rfl, (by first | rfl | exact ksub rfl (by first | omega | (simp; done) | (simp; omega))), trivial⟩ (fun _ s => s.pick [1, 0, 2, 3] (by decide) rfl) ?_
  rintro ⟨i, g, vc, hc⟩ ⟨hi, hsp, qc⟩
  dsimp only at hi hsp qc ⊢
  have hle_qc := qc.toR.le
  have hcl := costsL_len f op (sh0 ts) (ss.take i)
  rw [List.length_take] at hcl
  have hfs := shTo_fine (op := op) hfi (ss.take i)
  have hft := fit_to (op := op) hfit (ss.take i)
  have hal := shTo_all (op := op) (s := sh0 ts) (ss := ss.take i)
  rw [show (sh0 ts).all.length = ts.length by simp [sh0], List.length_take] at hal
  refine wp_sc ?_
  refine wp_sq ?_
  refine sq_v rfl (v_lss rfl rfl) rfl ?_
  refine sq_end ?_
  refine qs_n ?_
  refine wp_sc ?_
  refine wp_cd rfl (fun c16 => ?_) (fun c16 => ?_)
  · refine wp_sk ?_
    refine qs_n ?_
    refine wp_sc ?_
    refine wp_bl ?_
    refine wp_sc ?_
    refine wp_sq ?_
    obtain ⟨x17, hx17, hcs17⟩ := hc_rv (i) (by first | omega | (rw [List.length_set]; omega))
    refine sq_v rfl (v_indexAddr Try.underlying43 ty_114 rfl rfl rr_rv (by decide) (by omega) (by first | omega | (rw [List.length_set]; omega))) rfl ?_
    refine sq_v rfl (v_loadNE 3 ty_114 rfl rfl rr_rv (by have := rr_rv.1; omega) rfl hcs17) rfl ?_
    refine sq_x rfl (x_alloc ty_114 rfl) rfl ?_; rintro _ _ ⟨b9, rfl, rfl⟩
    refine sq_m 0 rfl rfl (m_store 0 ty_114 rfl rfl rfl rfl (by simp [Value.oneCell']) rfl (Nat.le_of_ble_eq_true rfl)) rfl ?_; rintro _ _ ⟨rfl, rfl⟩
    refine sq_end ?_
    refine qs_n ?_
    refine wp_sq ?_
    refine sq_v rfl (v_move rfl) rfl ?_
    refine sq_v rfl (v_move rfl) rfl ?_
    refine sq_v rfl (v_fieldAddr fd_48_2 ty_24 (by decide) rfl) rfl ?_
    refine sq_v rfl (v_loadB 3 ty_24 rfl rfl rfl) rfl ?_
    refine sq_v rfl (v_loadNB 0 ty_114 rfl rfl rfl rfl) rfl ?_
    refine sq_m 1 rfl rfl (x_call rfl en_146 (fun w s => ct_s_l17Step f _ op _ bb _ _ w _ q (s.get 1 rfl) (lq.trans (s.getR 1 4 rfl rfl (by decide))) hsp (r'.mono (s.getR 1 4 rfl rfl (by decide))) hfs hft (hok i (by omega) x17 hx17) (by omega) hop)) rfl ?_; rintro _ h24 ⟨rfl, hsp'⟩
    refine sq_x rfl (x_buildS [num (costL f (shTo op (sh0 ts) (ss.take i)) x17.a.toNat x17.b.toNat)] Try.underlying24 ty_3 (by decide) rfl rfl rfl (by decide) (by decide) (by intro v hv; simp at hv; rcases hv with rfl <;> rfl)) rfl ?_; intro v25 h25 (r25 : IntsO [costL f (shTo op (sh0 ts) (ss.take i)) x17.a.toNat x17.b.toNat] v25 h25)
    refine sq_m 3 rfl rfl (m_appI 3 0 Try.underlying24 ty_3 rfl rfl rfl rfl qc rfl r25.toR (by first | omega | (simp only [List.length_cons, List.length_nil]; omega) | (simp only [List.length_append, List.length_cons, List.length_nil]; omega) | (rw [List.length_set]; omega) | (rw [List.length_replicate]; omega) | (simp; omega))) rfl ?_; intro v26 h_r26 r26
    refine sq_v rfl (v_assign rfl) rfl ?_
    refine sq_end ?_
    refine qs_bn ?_
    refine qs_n ?_
    refine wp_sq ?_
    refine sq_v rfl (v_add rfl rfl ((by unfold I64; omega))) rfl ?_
    refine sq_v rfl (v_move rfl) rfl ?_
    refine sq_end ?_
    exact qs_bk (i + 1, h24, v26, h_r26) ⟨by (try dsimp only); omega, by (try dsimp only); rw [shTo_step hx17]; exact hsp', by (try dsimp only); rw [costsL_step hx17]; exact r26⟩ (by simp only; omega) ⟨rfl, rfl, rfl, rfl, (by first | rfl | exact ksub rfl (by first | omega | (simp; done) | (simp; omega))), rfl, rfl, (by first | rfl | exact ksub rfl (by first | omega | (simp; done) | (simp; omega))), trivial⟩ (fun _ s => s.pick [2, 3, 4, 5] (by decide) rfl)
  · refine wp_ex ?_
    refine qs_x ?_
    refine qs_x ?_
    refine qs_bx ?_
    refine qs_n ?_
    refine wp_sc ?_
    refine wp_sq ?_
    refine sq_v rfl (v_move rfl) rfl ?_
    refine sq_v rfl (v_move rfl) rfl ?_
    refine sq_v rfl (v_assign rfl) rfl ?_
    refine sq_v rfl (v_assign rfl) rfl ?_
    refine sq_end ?_
    refine qs_n ?_
    refine wp_rt ?_
    refine qs_close [hp w] [g, hc] (fun _ s => s.pick [3, 0, 1] (by decide) rfl) (fun md => ?_)
    rw [List.take_of_length_le (by omega)] at qc hsp
    exact qs_ret2 rfl rfl rfl (fin_t 0 (i := 1) rfl rfl rfl ⟨bb, vc, g, hc, rfl, hsp, qc, md⟩)
end Go.Proofs.Ytikeobneipjfnaa
