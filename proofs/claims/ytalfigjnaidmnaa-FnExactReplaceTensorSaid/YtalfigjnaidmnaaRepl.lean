/-
  A network with one tensor replaced, in the program and in the reference.
  Conditions: none.
-/
import Derived.Test.YtalfigjnaidmnaaFit
import Derived.Test.YtalfigjnaidmnaaRkb
namespace Go.Proofs.Ytalfigjnaidmnaa
set_option maxRecDepth 100000
open Go.RowKit
/-! ### parts of a network -/
theorem Made.join3 {h a b : PH} {l : List PH} (m : Made h (a :: b :: l)) : Made h [a, b, joinP l] := by
  have hs := m.sep
  have hl : PLe (joinP l) h := fun k o e => by
    obtain ⟨y, hy, e'⟩ := joinP_dom e
    exact m.le y (by simp [hy]) k o e'
  refine ⟨⟨fun x hx => ?_, fun x hx => ?_, fun x hx => by simp at hx, trivial⟩, fun x hx => ?_, fun k o e => ?_⟩
  · rcases List.mem_cons.1 hx with rfl | hx
    · exact hs.1 _ (by simp)
    · simp at hx; subst hx
      exact PDj.join fun y hy => hs.1 y (by simp [hy])
  · simp at hx; subst hx
    exact PDj.join fun y hy => hs.2.1 y hy
  · simp at hx
    rcases hx with rfl | rfl | rfl
    · exact m.le _ (by simp)
    · exact m.le _ (by simp)
    · exact hl
  · obtain ⟨x, hx, e'⟩ := m.dom k o e
    simp at hx
    rcases hx with rfl | rfl | hx
    · exact ⟨x, by simp, e'⟩
    · exact ⟨x, by simp, e'⟩
    · exact ⟨joinP l, by simp, PLe.join hs.2.2 x hx k o e'⟩
theorem Made.part3 {h a b c : PH} {l : List PH} (m : Made h [a, b, c]) (ml : Made c l) : Made h (a :: b :: l) := by
  have hs := m.sep
  have hc : PLe c h := m.le c (by simp)
  refine ⟨⟨fun x hx => ?_, fun x hx => ?_, ml.sep⟩, fun x hx => ?_, fun k o e => ?_⟩
  · rcases List.mem_cons.1 hx with rfl | hx
    · exact hs.1 _ (by simp)
    · exact (((hs.1 c (by simp)).symm).mono (ml.le x hx)).symm
  · exact (((hs.2.1 c (by simp)).symm).mono (ml.le x hx)).symm
  · simp at hx
    rcases hx with rfl | rfl | hx
    · exact m.le _ (by simp)
    · exact m.le _ (by simp)
    · exact (ml.le x hx).trans hc
  · obtain ⟨x, hx, e'⟩ := m.dom k o e
    simp at hx
    rcases hx with rfl | rfl | rfl
    · exact ⟨x, by simp, e'⟩
    · exact ⟨x, by simp, e'⟩
    · obtain ⟨y, hy, e2⟩ := ml.dom k o e'
      exact ⟨y, by simp [hy], e2⟩
theorem NetO.split {ts : List Ten} {op : List Int} {vt vo : Value} {h : PH} (r : NetO ts op vt vo h) : ∃ cs h0 ho hl, RowO 52 cs ts.length 3 vt h0 ∧ IntsO op vo ho ∧ OwnH (flat ts) cs hl ∧ Made h [h0, ho, hl] := by
  obtain ⟨cs, h0, ho, l, r0, r1, o, m⟩ := r
  exact ⟨cs, h0, ho, joinP l, r0, r1, ⟨l, o, Made.join m.sep.2.2⟩, m.join3⟩
theorem NetO.join {ts : List Ten} {op : List Int} {vt vo : Value} {h h0 ho hl : PH} {cs : List Value} (r0 : RowO 52 cs ts.length 3 vt h0) (r1 : IntsO op vo ho) (o : OwnH (flat ts) cs hl) (m : Made h [h0, ho, hl]) : NetO ts op vt vo h := by
  obtain ⟨l, o, ml⟩ := o
  exact ⟨cs, h0, ho, l, r0, r1, o, m.part3 ml⟩
theorem OwnL.take {xss : List (List Int)} {vs : List Value} {l : List PH} (o : OwnL xss vs l) (n : Nat) : OwnL (xss.take n) (vs.take n) (l.take n) := by
  refine ⟨by simp [o.l1], by simp [o.l2], fun i xs h => ?_⟩
  have hi : i < n := by
    rcases Nat.lt_or_ge i n with h' | h'
    · exact h'
    · rw [List.getElem?_take, if_neg (by omega)] at h; cases h
  rw [List.getElem?_take, if_pos hi] at h ⊢
  rw [List.getElem?_take, if_pos hi]
  exact o.own i xs h
theorem OwnL.drop {xss : List (List Int)} {vs : List Value} {l : List PH} (o : OwnL xss vs l) (n : Nat) : OwnL (xss.drop n) (vs.drop n) (l.drop n) := by
  refine ⟨by simp [o.l1], by simp [o.l2], fun i xs h => ?_⟩
  rw [List.getElem?_drop] at h ⊢
  rw [List.getElem?_drop]
  exact o.own (n + i) xs h
theorem flat_take {ts : List Ten} {i : Nat} (h : i ≤ ts.length) : flat (ts.take i) = (flat ts).take (i * 3) ∧ flat (ts.drop i) = (flat ts).drop (i * 3) := by
  have e : flat ts = flat (ts.take i) ++ flat (ts.drop i) := by rw [← flat_append, List.take_append_drop]
  have hl : (flat (ts.take i)).length = i * 3 := by rw [flat_len, List.length_take, Nat.min_eq_left h]
  constructor
  · rw [e, List.take_left' hl]
  · rw [e, List.drop_left' hl]
theorem flat_set {ts : List Ten} {i : Nat} (h : i < ts.length) (u : Ten) : flat (ts.set i u) = (flat ts).take (i * 3) ++ [u.l, u.d, u.x] ++ (flat ts).drop (i * 3 + 3) := by
  rw [List.set_eq_take_append_cons_drop, if_pos h, flat_append, (flat_take (Nat.le_of_lt h)).1, show i * 3 + 3 = (i + 1) * 3 by omega, ← (flat_take (show i + 1 ≤ ts.length by omega)).2, List.append_assoc]
  rfl
theorem sep_mono {l l' : List PH} (h : sepL l) (hs : l'.Sublist l) : sepL l' := by
  induction hs with
  | slnil => exact trivial
  | cons x _ ih => exact ih h.2
  | cons_cons x s ih => exact ⟨fun y hy => h.1 y (s.subset hy), ih h.2⟩
theorem OwnH.set {ts : List Ten} {u : Ten} {cs : List Value} {a b c : Value} {h h' : PH} {i : Nat} (hi : i < ts.length) (o : OwnH (flat ts) cs h) (r : TriO u a b c h') (hd : PDj h h') :
    ∃ g, PLe g (PUn h h') ∧ OwnH (flat (ts.set i u)) (cs.take (i * 3) ++ [a, b, c] ++ cs.drop (i * 3 + 3)) g := by
  obtain ⟨l, ol, m⟩ := o
  obtain ⟨h1, h2, h3, r1, r2, r3, m'⟩ := r
  have hx : ∀ x ∈ l.take (i * 3) ++ [h1, h2, h3] ++ l.drop (i * 3 + 3), PLe x (PUn h h') := fun x hx => by
    simp only [List.mem_append] at hx
    rcases hx with (hx | hx) | hx
    · exact (m.le x (List.mem_of_mem_take hx)).trans (PLe.un_l _ _)
    · exact (m'.le x hx).trans (PLe.un_r hd)
    · exact (m.le x (List.mem_of_mem_drop hx)).trans (PLe.un_l _ _)
  have hab : ∀ x ∈ l, ∀ y ∈ [h1, h2, h3], PDj x y := fun x hx y hy => (((hd.mono (m.le x hx)).symm).mono (m'.le y hy)).symm
  have hsub : (l.take (i * 3) ++ l.drop (i * 3 + 3)).Sublist l := by
    conv => rhs; rw [← List.take_append_drop (i * 3) l]
    refine List.Sublist.append (List.Sublist.refl _) ?_
    rw [← List.drop_drop]
    exact List.drop_sublist _ _
  have hsep := sepL_append.1 (sep_mono m.sep hsub)
  have hs : sepL (l.take (i * 3) ++ [h1, h2, h3] ++ l.drop (i * 3 + 3)) := by
    refine sepL_append.2 ⟨sepL_append.2 ⟨hsep.1, m'.sep, fun x hx y hy => hab x (List.mem_of_mem_take hx) y hy⟩, hsep.2.1, fun x hx y hy => ?_⟩
    rcases List.mem_append.1 hx with hx | hx
    · exact hsep.2.2 x hx y hy
    · exact (hab y (List.mem_of_mem_drop hy) x hx).symm
  refine ⟨joinP (l.take (i * 3) ++ [h1, h2, h3] ++ l.drop (i * 3 + 3)), fun k o e => ?_, _, ?_, Made.join hs⟩
  · obtain ⟨y, hy, e'⟩ := joinP_dom e
    exact hx y hy k o e'
  · rw [flat_set hi]
    exact ((ol.take _).append (OwnL.three r1 r2 r3)).append (ol.drop _)
/-! ### the replacement -/
def replP (k p n : Int) (ts : List Ten) (op : List Int) (i : Int) (u : Ten) : Prop := netL k p n ts op ∧ (0 ≤ i ∧ i < ts.length) ∧ fitP k p n (ts.getD i.toNat ⟨[], [], []⟩) u
open Classical in
noncomputable def replB (k p n : Int) (ts : List Ten) (op : List Int) (i : Int) (u : Ten) : Bool := decide (replP k p n ts op i u)
noncomputable def ifB {α : Type} (b : Bool) (x y : α) : α := if b then x else y
noncomputable def replTs (k p n : Int) (ts : List Ten) (op : List Int) (i : Int) (u : Ten) : List Ten := ifB (replB k p n ts op i u) (ts.set i.toNat u) []
noncomputable def replOp (k p n : Int) (ts : List Ten) (op : List Int) (i : Int) (u : Ten) : List Int := ifB (replB k p n ts op i u) op []
def ReplR (k p n : Int) (ts : List Ten) (op : List Int) (i : Int) (u : Ten) (x : Value) (h : PH) : Prop :=
  ∃ vt vo, x = .tuple [netV (ifB (replB k p n ts op i u) k 0) (ifB (replB k p n ts op i u) p 0) (ifB (replB k p n ts op i u) n 0) vt vo, .bool (replB k p n ts op i u)].toArray ∧ NetO (replTs k p n ts op i u) (replOp k p n ts op i u) vt vo h
theorem NetO.nil : NetO [] [] (.slice none 0 0) (.slice none 0 0) emp :=
  ⟨[], emp, emp, [], RowO.nil, IntsO.nil, OwnL.nil, ⟨by simp [sepL, PDj.emp], fun x hx => by simp at hx; subst hx; exact PLe.emp _, fun k o e => by cases e⟩⟩
theorem ReplR.no {k p n i : Int} {ts : List Ten} {op : List Int} {u : Ten} (h : ¬ replP k p n ts op i u) : ReplR k p n ts op i u (.tuple [netV 0 0 0 (.slice none 0 0) (.slice none 0 0), .bool false].toArray) emp := by
  have e : replB k p n ts op i u = false := by simp [replB, h]
  refine ⟨.slice none 0 0, .slice none 0 0, ?_, ?_⟩
  · rw [e]; rfl
  · rw [replTs, replOp, e]; exact NetO.nil
theorem ReplR.yes {k p n i : Int} {ts : List Ten} {op : List Int} {u : Ten} {vt vo : Value} {g : PH} (h : replP k p n ts op i u) (r : NetO (ts.set i.toNat u) op vt vo g) : ReplR k p n ts op i u (.tuple [netV k p n vt vo, .bool true].toArray) g := by
  have e : replB k p n ts op i u = true := by simp [replB, h]
  refine ⟨vt, vo, ?_, ?_⟩
  · rw [e]; rfl
  · rw [replTs, replOp, e]; exact r
set_option maxHeartbeats 2000000 in
theorem ct_s_ReplaceTensor (k p n i : Int) (ts : List Ten) (op : List Int) (u : Ten) (vt vo a b c : Value) (w : World) (r : TensR ts vt (hp w)) (r' : IntsR op vo (hp w)) (r1 : IntsR u.l a (hp w)) (r2 : IntsR u.d b (hp w)) (r3 : IntsR u.x c (hp w)) (hs : op.length ≤ 1048576) :
    Calls Try.prog 45 [netV k p n vt vo, num i, tenV a b c].toArray w (Ret w emp (ReplR k p n ts op i u)) := by
  refine calls_in Try.func45 rfl Try.ntmps45 rfl (Sat.start w) ?_
  have hle0 := r.le
  obtain ⟨cs_r, rr_r, hc_r⟩ := r.at
  have hle1 := r'.le
  have hle2 := r1.le
  have hle3 := r2.le
  have hle4 := r3.le
  refine wp_sc ?_
  refine wp_sq ?_
  refine sq_x rfl (x_box rfl rfl) rfl ?_; rintro _ _ ⟨b3, rfl, rfl⟩
  refine sq_x rfl (x_box rfl rfl) rfl ?_; rintro _ _ ⟨b5, rfl, rfl⟩
  refine sq_x rfl (x_alloc ty_33 rfl) rfl ?_; rintro _ _ ⟨b6, rfl, rfl⟩
  refine sq_v rfl (v_assign rfl) rfl ?_
  refine sq_end ?_
  refine qs_n ?_
  refine wp_sc ?_
  refine wp_sc ?_
  refine wp_sq ?_
  refine sq_v rfl (v_loadNB 2 ty_33 rfl rfl rfl rfl) rfl ?_
  refine sq_u rfl (x_callv rfl en_66 (fun w s => ct_s_NetworkOk _ _ _ _ _ _ _ w (r.mono (s.get 3 rfl)) (r'.mono (s.get 3 rfl)) (by first | assumption | omega))) rfl ?_
  refine sq_bb 12 rfl (fun c12 => ?_) (fun c12 => ?_)
  · refine sq_v rfl (v_not rfl) rfl ?_
    refine sq_v rfl (v_move rfl) rfl ?_
    refine sq_v rfl (v_move rfl) rfl ?_
    refine sq_v rfl (v_fieldAddr fd_33_1 ty_31 (by decide) rfl) rfl ?_
    refine sq_v rfl (v_loadB 2 ty_31 rfl rfl rfl) rfl ?_
    refine sq_v rfl (v_len Try.underlying31 rfl r.sl) rfl ?_
    refine sq_v rfl (v_sub rfl rfl ((by unfold I64; omega))) rfl ?_
    refine sq_u rfl (x_callv rfl en_68 (fun w s => ct_s_l01In _ _ _ w)) rfl ?_
    refine sq_v rfl (v_not rfl) rfl ?_
    refine sq_v rfl (v_pickf rfl rfl) rfl ?_
    refine sq_end ?_
    refine qs_n ?_
    refine wp_cnd rfl (fun c22 => ?_) (fun c22 => ?_)
    · refine wp_sc ?_
      refine wp_sq ?_
      refine sq_v rfl (v_build [num 0, num 0, num 0, .slice none 0 0, .slice none 0 0] rfl (by kernel_rfl)) rfl ?_
      refine sq_m 0 rfl rfl (m_store 0 ty_33 rfl rfl rfl rfl (by simp [one_int, one_sl]) rfl (Nat.le_of_ble_eq_true rfl)) rfl ?_; rintro _ _ ⟨rfl, rfl⟩
      refine sq_v rfl (v_assign rfl) rfl ?_
      refine sq_end ?_
      refine qs_n ?_
      refine wp_rt ?_
      refine qs_r ?_
      exact qs_retct 0 rfl ty_33 rfl rfl rfl rfl (fin_e (i := 3) rfl (ReplR.no (fun h => by first | exact netB_false.1 c12 h.1 | exact c21 (by have := h.2.1; omega) | (have := h.2.1; omega))))
    · refine wp_sk ?_
      refine qs_n ?_
      refine wp_sc ?_
      refine wp_ra (σ := Nat × PH × Ten × Value × Value × Value × Bool) 14 (fun z_ => TriO z_.2.2.1 z_.2.2.2.1 z_.2.2.2.2.1 z_.2.2.2.2.2.1 z_.2.1 ∧ (z_.2.2.2.2.2.2 = true ↔ fitP k p n (ts.getD i.toNat ⟨[], [], []⟩) u) ∧ (z_.2.2.2.2.2.2 = true → z_.2.2.1 = permT k n u (ts.getD i.toNat ⟨[], [], []⟩).l)) (fun z_ => [(1, num i), (3, .pointer (some ⟨b3, 0, none⟩)), (5, .pointer (some ⟨b5, 0, none⟩)), (6, .pointer (some ⟨b6, 0, none⟩)), (7, .bool false), (9, .bool z_.2.2.2.2.2.2), (22, .bool (!(decide (0 ≤ i ∧ i ≤ (ts.length - 1)))))]) (fun z_ => [box z_.1 [z_.2.2.2.1, z_.2.2.2.2.1, z_.2.2.2.2.2.1] 52, z_.2.1, box b6 [num 0, num 0, num 0, .slice none 0 0, .slice none 0 0] 33, box b5 [a, b, c] 52, box b3 [num k, num p, num n, vt, vo] 33, hp w]) mixed_ok (by kernel_rfl) ?_ ?_
      · refine rak_of ?_
        refine rak_v (i := 0) (by kernel_rfl) rfl rfl (v_fieldAddr fd_33_0 ty_30 (by decide) rfl) rfl ?_
        refine rak_v (i := 1) (by kernel_rfl) rfl rfl (v_loadNB 2 ty_30 rfl rfl rfl rfl) rfl ?_
        refine rak_v (i := 2) (by kernel_rfl) rfl rfl (v_fieldAddr fd_33_1 ty_31 (by decide) rfl) rfl ?_
        refine rak_v (i := 3) (by kernel_rfl) rfl rfl (v_loadB 2 ty_31 rfl rfl rfl) rfl ?_
        refine rak_v (i := 4) (by kernel_rfl) rfl rfl (v_move rfl) rfl ?_
        obtain ⟨t30, a30, b30, c30, ht30, hcs30, rl30, rd30, rx30⟩ := hc_r ((i : Int).toNat) (by first | omega | (rw [List.length_set]; omega))
        refine rak_v (i := 5) (by kernel_rfl) rfl rfl (v_indexAddr Try.underlying31 ty_52 rfl rfl rr_r (by decide) (by omega) (by omega)) rfl ?_
        refine rak_v (i := 6) (by kernel_rfl) rfl rfl (v_loadNE 3 ty_52 rfl rfl rr_r (by have := rr_r.1; omega) rfl hcs30) rfl ?_
        refine rak_v (i := 7) (by kernel_rfl) rfl rfl (v_loadNB 1 ty_52 rfl rfl rfl rfl) rfl ?_
        refine rak_2 (i := 8) (j := 12) (by kernel_rfl) ?_ ?_
        · refine rok_x rfl rfl (x_call rfl en_98 (fun w s => ct_s_l07Fits _ _ _ _ _ _ _ _ _ _ _ w (rl30.mono (s.get 3 rfl)) (rd30.mono (s.get 3 rfl)) (rx30.mono (s.get 3 rfl)) (r1.mono (s.get 3 rfl)) (r2.mono (s.get 3 rfl)) (r3.mono (s.get 3 rfl)))) rfl ?_; rintro _ h33 ⟨T, fa, fb, fc, bb, rfl, of, hbb, hT⟩
          refine rak_rk [(9, true), (10, true), (11, true), (12, false), (13, false), (14, false)] (by kernel_rfl) rfl ?_
          refine rk_v rfl rfl (v_move rfl) rfl ?_
          refine rk_v rfl rfl (v_extract rfl rfl) rfl ?_
          refine rk_v rfl rfl (v_extract rfl rfl) rfl ?_
          refine rk_xb rfl rfl (x_alloc ty_52 rfl) rfl ?_; rintro _ _ ⟨b8, rfl, rfl⟩
          refine rk_m 0 rfl rfl rfl rfl (m_store 0 ty_52 rfl rfl rfl rfl (by simp [of.toR.1.sl.one, of.toR.2.1.sl.one, of.toR.2.2.sl.one]) rfl (Nat.le_of_ble_eq_true rfl)) rfl ?_; rintro _ _ ⟨rfl, rfl⟩
          refine rk_fv rfl rfl (v_assign rfl) rfl ?_
          refine rk_end ?_
          have e30 : t30 = ts.getD i.toNat ⟨[], [], []⟩ := by simp [List.getD, ht30]
          rw [e30] at hbb hT
          exact qs_mid (b8, h33, T, fa, fb, fc, bb) ⟨of, hbb, hT⟩ ⟨rfl, rfl, rfl, rfl, rfl, rfl, rfl, trivial⟩ (fun _ s => s.pick [0, 1, 2, 3, 4, 5] (by decide) rfl)
        · refine rok_xb rfl rfl (x_alloc ty_52 rfl) rfl ?_; rintro _ _ ⟨b8, rfl, rfl⟩
          refine rak_rk [(8, false), (9, true), (10, true), (11, true), (13, false), (14, false)] (by kernel_rfl) rfl ?_
          refine rk_x rfl rfl (x_call rfl en_98 (fun w s => ct_s_l07Fits _ _ _ _ _ _ _ _ _ _ _ w (rl30.mono (s.get 4 rfl)) (rd30.mono (s.get 4 rfl)) (rx30.mono (s.get 4 rfl)) (r1.mono (s.get 4 rfl)) (r2.mono (s.get 4 rfl)) (r3.mono (s.get 4 rfl)))) rfl ?_; rintro _ h33 ⟨T, fa, fb, fc, bb, rfl, of, hbb, hT⟩
          refine rk_v rfl rfl (v_move rfl) rfl ?_
          refine rk_v rfl rfl (v_extract rfl rfl) rfl ?_
          refine rk_v rfl rfl (v_extract rfl rfl) rfl ?_
          refine rk_m 1 rfl rfl rfl rfl (m_store 1 ty_52 rfl rfl rfl rfl (by simp [of.toR.1.sl.one, of.toR.2.1.sl.one, of.toR.2.2.sl.one]) rfl (Nat.le_of_ble_eq_true rfl)) rfl ?_; rintro _ _ ⟨rfl, rfl⟩
          refine rk_fv rfl rfl (v_assign rfl) rfl ?_
          refine rk_end ?_
          have e30 : t30 = ts.getD i.toNat ⟨[], [], []⟩ := by simp [List.getD, ht30]
          rw [e30] at hbb hT
          exact qs_mid (b8, h33, T, fa, fb, fc, bb) ⟨of, hbb, hT⟩ ⟨rfl, rfl, rfl, rfl, rfl, rfl, rfl, trivial⟩ (fun _ s => s.pick [1, 0, 2, 3, 4, 5] (by decide) rfl)
      · rintro ⟨b8, h33, T, fa, fb, fc, bb⟩ ⟨of, hbb, hT⟩
        dsimp only at of hbb hT ⊢
        refine qs_n ?_
        refine wp_sc ?_
        refine wp_sc ?_
        refine wp_sq ?_
        refine sq_v rfl (v_move rfl) rfl ?_
        refine sq_v rfl (v_not rfl) rfl ?_
        refine sq_end ?_
        refine qs_n ?_
        refine wp_cn _ rfl (fun c37 => ?_) (fun c37 => ?_)
        · refine wp_sc ?_
          refine wp_sq ?_
          refine sq_v rfl (v_build [num 0, num 0, num 0, .slice none 0 0, .slice none 0 0] rfl (by kernel_rfl)) rfl ?_
          refine sq_m 2 rfl rfl (m_store 2 ty_33 rfl rfl rfl rfl (by simp [one_int, one_sl]) rfl (Nat.le_of_ble_eq_true rfl)) rfl ?_; rintro _ _ ⟨rfl, rfl⟩
          refine sq_v rfl (v_assign rfl) rfl ?_
          refine sq_end ?_
          refine qs_n ?_
          refine wp_rt ?_
          refine qs_r ?_
          exact qs_retct 2 rfl ty_33 rfl rfl rfl rfl (fin_e (i := 5) rfl (ReplR.no (fun h => by have := hbb.2 h.2.2; rw [c37] at this; cases this)))
        · refine wp_sk ?_
          refine qs_n ?_
          refine wp_sc ?_
          refine wp_sq ?_
          refine sq_v rfl (v_loadNB 4 ty_33 rfl rfl rfl rfl) rfl ?_
          have hnet := netB_true.1 c12
          refine sq_x rfl (x_call rfl en_99 (fun w s => ct_s_l14Copy _ _ _ _ _ _ _ w (r.mono (s.get 5 rfl)) (r'.mono (s.get 5 rfl)) (by first | assumption | omega) (by first | assumption | omega))) rfl ?_; rintro _ h40 ⟨vt40, vo40, rfl, o40⟩
          obtain ⟨cs_T_40, rr_T_40, hc_T_40⟩ := o40.toR.1.at
          refine sq_x rfl (x_alloc ty_33 rfl) rfl ?_; rintro _ _ ⟨b10, rfl, rfl⟩
          refine sq_m 0 rfl rfl (m_store 0 ty_33 rfl rfl rfl rfl (by simp [one_int, o40.toR.1.sl.one, o40.toR.2.sl.one]) rfl (Nat.le_of_ble_eq_true rfl)) rfl ?_; rintro _ _ ⟨rfl, rfl⟩
          refine sq_end ?_
          have hi : i.toNat < ts.length := by omega
          have hfit := hbb.1 c37
          have hlen := ten_len hfit.2.1
          obtain ⟨cs, g0, go, gl, rr, ro, oh, md40⟩ := o40.split
          refine qs_s [box b10 [num k, num p, num n, vt40, vo40] 33, box b6 [num 0, num 0, num 0, .slice none 0 0, .slice none 0 0] 33, box b5 [a, b, c] 52, hp w, g0, go, gl] (fun _ s => Sat.open (A := [box b10 [num k, num p, num n, vt40, vo40] 33, box b6 [num 0, num 0, num 0, .slice none 0 0, .slice none 0 0] 33, box b5 [a, b, c] 52, hp w]) md40 (s.pick [1, 0, 4, 5, 7] (by decide) rfl)) ?_
          refine qs_n ?_
          refine wp_sc ?_
          refine wp_rj 6 [(0, true), (1, true), (2, true), (3, true), (4, false), (5, true), (6, false)] mixed_ok (by kernel_rfl) ?_
          refine rj_v rfl rfl (v_fieldAddr fd_33_1 ty_31 (by decide) rfl) rfl ?_
          refine rj_v rfl rfl (v_loadB 0 ty_31 rfl rfl rfl) rfl ?_
          refine rj_v rfl rfl (v_move rfl) rfl ?_
          refine rj_v rfl rfl (v_loadNB 2 ty_52 rfl rfl rfl rfl) rfl ?_
          refine rj_x rfl rfl (x_call rfl en_100 (fun w s => ct_s_l05Copy _ _ _ _ w (r1.mono (s.get 3 rfl)) (r2.mono (s.get 3 rfl)) (r3.mono (s.get 3 rfl)) (by first | assumption | omega))) rfl ?_; rintro _ h45 ⟨va45, vb45, vc45, rfl, o45⟩
          refine rj_v rfl rfl (v_indexAddr Try.underlying31 ty_52 rfl rfl rr.toR (by decide) (by omega) (by omega)) rfl ?_
          refine rj_m 5 rfl rfl rfl rfl (m_storeE 5 ty_52 rfl rfl (us := [va45, vb45, vc45]) rfl rfl (by simp [o45.toR.1.sl.one, o45.toR.2.1.sl.one, o45.toR.2.2.sl.one]) rfl rr (by decide) (by have := rr.1; omega)) rfl ?_; rintro _ h7 ⟨rfl, r7⟩
          refine rj_end ?_
          refine qs_n ?_
          refine wp_sc ?_
          refine wp_sq ?_
          refine sq_v rfl (v_loadNB 1 ty_33 rfl rfl rfl rfl) rfl ?_
          refine sq_m 2 rfl rfl (m_store 2 ty_33 rfl rfl rfl rfl (by simp [one_int, o40.toR.1.sl.one, o40.toR.2.sl.one]) rfl (Nat.le_of_ble_eq_true rfl)) rfl ?_; rintro _ _ ⟨rfl, rfl⟩
          refine sq_v rfl (v_assign rfl) rfl ?_
          refine sq_end ?_
          refine qs_n ?_
          refine wp_rt ?_
          refine qs_dj 7 0 rfl rfl rfl (fun hdj => ?_)
          obtain ⟨g, hg, oh2⟩ := oh.set hi o45 hdj
          refine qs_s [g, box b6 [num k, num p, num n, vt40, vo40] 33, hp w, h7, go] (fun _ s => (Sat.merge (s.pick [7, 0, 2, 4, 5, 6] (by decide) rfl)).less (i := 0) rfl hg) ?_
          refine qs_close [box b6 [num k, num p, num n, vt40, vo40] 33, hp w] [h7, go, g] (fun _ s => s.pick [1, 2, 3, 4, 0] (by decide) rfl) (fun md => ?_)
          exact qs_retct 1 rfl ty_33 rfl rfl rfl rfl (fin_t 0 (i := 2) rfl rfl rfl (ReplR.yes ⟨hnet, ⟨by omega, by omega⟩, hfit⟩ (NetO.join (by rw [List.length_set]; exact r7) ro oh2 md)))
  · refine sq_v rfl (v_not rfl) rfl ?_
    refine sq_v rfl (v_move rfl) rfl ?_
    refine sq_s rfl rfl ?_
    refine sq_s rfl rfl ?_
    refine sq_s rfl rfl ?_
    refine sq_s rfl rfl ?_
    refine sq_s rfl rfl ?_
    refine sq_s rfl rfl ?_
    refine sq_s rfl rfl ?_
    refine sq_v rfl (v_pickt rfl rfl) rfl ?_
    refine sq_end ?_
    refine qs_n ?_
    refine wp_ct rfl ?_
    refine wp_sc ?_
    refine wp_sq ?_
    refine sq_v rfl (v_build [num 0, num 0, num 0, .slice none 0 0, .slice none 0 0] rfl (by kernel_rfl)) rfl ?_
    refine sq_m 0 rfl rfl (m_store 0 ty_33 rfl rfl rfl rfl (by simp [one_int, one_sl]) rfl (Nat.le_of_ble_eq_true rfl)) rfl ?_; rintro _ _ ⟨rfl, rfl⟩
    refine sq_v rfl (v_assign rfl) rfl ?_
    refine sq_end ?_
    refine qs_n ?_
    refine wp_rt ?_
    refine qs_r ?_
    exact qs_retct 0 rfl ty_33 rfl rfl rfl rfl (fin_e (i := 3) rfl (ReplR.no (fun h => by first | exact netB_false.1 c12 h.1 | exact c21 (by have := h.2.1; omega) | (have := h.2.1; omega))))
set_option maxHeartbeats 2000000 in
theorem ct_i_ReplaceTensor (k p n i : Int) (ts : List Ten) (op : List Int) (u : Ten) (vt vo a b c : Value) (w : World) (r : TensR ts vt (hp w)) (r' : IntsR op vo (hp w)) (r1 : IntsR u.l a (hp w)) (r2 : IntsR u.d b (hp w)) (r3 : IntsR u.x c (hp w)) (hs : op.length ≤ 1048576) :
    Calls Try.prog 46 [netV k p n vt vo, num i, tenV a b c].toArray w (Ret w emp (ReplR k p n ts op i u)) := by
  refine calls_in Try.func46 rfl Try.ntmps46 rfl (Sat.start w) ?_
  have hle0 := r.le
  obtain ⟨cs_r, rr_r, hc_r⟩ := r.at
  have hle1 := r'.le
  have hle2 := r1.le
  have hle3 := r2.le
  have hle4 := r3.le
  refine wp_sc ?_
  refine wp_sq ?_
  refine sq_x rfl (x_box rfl rfl) rfl ?_; rintro _ _ ⟨b3, rfl, rfl⟩
  refine sq_x rfl (x_box rfl rfl) rfl ?_; rintro _ _ ⟨b5, rfl, rfl⟩
  refine sq_x rfl (x_alloc ty_33 rfl) rfl ?_; rintro _ _ ⟨b6, rfl, rfl⟩
  refine sq_v rfl (v_assign rfl) rfl ?_
  refine sq_end ?_
  refine qs_n ?_
  refine wp_sc ?_
  refine wp_sc ?_
  refine wp_sq ?_
  refine sq_v rfl (v_loadNB 2 ty_33 rfl rfl rfl rfl) rfl ?_
  refine sq_u rfl (x_callv rfl en_101 (fun w s => ct_i_NetworkOk _ _ _ _ _ _ _ w (r.mono (s.get 3 rfl)) (r'.mono (s.get 3 rfl)) (by first | assumption | omega))) rfl ?_
  refine sq_bb 12 rfl (fun c12 => ?_) (fun c12 => ?_)
  · refine sq_v rfl (v_not rfl) rfl ?_
    refine sq_v rfl (v_move rfl) rfl ?_
    refine sq_v rfl (v_move rfl) rfl ?_
    refine sq_v rfl (v_lss rfl rfl) rfl ?_
    refine sq_v rfl (v_pickf rfl rfl) rfl ?_
    refine sq_bd 17 rfl (fun c17 => ?_) (fun c17 => ?_)
    · refine sq_v rfl (v_move rfl) rfl ?_
      refine sq_s rfl rfl ?_
      refine sq_s rfl rfl ?_
      refine sq_s rfl rfl ?_
      refine sq_s rfl rfl ?_
      refine sq_s rfl rfl ?_
      refine sq_v rfl (v_pickt rfl rfl) rfl ?_
      refine sq_end ?_
      refine qs_n ?_
      refine wp_ct rfl ?_
      refine wp_sc ?_
      refine wp_sq ?_
      refine sq_v rfl (v_build [num 0, num 0, num 0, .slice none 0 0, .slice none 0 0] rfl (by kernel_rfl)) rfl ?_
      refine sq_m 0 rfl rfl (m_store 0 ty_33 rfl rfl rfl rfl (by simp [one_int, one_sl]) rfl (Nat.le_of_ble_eq_true rfl)) rfl ?_; rintro _ _ ⟨rfl, rfl⟩
      refine sq_v rfl (v_assign rfl) rfl ?_
      refine sq_end ?_
      refine qs_n ?_
      refine wp_rt ?_
      refine qs_r ?_
      exact qs_retct 0 rfl ty_33 rfl rfl rfl rfl (fin_e (i := 3) rfl (ReplR.no (fun h => by first | exact netB_false.1 c12 h.1 | exact c22 (by have := h.2.1; omega) | (have := h.2.1; omega))))
    · refine sq_v rfl (v_move rfl) rfl ?_
      refine sq_v rfl (v_move rfl) rfl ?_
      refine sq_v rfl (v_fieldAddr fd_33_1 ty_31 (by decide) rfl) rfl ?_
      refine sq_v rfl (v_loadB 2 ty_31 rfl rfl rfl) rfl ?_
      refine sq_v rfl (v_len Try.underlying31 rfl r.sl) rfl ?_
      refine sq_v rfl (v_geq rfl rfl) rfl ?_
      refine sq_v rfl (v_pickf rfl rfl) rfl ?_
      refine sq_end ?_
      refine qs_n ?_
      refine wp_cd rfl (fun c24 => ?_) (fun c24 => ?_)
      · refine wp_sc ?_
        refine wp_sq ?_
        refine sq_v rfl (v_build [num 0, num 0, num 0, .slice none 0 0, .slice none 0 0] rfl (by kernel_rfl)) rfl ?_
        refine sq_m 0 rfl rfl (m_store 0 ty_33 rfl rfl rfl rfl (by simp [one_int, one_sl]) rfl (Nat.le_of_ble_eq_true rfl)) rfl ?_; rintro _ _ ⟨rfl, rfl⟩
        refine sq_v rfl (v_assign rfl) rfl ?_
        refine sq_end ?_
        refine qs_n ?_
        refine wp_rt ?_
        refine qs_r ?_
        exact qs_retct 0 rfl ty_33 rfl rfl rfl rfl (fin_e (i := 3) rfl (ReplR.no (fun h => by first | exact netB_false.1 c12 h.1 | exact c22 (by have := h.2.1; omega) | (have := h.2.1; omega))))
      · refine wp_sk ?_
        refine qs_n ?_
        refine wp_sc ?_
        refine wp_ra (σ := Nat × PH × Ten × Value × Value × Value × Bool) 14 (fun z_ => TriO z_.2.2.1 z_.2.2.2.1 z_.2.2.2.2.1 z_.2.2.2.2.2.1 z_.2.1 ∧ (z_.2.2.2.2.2.2 = true ↔ fitP k p n (ts.getD i.toNat ⟨[], [], []⟩) u) ∧ (z_.2.2.2.2.2.2 = true → z_.2.2.1 = permT k n u (ts.getD i.toNat ⟨[], [], []⟩).l)) (fun z_ => [(1, num i), (3, .pointer (some ⟨b3, 0, none⟩)), (5, .pointer (some ⟨b5, 0, none⟩)), (6, .pointer (some ⟨b6, 0, none⟩)), (7, .bool false), (9, .bool z_.2.2.2.2.2.2), (24, .bool (decide ((ts.length : Int) ≤ i)))]) (fun z_ => [box z_.1 [z_.2.2.2.1, z_.2.2.2.2.1, z_.2.2.2.2.2.1] 52, z_.2.1, box b6 [num 0, num 0, num 0, .slice none 0 0, .slice none 0 0] 33, box b5 [a, b, c] 52, box b3 [num k, num p, num n, vt, vo] 33, hp w]) mixed_ok (by kernel_rfl) ?_ ?_
        · refine rak_of ?_
          refine rak_v (i := 0) (by kernel_rfl) rfl rfl (v_fieldAddr fd_33_0 ty_30 (by decide) rfl) rfl ?_
          refine rak_v (i := 1) (by kernel_rfl) rfl rfl (v_loadNB 2 ty_30 rfl rfl rfl rfl) rfl ?_
          refine rak_v (i := 2) (by kernel_rfl) rfl rfl (v_fieldAddr fd_33_1 ty_31 (by decide) rfl) rfl ?_
          refine rak_v (i := 3) (by kernel_rfl) rfl rfl (v_loadB 2 ty_31 rfl rfl rfl) rfl ?_
          refine rak_v (i := 4) (by kernel_rfl) rfl rfl (v_move rfl) rfl ?_
          obtain ⟨t32, a32, b32, c32, ht32, hcs32, rl32, rd32, rx32⟩ := hc_r ((i : Int).toNat) (by first | omega | (rw [List.length_set]; omega))
          refine rak_v (i := 5) (by kernel_rfl) rfl rfl (v_indexAddr Try.underlying31 ty_52 rfl rfl rr_r (by decide) (by omega) (by omega)) rfl ?_
          refine rak_v (i := 6) (by kernel_rfl) rfl rfl (v_loadNE 3 ty_52 rfl rfl rr_r (by have := rr_r.1; omega) rfl hcs32) rfl ?_
          refine rak_v (i := 7) (by kernel_rfl) rfl rfl (v_loadNB 1 ty_52 rfl rfl rfl rfl) rfl ?_
          refine rak_2 (i := 8) (j := 12) (by kernel_rfl) ?_ ?_
          · refine rok_x rfl rfl (x_call rfl en_102 (fun w s => ct_i_alignTensor _ _ _ _ _ _ _ _ _ _ _ w (rl32.mono (s.get 3 rfl)) (rd32.mono (s.get 3 rfl)) (rx32.mono (s.get 3 rfl)) (r1.mono (s.get 3 rfl)) (r2.mono (s.get 3 rfl)) (r3.mono (s.get 3 rfl)))) rfl ?_; rintro _ h35 ⟨T, fa, fb, fc, bb, rfl, of, hbb, hT⟩
            refine rak_rk [(9, true), (10, true), (11, true), (12, false), (13, false), (14, false)] (by kernel_rfl) rfl ?_
            refine rk_v rfl rfl (v_move rfl) rfl ?_
            refine rk_v rfl rfl (v_extract rfl rfl) rfl ?_
            refine rk_v rfl rfl (v_extract rfl rfl) rfl ?_
            refine rk_xb rfl rfl (x_alloc ty_52 rfl) rfl ?_; rintro _ _ ⟨b8, rfl, rfl⟩
            refine rk_m 0 rfl rfl rfl rfl (m_store 0 ty_52 rfl rfl rfl rfl (by simp [of.toR.1.sl.one, of.toR.2.1.sl.one, of.toR.2.2.sl.one]) rfl (Nat.le_of_ble_eq_true rfl)) rfl ?_; rintro _ _ ⟨rfl, rfl⟩
            refine rk_fv rfl rfl (v_assign rfl) rfl ?_
            refine rk_end ?_
            have e32 : t32 = ts.getD i.toNat ⟨[], [], []⟩ := by simp [List.getD, ht32]
            rw [e32] at hbb hT
            exact qs_mid (b8, h35, T, fa, fb, fc, bb) ⟨of, hbb, hT⟩ ⟨rfl, rfl, rfl, rfl, rfl, rfl, rfl, trivial⟩ (fun _ s => s.pick [0, 1, 2, 3, 4, 5] (by decide) rfl)
          · refine rok_xb rfl rfl (x_alloc ty_52 rfl) rfl ?_; rintro _ _ ⟨b8, rfl, rfl⟩
            refine rak_rk [(8, false), (9, true), (10, true), (11, true), (13, false), (14, false)] (by kernel_rfl) rfl ?_
            refine rk_x rfl rfl (x_call rfl en_102 (fun w s => ct_i_alignTensor _ _ _ _ _ _ _ _ _ _ _ w (rl32.mono (s.get 4 rfl)) (rd32.mono (s.get 4 rfl)) (rx32.mono (s.get 4 rfl)) (r1.mono (s.get 4 rfl)) (r2.mono (s.get 4 rfl)) (r3.mono (s.get 4 rfl)))) rfl ?_; rintro _ h35 ⟨T, fa, fb, fc, bb, rfl, of, hbb, hT⟩
            refine rk_v rfl rfl (v_move rfl) rfl ?_
            refine rk_v rfl rfl (v_extract rfl rfl) rfl ?_
            refine rk_v rfl rfl (v_extract rfl rfl) rfl ?_
            refine rk_m 1 rfl rfl rfl rfl (m_store 1 ty_52 rfl rfl rfl rfl (by simp [of.toR.1.sl.one, of.toR.2.1.sl.one, of.toR.2.2.sl.one]) rfl (Nat.le_of_ble_eq_true rfl)) rfl ?_; rintro _ _ ⟨rfl, rfl⟩
            refine rk_fv rfl rfl (v_assign rfl) rfl ?_
            refine rk_end ?_
            have e32 : t32 = ts.getD i.toNat ⟨[], [], []⟩ := by simp [List.getD, ht32]
            rw [e32] at hbb hT
            exact qs_mid (b8, h35, T, fa, fb, fc, bb) ⟨of, hbb, hT⟩ ⟨rfl, rfl, rfl, rfl, rfl, rfl, rfl, trivial⟩ (fun _ s => s.pick [1, 0, 2, 3, 4, 5] (by decide) rfl)
        · rintro ⟨b8, h35, T, fa, fb, fc, bb⟩ ⟨of, hbb, hT⟩
          dsimp only at of hbb hT ⊢
          refine qs_n ?_
          refine wp_sc ?_
          refine wp_sc ?_
          refine wp_sq ?_
          refine sq_v rfl (v_move rfl) rfl ?_
          refine sq_v rfl (v_not rfl) rfl ?_
          refine sq_end ?_
          refine qs_n ?_
          refine wp_cn _ rfl (fun c39 => ?_) (fun c39 => ?_)
          · refine wp_sc ?_
            refine wp_sq ?_
            refine sq_v rfl (v_build [num 0, num 0, num 0, .slice none 0 0, .slice none 0 0] rfl (by kernel_rfl)) rfl ?_
            refine sq_m 2 rfl rfl (m_store 2 ty_33 rfl rfl rfl rfl (by simp [one_int, one_sl]) rfl (Nat.le_of_ble_eq_true rfl)) rfl ?_; rintro _ _ ⟨rfl, rfl⟩
            refine sq_v rfl (v_assign rfl) rfl ?_
            refine sq_end ?_
            refine qs_n ?_
            refine wp_rt ?_
            refine qs_r ?_
            exact qs_retct 2 rfl ty_33 rfl rfl rfl rfl (fin_e (i := 5) rfl (ReplR.no (fun h => by have := hbb.2 h.2.2; rw [c39] at this; cases this)))
          · refine wp_sk ?_
            refine qs_n ?_
            refine wp_sc ?_
            refine wp_sq ?_
            refine sq_v rfl (v_loadNB 4 ty_33 rfl rfl rfl rfl) rfl ?_
            have hnet := netB_true.1 c12
            refine sq_x rfl (x_call rfl en_103 (fun w s => ct_i_copyNetwork _ _ _ _ _ _ _ w (r.mono (s.get 5 rfl)) (r'.mono (s.get 5 rfl)) (by first | assumption | omega) (by first | assumption | omega))) rfl ?_; rintro _ h42 ⟨vt42, vo42, rfl, o42⟩
            obtain ⟨cs_T_42, rr_T_42, hc_T_42⟩ := o42.toR.1.at
            refine sq_x rfl (x_alloc ty_33 rfl) rfl ?_; rintro _ _ ⟨b10, rfl, rfl⟩
            refine sq_m 0 rfl rfl (m_store 0 ty_33 rfl rfl rfl rfl (by simp [one_int, o42.toR.1.sl.one, o42.toR.2.sl.one]) rfl (Nat.le_of_ble_eq_true rfl)) rfl ?_; rintro _ _ ⟨rfl, rfl⟩
            refine sq_end ?_
            have hi : i.toNat < ts.length := by omega
            have hfit := hbb.1 c39
            have hlen := ten_len hfit.2.1
            obtain ⟨cs, g0, go, gl, rr, ro, oh, md42⟩ := o42.split
            refine qs_s [box b10 [num k, num p, num n, vt42, vo42] 33, box b6 [num 0, num 0, num 0, .slice none 0 0, .slice none 0 0] 33, box b5 [a, b, c] 52, hp w, g0, go, gl] (fun _ s => Sat.open (A := [box b10 [num k, num p, num n, vt42, vo42] 33, box b6 [num 0, num 0, num 0, .slice none 0 0, .slice none 0 0] 33, box b5 [a, b, c] 52, hp w]) md42 (s.pick [1, 0, 4, 5, 7] (by decide) rfl)) ?_
            refine qs_n ?_
            refine wp_sc ?_
            refine wp_rj 6 [(0, true), (1, true), (2, true), (3, true), (4, false), (5, true), (6, false)] mixed_ok (by kernel_rfl) ?_
            refine rj_v rfl rfl (v_fieldAddr fd_33_1 ty_31 (by decide) rfl) rfl ?_
            refine rj_v rfl rfl (v_loadB 0 ty_31 rfl rfl rfl) rfl ?_
            refine rj_v rfl rfl (v_move rfl) rfl ?_
            refine rj_v rfl rfl (v_loadNB 2 ty_52 rfl rfl rfl rfl) rfl ?_
            refine rj_x rfl rfl (x_call rfl en_104 (fun w s => ct_i_copyTensor _ _ _ _ w (r1.mono (s.get 3 rfl)) (r2.mono (s.get 3 rfl)) (r3.mono (s.get 3 rfl)) (by first | assumption | omega))) rfl ?_; rintro _ h47 ⟨va47, vb47, vc47, rfl, o47⟩
            refine rj_v rfl rfl (v_indexAddr Try.underlying31 ty_52 rfl rfl rr.toR (by decide) (by omega) (by omega)) rfl ?_
            refine rj_m 5 rfl rfl rfl rfl (m_storeE 5 ty_52 rfl rfl (us := [va47, vb47, vc47]) rfl rfl (by simp [o47.toR.1.sl.one, o47.toR.2.1.sl.one, o47.toR.2.2.sl.one]) rfl rr (by decide) (by have := rr.1; omega)) rfl ?_; rintro _ h7 ⟨rfl, r7⟩
            refine rj_end ?_
            refine qs_n ?_
            refine wp_sc ?_
            refine wp_sq ?_
            refine sq_v rfl (v_loadNB 1 ty_33 rfl rfl rfl rfl) rfl ?_
            refine sq_m 2 rfl rfl (m_store 2 ty_33 rfl rfl rfl rfl (by simp [one_int, o42.toR.1.sl.one, o42.toR.2.sl.one]) rfl (Nat.le_of_ble_eq_true rfl)) rfl ?_; rintro _ _ ⟨rfl, rfl⟩
            refine sq_v rfl (v_assign rfl) rfl ?_
            refine sq_end ?_
            refine qs_n ?_
            refine wp_rt ?_
            refine qs_dj 7 0 rfl rfl rfl (fun hdj => ?_)
            obtain ⟨g, hg, oh2⟩ := oh.set hi o47 hdj
            refine qs_s [g, box b6 [num k, num p, num n, vt42, vo42] 33, hp w, h7, go] (fun _ s => (Sat.merge (s.pick [7, 0, 2, 4, 5, 6] (by decide) rfl)).less (i := 0) rfl hg) ?_
            refine qs_close [box b6 [num k, num p, num n, vt42, vo42] 33, hp w] [h7, go, g] (fun _ s => s.pick [1, 2, 3, 4, 0] (by decide) rfl) (fun md => ?_)
            exact qs_retct 1 rfl ty_33 rfl rfl rfl rfl (fin_t 0 (i := 2) rfl rfl rfl (ReplR.yes ⟨hnet, ⟨by omega, by omega⟩, hfit⟩ (NetO.join (by rw [List.length_set]; exact r7) ro oh2 md)))
  · refine sq_v rfl (v_not rfl) rfl ?_
    refine sq_v rfl (v_move rfl) rfl ?_
    refine sq_s rfl rfl ?_
    refine sq_s rfl rfl ?_
    refine sq_v rfl (v_pickt rfl rfl) rfl ?_
    refine sq_v rfl (v_move rfl) rfl ?_
    refine sq_s rfl rfl ?_
    refine sq_s rfl rfl ?_
    refine sq_s rfl rfl ?_
    refine sq_s rfl rfl ?_
    refine sq_s rfl rfl ?_
    refine sq_v rfl (v_pickt rfl rfl) rfl ?_
    refine sq_end ?_
    refine qs_n ?_
    refine wp_ct rfl ?_
    refine wp_sc ?_
    refine wp_sq ?_
    refine sq_v rfl (v_build [num 0, num 0, num 0, .slice none 0 0, .slice none 0 0] rfl (by kernel_rfl)) rfl ?_
    refine sq_m 0 rfl rfl (m_store 0 ty_33 rfl rfl rfl rfl (by simp [one_int, one_sl]) rfl (Nat.le_of_ble_eq_true rfl)) rfl ?_; rintro _ _ ⟨rfl, rfl⟩
    refine sq_v rfl (v_assign rfl) rfl ?_
    refine sq_end ?_
    refine qs_n ?_
    refine wp_rt ?_
    refine qs_r ?_
    exact qs_retct 0 rfl ty_33 rfl rfl rfl rfl (fin_e (i := 3) rfl (ReplR.no (fun h => by first | exact netB_false.1 c12 h.1 | exact c22 (by have := h.2.1; omega) | (have := h.2.1; omega))))
end Go.Proofs.Ytalfigjnaidmnaa
