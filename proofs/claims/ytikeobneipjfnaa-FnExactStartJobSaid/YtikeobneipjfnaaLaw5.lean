/-
  The law's helpers for steps.
  Conditions: none.
-/
import Derived.Test.YtikeobneipjfnaaLaw4
import Derived.Test.YtikeobneipjfnaaOrd6
namespace Go.Proofs.Ytikeobneipjfnaa
set_option maxRecDepth 100000
open Go.RowKit
theorem StepsR.atS {ss : List Stp} {v : Value} {h : PH} (_ : StepsR ss v h) : ∀ i, i < ss.length → ∃ x, ss[i]? = some x ∧ ((stepCells ss).drop (i * 2)).take 2 = [num x.a, num x.b] :=
  fun _ hi => ⟨_, List.getElem?_eq_getElem hi, stepCells_at (List.getElem?_eq_getElem hi)⟩
theorem stepCells_mid {A B : List Stp} {x : Stp} {i : Nat} (h : A.length = i) : stepCells (A ++ x :: B) = stepCells A ++ [num x.a] ++ ([num x.b] ++ stepCells B) ∧ (stepCells A).length = i * 2 := by
  refine ⟨?_, by rw [stepCells_len, h]⟩
  rw [stepCells_append]
  simp [stepCells]
theorem stp_split {ss : List Stp} {i : Nat} (h : i < ss.length) : ss = ss.take i ++ ss.getD i ⟨0, 0⟩ :: ss.drop (i + 1) ∧ (ss.take i).length = i := by
  refine ⟨?_, by simp; omega⟩
  conv => lhs; rw [← List.take_append_drop i ss, List.drop_eq_getElem_cons h]
  simp [List.getD, h]
theorem stp_set {ss : List Stp} {i : Nat} (h : i < ss.length) (y : Stp) : ss.set i y = ss.take i ++ y :: ss.drop (i + 1) := by
  rw [List.set_eq_take_append_cons_drop, if_pos h]
theorem cells_setA {ss : List Stp} {i : Nat} (h : i < ss.length) (a : Int) : (stepCells ss).take (i * 2) ++ [num a] ++ (stepCells ss).drop (i * 2 + 1) = stepCells (ss.set i ⟨a, (ss.getD i ⟨0, 0⟩).b⟩) := by
  obtain ⟨e, hl⟩ := stp_split h
  rw [stp_set h]
  obtain ⟨e1, h1⟩ := stepCells_mid (B := ss.drop (i + 1)) (x := ss.getD i ⟨0, 0⟩) hl
  obtain ⟨e2, h2⟩ := stepCells_mid (B := ss.drop (i + 1)) (x := (⟨a, (ss.getD i ⟨0, 0⟩).b⟩ : Stp)) hl
  rw [e2]
  conv => lhs; rw [e]
  rw [e1, ← h1, List.append_assoc (stepCells (ss.take i)), List.take_left, ← List.append_assoc (stepCells (ss.take i)) [num _], List.drop_append]
  simp [List.drop_of_length_le]
theorem cells_setB {ss : List Stp} {i : Nat} (h : i < ss.length) (b : Int) : (stepCells ss).take (i * 2 + 1) ++ [num b] ++ (stepCells ss).drop (i * 2 + 2) = stepCells (ss.set i ⟨(ss.getD i ⟨0, 0⟩).a, b⟩) := by
  obtain ⟨e, hl⟩ := stp_split h
  rw [stp_set h]
  obtain ⟨e1, h1⟩ := stepCells_mid (B := ss.drop (i + 1)) (x := ss.getD i ⟨0, 0⟩) hl
  obtain ⟨e2, h2⟩ := stepCells_mid (B := ss.drop (i + 1)) (x := (⟨(ss.getD i ⟨0, 0⟩).a, b⟩ : Stp)) hl
  rw [e2]
  conv => lhs; rw [e]
  have hA : (stepCells (ss.take i) ++ [num (ss.getD i ⟨0, 0⟩).a]).length = i * 2 + 1 := by simp [h1]
  rw [e1, ← hA, List.take_left]
  have : (stepCells (ss.take i) ++ [num (ss.getD i ⟨0, 0⟩).a] ++ ([num (ss.getD i ⟨0, 0⟩).b] ++ stepCells (ss.drop (i + 1)))).drop (i * 2 + 2) = stepCells (ss.drop (i + 1)) := by
    rw [← List.append_assoc, ← show ((stepCells (ss.take i) ++ [num (ss.getD i ⟨0, 0⟩).a]) ++ [num (ss.getD i ⟨0, 0⟩).b]).length = i * 2 + 2 by simp [h1], List.drop_left]
  rw [this]
  simp
theorem cells_setS {ss : List Stp} {i : Nat} (h : i < ss.length) (a b : Int) : (stepCells ss).take (i * 2) ++ [num a, num b] ++ (stepCells ss).drop (i * 2 + 2) = stepCells (ss.set i ⟨a, b⟩) := by
  obtain ⟨e, hl⟩ := stp_split h
  rw [stp_set h]
  obtain ⟨e1, h1⟩ := stepCells_mid (B := ss.drop (i + 1)) (x := ss.getD i ⟨0, 0⟩) hl
  obtain ⟨e2, _⟩ := stepCells_mid (B := ss.drop (i + 1)) (x := (⟨a, b⟩ : Stp)) hl
  rw [e2]
  conv => lhs; rw [e]
  have : (stepCells (ss.take i) ++ [num (ss.getD i ⟨0, 0⟩).a] ++ ([num (ss.getD i ⟨0, 0⟩).b] ++ stepCells (ss.drop (i + 1)))).drop (i * 2 + 2) = stepCells (ss.drop (i + 1)) := by
    rw [← List.append_assoc, ← show ((stepCells (ss.take i) ++ [num (ss.getD i ⟨0, 0⟩).a]) ++ [num (ss.getD i ⟨0, 0⟩).b]).length = i * 2 + 2 by simp [h1], List.drop_left]
  rw [e1, this, ← h1, List.append_assoc (stepCells (ss.take i)), List.take_left]
  simp
section
variable {P : Program} {n : Nat} {w0 : World} {K : Env} {HS : List PH} {d : Option Tmp} {ty : TypeId} {ps : String} {af : Array Edge} {g : Option (Nat × Bool)}
theorem m_storeS {t : TypeId} {x y : Operand} {z : Value} {bytes i : Nat} {sv : Value} {a b : Int} {ss : List Stp} {h : PH} (p : Nat) (ht : TyF P t z 2 bytes true) (hx : ev K x = some (eltP sv (i * 2))) (hy : ev K y = some (stepV a b))
    (hp' : HS[p]? = some h) (r : StepsO ss sv h) (hi : i < ss.length) :
    StepX P n w0 K HS ⟨d, .store t x y, ty, ps, af, g⟩ h (fun v' h' => v' = undef ∧ StepsO (ss.set i ⟨a, b⟩) sv h') := by
  have := m_storeE (P := P) (n := n) (w0 := w0) (d := d) (ty := ty) (ps := ps) (af := af) (g := g) p ht hx hy (us := [num a, num b]) rfl rfl (by simp [Value.oneCell']) hp' r (by decide) (by rw [stepCells_len]; omega)
  rw [cells_setS hi] at this
  unfold StepsO
  rw [List.length_set]
  exact this
theorem m_storeSa {t : TypeId} {x y : Operand} {z : Value} {bytes i : Nat} {sv : Value} {a : Int} {ss : List Stp} {h : PH} (p : Nat) (ht : TyF P t z 1 bytes false) (hx : ev K x = some (eltP sv (i * 2 + 0))) (hy : ev K y = some (num a))
    (hp' : HS[p]? = some h) (r : StepsO ss sv h) (hi : i < ss.length) :
    StepX P n w0 K HS ⟨d, .store t x y, ty, ps, af, g⟩ h (fun v' h' => v' = undef ∧ StepsO (ss.set i ⟨a, (ss.getD i ⟨0, 0⟩).b⟩) sv h') := by
  have := m_storeE (P := P) (n := n) (w0 := w0) (d := d) (ty := ty) (ps := ps) (af := af) (g := g) p ht hx hy (us := [num a]) rfl rfl (by simp [Value.oneCell']) hp' r (by decide) (by rw [stepCells_len]; omega)
  rw [Nat.add_zero, cells_setA hi] at this
  unfold StepsO
  rw [List.length_set]
  exact this
theorem m_storeSb {t : TypeId} {x y : Operand} {z : Value} {bytes i : Nat} {sv : Value} {b : Int} {ss : List Stp} {h : PH} (p : Nat) (ht : TyF P t z 1 bytes false) (hx : ev K x = some (eltP sv (i * 2 + 1))) (hy : ev K y = some (num b))
    (hp' : HS[p]? = some h) (r : StepsO ss sv h) (hi : i < ss.length) :
    StepX P n w0 K HS ⟨d, .store t x y, ty, ps, af, g⟩ h (fun v' h' => v' = undef ∧ StepsO (ss.set i ⟨(ss.getD i ⟨0, 0⟩).a, b⟩) sv h') := by
  have := m_storeE (P := P) (n := n) (w0 := w0) (d := d) (ty := ty) (ps := ps) (af := af) (g := g) p ht hx hy (us := [num b]) rfl rfl (by simp [Value.oneCell']) hp' r (by decide) (by rw [stepCells_len]; omega)
  rw [show i * 2 + 1 + 1 = i * 2 + 2 by omega, cells_setB hi] at this
  unfold StepsO
  rw [List.length_set]
  exact this
end
theorem ct_l_szStepS (ss : List Stp) (v : Value) (left : Int) (w : World) (r : StepsR ss v (hp w)) (hl : 0 ≤ left ∧ left ≤ 1048576) :
    Calls Try.prog 44 [v, num left].toArray w (RetV w (num (szV left ss.length))) := by
  refine calls_in Try.func44 rfl Try.ntmps44 rfl (Sat.start w) ?_
  have hle0 := r.le
  obtain ⟨cs_r, rr_r, hc_r⟩ := r.at
  refine wp_sc ?_
  refine wp_sq ?_
  refine sq_v rfl (v_assign rfl) rfl ?_
  refine sq_end ?_
  refine qs_n ?_
  refine wp_sc ?_
  refine wp_sq ?_
  refine sq_v rfl (v_move rfl) rfl ?_
  refine sq_v rfl (v_move rfl) rfl ?_
  refine sq_v rfl (v_len Try.underlying73 rfl r.sl) rfl ?_
  refine sq_v rfl (v_sub rfl rfl ((by unfold I64; omega))) rfl ?_
  refine sq_v rfl (v_assign rfl) rfl ?_
  refine sq_end ?_
  refine qs_n ?_
  refine wp_sc ?_
  refine wp_sc ?_
  refine wp_sq ?_
  refine sq_v rfl (v_move rfl) rfl ?_
  refine sq_v rfl (v_lss rfl rfl) rfl ?_
  refine sq_end ?_
  refine qs_n ?_
  refine wp_cd rfl (fun c10 => ?_) (fun c10 => ?_)
  · refine wp_sc ?_
    refine wp_sq ?_
    refine sq_v rfl (v_assign rfl) rfl ?_
    refine sq_end ?_
    refine qs_n ?_
    refine wp_rt ?_
    refine qs_r ?_
    exact qs_ret1 rfl rfl (fin_q (i := 0) rfl (by rw [szV, if_pos c10]))
  · refine wp_sk ?_
    refine qs_n ?_
    refine wp_sc ?_
    refine wp_sq ?_
    refine sq_v rfl (v_move rfl) rfl ?_
    refine sq_v rfl (v_assign rfl) rfl ?_
    refine sq_end ?_
    refine qs_n ?_
    refine wp_rt ?_
    exact qs_ret1 rfl rfl (fin_q (i := 0) rfl (by rw [szV, if_neg c10]))
theorem ct_l_toStep (a b : Int) (w : World) : Calls Try.prog 108 [stepV a b].toArray w (RetV w (stepV a b)) := by
  refine calls_in Try.func108 rfl Try.ntmps108 rfl (Sat.start w) ?_
  refine wp_sc ?_
  refine wp_sq ?_
  refine sq_x rfl (x_box rfl rfl) rfl ?_; rintro _ _ ⟨b1, rfl, rfl⟩
  refine sq_x rfl (x_alloc ty_114 rfl) rfl ?_; rintro _ _ ⟨b2, rfl, rfl⟩
  refine sq_end ?_
  refine qs_n ?_
  refine wp_sc ?_
  refine wp_sq ?_
  refine sq_x rfl (x_alloc ty_114 rfl) rfl ?_; rintro _ _ ⟨b3, rfl, rfl⟩
  refine sq_end ?_
  refine qs_n ?_
  refine wp_sc ?_
  refine wp_sq ?_
  refine sq_v rfl (v_fieldAddr fd_143_0 ty_3 (by decide) rfl) rfl ?_
  refine sq_v rfl (v_loadB 2 ty_3 rfl rfl rfl) rfl ?_
  refine sq_v rfl (v_fieldAddr fd_114_0 ty_3 (by decide) rfl) rfl ?_
  refine sq_m 0 rfl rfl (m_store1 0 ty_3 rfl rfl rfl rfl (Nat.le_of_ble_eq_true rfl)) rfl ?_; rintro _ _ ⟨rfl, rfl⟩
  refine sq_end ?_
  refine qs_n ?_
  refine wp_sc ?_
  refine wp_sq ?_
  refine sq_v rfl (v_fieldAddr fd_143_1 ty_3 (by decide) rfl) rfl ?_
  refine sq_v rfl (v_loadB 2 ty_3 rfl rfl rfl) rfl ?_
  refine sq_v rfl (v_fieldAddr fd_114_1 ty_3 (by decide) rfl) rfl ?_
  refine sq_m 0 rfl rfl (m_store1 0 ty_3 rfl rfl rfl rfl (Nat.le_of_ble_eq_true rfl)) rfl ?_; rintro _ _ ⟨rfl, rfl⟩
  refine sq_end ?_
  refine qs_n ?_
  refine wp_sc ?_
  refine wp_sq ?_
  refine sq_v rfl (v_loadNB 0 ty_114 rfl rfl rfl rfl) rfl ?_
  refine sq_m 1 rfl rfl (m_store 1 ty_114 rfl rfl rfl rfl (by simp [Value.oneCell']) rfl (Nat.le_of_ble_eq_true rfl)) rfl ?_; rintro _ _ ⟨rfl, rfl⟩
  refine sq_end ?_
  refine qs_n ?_
  refine wp_rt ?_
  exact qs_retc 1 rfl ty_114 rfl rfl rfl (fin_v (i := 3) rfl)
theorem steps_zero (m : Nat) : (List.replicate m [num 0, num 0]).flatten = stepCells (List.replicate m ⟨0, 0⟩) := by
  induction m with
  | zero => rfl
  | succ m ih => rw [List.replicate_succ, List.replicate_succ, List.flatten_cons, ih]; rfl
theorem set_prefixG {α : Type} {xs : List α} {i : Nat} {x z : α} (h : xs[i]? = some x) : (xs.take i ++ List.replicate (xs.length - i) z).set i x = xs.take (i + 1) ++ List.replicate (xs.length - (i + 1)) z := by
  obtain ⟨hi, e⟩ := List.getElem?_eq_some_iff.1 h
  have hl : (xs.take i).length = i := by simp; omega
  obtain ⟨m, hm⟩ : ∃ m, xs.length - i = m + 1 := ⟨xs.length - i - 1, by omega⟩
  rw [List.set_append_right _ _ (by omega), hl, Nat.sub_self, hm, List.replicate_succ, List.set_cons_zero, List.take_succ_eq_append_getElem hi, e, show xs.length - (i + 1) = m by omega, List.append_assoc]
  rfl
theorem ct_l_toStepS (ss : List Stp) (v : Value) (w : World) (r : StepsR ss v (hp w)) (hs : ss.length ≤ 1048576) :
    Calls Try.prog 46 [v].toArray w (Ret w emp (StepsO ss)) := by
  refine calls_in Try.func46 rfl Try.ntmps46 rfl (Sat.start w) ?_
  have hle0 := r.le
  obtain ⟨cs_r, rr_r, hc_r⟩ := r.at
  refine wp_sc ?_
  refine wp_sq ?_
  refine sq_v rfl (v_assign rfl) rfl ?_
  refine sq_end ?_
  refine qs_n ?_
  refine wp_sc ?_
  refine wp_sq ?_
  refine sq_v rfl (v_move rfl) rfl ?_
  refine sq_v rfl (v_len Try.underlying73 rfl r.sl) rfl ?_
  refine sq_x rfl (x_make Try.underlying43 ty_114 rfl rfl rfl rfl (by omega) (by omega) (by omega)) rfl ?_; intro v7 h7 r7
  refine sq_v rfl (v_assign rfl) rfl ?_
  refine sq_end ?_
  have r7' : StepsO (List.replicate ss.length ⟨0, 0⟩) v7 h7 := by unfold StepsO; rw [List.length_replicate, ← steps_zero]; simpa using r7
  refine qs_n ?_
  refine wp_sc ?_
  refine wp_sc ?_
  refine wp_sq ?_
  refine sq_v rfl (v_assign rfl) rfl ?_
  refine sq_end ?_
  refine qs_n ?_
  refine wp_bl ?_
  refine wp_lp (σ := Nat × PH) (fun z_ => [(0, v), (2, .slice none 0 0), (3, v7), (4, num z_.1)]) (fun z_ => [z_.2, hp w]) (fun z_ => z_.1 ≤ ss.length ∧ StepsO (ss.take z_.1 ++ List.replicate (ss.length - z_.1) ⟨0, 0⟩) v7 z_.2) (fun z_ => ss.length - z_.1) (0, h7) (⟨by (try dsimp only); omega, by (try dsimp only); simpa using r7'⟩) ⟨rfl, rfl, rfl, (by first | rfl | exact ksub rfl (by first | omega | (simp; done) | (simp; omega))), trivial⟩ (fun _ s => s) ?_
  rintro ⟨i, g⟩ ⟨hi, q⟩
  dsimp only at hi q ⊢
  obtain ⟨cs_q, rr_q, hc_q⟩ := q.toR.at
  have hle_q := q.toR.le
  have hl : (ss.take i ++ List.replicate (ss.length - i) (⟨0, 0⟩ : Stp)).length = ss.length := by simp; omega
  refine wp_sc ?_
  refine wp_sc ?_
  refine wp_sq ?_
  refine sq_v rfl (v_move rfl) rfl ?_
  refine sq_v rfl (v_move rfl) rfl ?_
  refine sq_v rfl (v_len Try.underlying73 rfl r.sl) rfl ?_
  refine sq_v rfl (v_lss rfl rfl) rfl ?_
  refine sq_end ?_
  refine qs_n ?_
  refine wp_cd rfl (fun c11 => ?_) (fun c11 => ?_)
  · refine wp_sk ?_
    refine qs_n ?_
    refine wp_sc ?_
    refine wp_bl ?_
    refine wp_sq ?_
    refine sq_v rfl (v_move rfl) rfl ?_
    refine sq_v rfl (v_move rfl) rfl ?_
    refine sq_v rfl (v_move rfl) rfl ?_
    refine sq_v rfl (v_move rfl) rfl ?_
    obtain ⟨x18, hx18, hcs18⟩ := hc_r (i) (by first | omega | (rw [List.length_set]; omega))
    refine sq_v rfl (v_indexAddr Try.underlying73 ty_143 rfl rfl rr_r (by decide) (by omega) (by first | omega | (rw [List.length_set]; omega))) rfl ?_
    refine sq_v rfl (v_loadNE 1 ty_143 rfl rfl rr_r (by have := rr_r.1; omega) rfl hcs18) rfl ?_
    refine sq_u rfl (x_callv rfl en_108 (fun w s => ct_l_toStep _ _ w)) rfl ?_
    obtain ⟨x21, hx21, hcs21⟩ := hc_q (i) (by first | omega | (rw [List.length_set]; omega))
    refine sq_v rfl (v_indexAddr Try.underlying43 ty_114 rfl rfl rr_q (by decide) (by omega) (by first | omega | (rw [List.length_set]; omega))) rfl ?_
    refine sq_m 0 rfl rfl (m_storeS 0 ty_114 rfl rfl rfl q (by first | omega | (simp only [List.length_cons, List.length_nil]; omega) | (simp only [List.length_append, List.length_cons, List.length_nil]; omega) | (rw [List.length_set]; omega) | (rw [List.length_replicate]; omega) | (simp; omega))) rfl ?_; rintro _ h_q5_8 ⟨rfl, q5_8⟩; have hc_q5_8 := q5_8.toR.atS
    refine sq_end ?_
    refine qs_bn ?_
    refine qs_n ?_
    refine wp_sq ?_
    refine sq_v rfl (v_move rfl) rfl ?_
    refine sq_v rfl (v_add rfl rfl ((by unfold I64; omega))) rfl ?_
    refine sq_v rfl (v_assign rfl) rfl ?_
    refine sq_end ?_
    exact qs_bk (i + 1, h_q5_8) ⟨by (try dsimp only); omega, by (try dsimp only); rw [← set_prefixG hx18]; exact q5_8⟩ (by simp only; omega) ⟨rfl, rfl, rfl, (by first | rfl | exact ksub rfl (by first | omega | (simp; done) | (simp; omega))), trivial⟩ (fun _ s => s)
  · refine wp_ex ?_
    refine qs_x ?_
    refine qs_x ?_
    refine qs_bx ?_
    refine qs_n ?_
    refine wp_sc ?_
    refine wp_sq ?_
    refine sq_v rfl (v_move rfl) rfl ?_
    refine sq_v rfl (v_assign rfl) rfl ?_
    refine sq_end ?_
    refine qs_n ?_
    refine wp_rt ?_
    exact qs_ret1 rfl rfl (fin_t 0 (i := 1) rfl rfl rfl (by rw [List.take_of_length_le (by omega), show ss.length - i = 0 by omega, List.replicate_zero, List.append_nil] at q; exact q))
theorem ct_l_eqStep (a b : Int) (w : World) : Calls Try.prog 82 [stepV a b, stepV a b].toArray w (RetV w (.bool true)) := by
  refine calls_in Try.func82 rfl Try.ntmps82 rfl (Sat.start w) ?_
  refine wp_sc ?_
  refine wp_sq ?_
  refine sq_x rfl (x_box rfl rfl) rfl ?_; rintro _ _ ⟨b2, rfl, rfl⟩
  refine sq_x rfl (x_box rfl rfl) rfl ?_; rintro _ _ ⟨b3, rfl, rfl⟩
  refine sq_v rfl (v_assign rfl) rfl ?_
  refine sq_end ?_
  refine qs_n ?_
  refine wp_sc ?_
  refine wp_sc ?_
  refine wp_sq ?_
  refine sq_v rfl (v_fieldAddr fd_114_0 ty_3 (by decide) rfl) rfl ?_
  refine sq_v rfl (v_loadB 1 ty_3 rfl rfl rfl) rfl ?_
  refine sq_v rfl (v_fieldAddr fd_114_0 ty_3 (by decide) rfl) rfl ?_
  refine sq_v rfl (v_loadB 0 ty_3 rfl rfl rfl) rfl ?_
  refine sq_v rfl (v_neqs rfl rfl) rfl ?_
  refine sq_end ?_
  refine qs_n ?_
  refine wp_cf rfl ?_
  refine wp_sk ?_
  refine qs_n ?_
  refine wp_sc ?_
  refine wp_sc ?_
  refine wp_sq ?_
  refine sq_v rfl (v_fieldAddr fd_114_1 ty_3 (by decide) rfl) rfl ?_
  refine sq_v rfl (v_loadB 1 ty_3 rfl rfl rfl) rfl ?_
  refine sq_v rfl (v_fieldAddr fd_114_1 ty_3 (by decide) rfl) rfl ?_
  refine sq_v rfl (v_loadB 0 ty_3 rfl rfl rfl) rfl ?_
  refine sq_v rfl (v_neqs rfl rfl) rfl ?_
  refine sq_end ?_
  refine qs_n ?_
  refine wp_cf rfl ?_
  refine wp_sk ?_
  refine qs_n ?_
  refine wp_sc ?_
  refine wp_sq ?_
  refine sq_v rfl (v_assign rfl) rfl ?_
  refine sq_end ?_
  refine qs_n ?_
  refine wp_rt ?_
  exact qs_ret1 rfl rfl (fin_v (i := 2) rfl)
theorem ct_l_eqStepS (ss : List Stp) (v u : Value) (w : World) (r : StepsR ss v (hp w)) (r' : StepsR ss u (hp w)) : Calls Try.prog 30 [v, u].toArray w (RetV w (.bool true)) := by
  refine calls_in Try.func30 rfl Try.ntmps30 rfl (Sat.start w) ?_
  have hle0 := r.le
  obtain ⟨cs_r, rr_r, hc_r⟩ := r.at
  have hle1 := r'.le
  obtain ⟨cs_r_, rr_r_, hc_r_⟩ := r'.at
  refine wp_sc ?_
  refine wp_sq ?_
  refine sq_v rfl (v_assign rfl) rfl ?_
  refine sq_end ?_
  refine qs_n ?_
  refine wp_sc ?_
  refine wp_sc ?_
  refine wp_sq ?_
  refine sq_v rfl (v_move rfl) rfl ?_
  refine sq_v rfl (v_len Try.underlying43 rfl r.sl) rfl ?_
  refine sq_v rfl (v_move rfl) rfl ?_
  refine sq_v rfl (v_len Try.underlying43 rfl r'.sl) rfl ?_
  refine sq_v rfl (v_neqs rfl rfl) rfl ?_
  refine sq_end ?_
  refine qs_n ?_
  refine wp_cf rfl ?_
  refine wp_sk ?_
  refine qs_n ?_
  refine wp_sc ?_
  refine wp_sc ?_
  refine wp_sq ?_
  refine sq_v rfl (v_assign rfl) rfl ?_
  refine sq_end ?_
  refine qs_n ?_
  refine wp_bl ?_
  refine wp_lp (σ := Nat) (fun z_ => [(0, v), (1, u), (4, .bool false), (5, num z_)]) (fun z_ => [hp w]) (fun z_ => z_ ≤ ss.length) (fun z_ => ss.length - z_) 0 (by omega) ⟨rfl, rfl, rfl, (by first | rfl | exact ksub rfl (by first | omega | (simp; done) | (simp; omega))), trivial⟩ (fun _ s => s) ?_
  rintro i hi
  refine wp_sc ?_
  refine wp_sc ?_
  refine wp_sq ?_
  refine sq_v rfl (v_move rfl) rfl ?_
  refine sq_v rfl (v_move rfl) rfl ?_
  refine sq_v rfl (v_len Try.underlying43 rfl r.sl) rfl ?_
  refine sq_v rfl (v_lss rfl rfl) rfl ?_
  refine sq_end ?_
  refine qs_n ?_
  refine wp_cd rfl (fun c14 => ?_) (fun c14 => ?_)
  · refine wp_sk ?_
    refine qs_n ?_
    refine wp_sc ?_
    refine wp_bl ?_
    refine wp_sc ?_
    refine wp_rj 10 [(0, true), (1, true), (2, true), (3, true), (4, true), (5, true), (6, true), (7, true), (8, false), (9, true)] mixed_ok (by kernel_rfl) ?_
    refine rj_v rfl rfl (v_move rfl) rfl ?_
    refine rj_v rfl rfl (v_move rfl) rfl ?_
    obtain ⟨x19, hx19, hcs19⟩ := hc_r (i) (by first | omega | (rw [List.length_set]; omega))
    refine rj_v rfl rfl (v_indexAddr Try.underlying43 ty_114 rfl rfl rr_r (by decide) (by omega) (by first | omega | (rw [List.length_set]; omega))) rfl ?_
    refine rj_v rfl rfl (v_loadNE 0 ty_114 rfl rfl rr_r (by have := rr_r.1; omega) rfl hcs19) rfl ?_
    refine rj_v rfl rfl (v_move rfl) rfl ?_
    refine rj_v rfl rfl (v_move rfl) rfl ?_
    obtain ⟨x23, hx23, hcs23⟩ := hc_r_ (i) (by first | omega | (rw [List.length_set]; omega))
    refine rj_v rfl rfl (v_indexAddr Try.underlying43 ty_114 rfl rfl rr_r_ (by decide) (by omega) (by first | omega | (rw [List.length_set]; omega))) rfl ?_
    refine rj_v rfl rfl (v_loadNE 0 ty_114 rfl rfl rr_r_ (by have := rr_r_.1; omega) rfl hcs23) rfl ?_
    obtain rfl : x19 = x23 := (by rw [hx19] at hx23; exact Option.some.inj hx23)
    refine rj_u rfl rfl (x_callv rfl en_82 (fun w s => ct_l_eqStep _ _ w)) rfl ?_
    refine rj_v rfl rfl (v_not rfl) rfl ?_
    refine rj_end ?_
    refine qs_n ?_
    refine wp_cf rfl ?_
    refine wp_sk ?_
    refine qs_bn ?_
    refine qs_n ?_
    refine wp_sq ?_
    refine sq_v rfl (v_move rfl) rfl ?_
    refine sq_v rfl (v_add rfl rfl ((by unfold I64; omega))) rfl ?_
    refine sq_v rfl (v_assign rfl) rfl ?_
    refine sq_end ?_
    exact qs_bk (i + 1) (by omega) (by omega) ⟨rfl, rfl, rfl, (by first | rfl | exact ksub rfl (by first | omega | (simp; done) | (simp; omega))), trivial⟩ (fun _ s => s)
  · refine wp_ex ?_
    refine qs_x ?_
    refine qs_x ?_
    refine qs_bx ?_
    refine qs_n ?_
    refine wp_sc ?_
    refine wp_sq ?_
    refine sq_v rfl (v_assign rfl) rfl ?_
    refine sq_end ?_
    refine qs_n ?_
    refine wp_rt ?_
    exact qs_ret1 rfl rfl (fin_v (i := 0) rfl)
def marksS (k : Int) (m : Nat) : List Stp := (List.range m).map fun (i : Nat) => ⟨k + 2 * i, k + 2 * i + 1⟩
theorem marksS_len (k : Int) (m : Nat) : (marksS k m).length = m := by simp [marksS]
theorem marksS_step (k : Int) (m : Nat) : marksS k (m + 1) = marksS k m ++ [⟨k + 2 * m, k + 2 * m + 1⟩] := by simp [marksS, List.range_succ]
theorem marks_set {k : Int} {ss : List Stp} {i : Nat} {b : Int} (h : i < ss.length) : ((marksS k i ++ ss.drop i).set i ⟨k + 2 * i, b⟩).set i ⟨(((marksS k i ++ ss.drop i).set i ⟨k + 2 * i, b⟩).getD i ⟨0, 0⟩).a, k + 2 * i + 1⟩ = marksS k (i + 1) ++ ss.drop (i + 1) := by
  have hl : i < (marksS k i ++ ss.drop i).length := by rw [List.length_append, marksS_len, List.length_drop]; omega
  have e : (((marksS k i ++ ss.drop i).set i ⟨k + 2 * i, b⟩).getD i ⟨0, 0⟩).a = k + 2 * i := by simp only [List.getD]; rw [List.getElem?_set_self hl]; rfl
  rw [e, List.set_set, List.set_append_right _ _ (by rw [marksS_len]; exact Nat.le_refl _), marksS_len, Nat.sub_self, marksS_step, List.drop_eq_getElem_cons h, List.append_assoc]
  rfl
theorem ct_l_markStepS (ss : List Stp) (v : Value) (k : Int) (w : World) (h : PH) (hle : PLe h (hp w)) (r : StepsO ss v h) (hk : 0 ≤ k ∧ k + 2 * ss.length ≤ 4611686018427387904) :
    Calls Try.prog 33 [v, num k].toArray w (Ret w h (fun u h' => u = num (k + 2 * ss.length) ∧ StepsO (marksS k ss.length) v h')) := by
  refine calls_in Try.func33 rfl Try.ntmps33 rfl (Sat.start2 hle) ?_
  have hle0 := r.toR.le
  obtain ⟨cs_r, rr_r, hc_r⟩ := r.toR.at
  refine wp_sc ?_
  refine wp_sq ?_
  refine sq_v rfl (v_assign rfl) rfl ?_
  refine sq_end ?_
  refine qs_n ?_
  refine wp_sc ?_
  refine wp_sc ?_
  refine wp_sq ?_
  refine sq_v rfl (v_assign rfl) rfl ?_
  refine sq_end ?_
  refine qs_n ?_
  refine wp_bl ?_
  refine wp_lp (σ := Nat × PH) (fun z_ => [(0, v), (1, num (k + 2 * z_.1)), (4, num 0), (5, num z_.1)]) (fun z_ => [z_.2, (restP w h)]) (fun z_ => z_.1 ≤ ss.length ∧ StepsO (marksS k z_.1 ++ ss.drop z_.1) v z_.2) (fun z_ => ss.length - z_.1) (0, h) (⟨by (try dsimp only); omega, by (try dsimp only); simpa [marksS] using r⟩) ⟨rfl, (by first | rfl | exact ksub rfl (by first | omega | (simp; done) | (simp; omega))), rfl, (by first | rfl | exact ksub rfl (by first | omega | (simp; done) | (simp; omega))), trivial⟩ (fun _ s => s) ?_
  rintro ⟨i, g⟩ ⟨hi, q⟩
  dsimp only at hi q ⊢
  obtain ⟨cs_q, rr_q, hc_q⟩ := q.toR.at
  have hle_q := q.toR.le
  have hl : (marksS k i ++ ss.drop i).length = ss.length := by rw [List.length_append, marksS_len, List.length_drop]; omega
  refine wp_sc ?_
  refine wp_sc ?_
  refine wp_sq ?_
  refine sq_v rfl (v_move rfl) rfl ?_
  refine sq_v rfl (v_move rfl) rfl ?_
  refine sq_v rfl (v_len Try.underlying43 rfl q.toR.sl) rfl ?_
  refine sq_v rfl (v_lss rfl rfl) rfl ?_
  refine sq_end ?_
  refine qs_n ?_
  refine wp_cd rfl (fun c9 => ?_) (fun c9 => ?_)
  · refine wp_sk ?_
    refine qs_n ?_
    refine wp_sc ?_
    refine wp_bl ?_
    refine wp_sc ?_
    refine wp_sq ?_
    refine sq_v rfl (v_move rfl) rfl ?_
    refine sq_v rfl (v_move rfl) rfl ?_
    refine sq_v rfl (v_move rfl) rfl ?_
    obtain ⟨x15, hx15, hcs15⟩ := hc_q (i) (by first | omega | (rw [List.length_set]; omega))
    refine sq_v rfl (v_indexAddr Try.underlying43 ty_114 rfl rfl rr_q (by decide) (by omega) (by first | omega | (rw [List.length_set]; omega))) rfl ?_
    refine sq_v rfl (v_fieldAddrE fd_114_0 ty_3 (by decide) rfl rr_q (by have := rr_q.1; first | omega | (simp only [Int.toNat_natCast]; omega) | (rw [stepCells_len, List.length_set]; omega))) rfl ?_
    refine sq_m 0 rfl rfl (m_storeSa 0 ty_3 rfl rfl rfl q (by first | omega | (simp only [List.length_cons, List.length_nil]; omega) | (simp only [List.length_append, List.length_cons, List.length_nil]; omega) | (rw [List.length_set]; omega) | (rw [List.length_replicate]; omega) | (simp; omega))) rfl ?_; rintro _ h_q4_5 ⟨rfl, q4_5⟩; have hc_q4_5 := q4_5.toR.atS
    refine sq_end ?_
    refine qs_n ?_
    refine wp_sc ?_
    refine wp_sq ?_
    refine sq_v rfl (v_move rfl) rfl ?_
    refine sq_v rfl (v_add rfl rfl ((by unfold I64; omega))) rfl ?_
    refine sq_v rfl (v_assign rfl) rfl ?_
    refine sq_end ?_
    refine qs_n ?_
    refine wp_sc ?_
    refine wp_sq ?_
    refine sq_v rfl (v_move rfl) rfl ?_
    refine sq_v rfl (v_move rfl) rfl ?_
    refine sq_v rfl (v_move rfl) rfl ?_
    obtain ⟨x22, hx22, hcs22⟩ := hc_q4_5 (i) (by first | omega | (rw [List.length_set]; omega))
    refine sq_v rfl (v_indexAddr Try.underlying43 ty_114 rfl rfl q4_5.toR (by decide) (by omega) (by first | omega | (rw [List.length_set]; omega))) rfl ?_
    refine sq_v rfl (v_fieldAddrE fd_114_1 ty_3 (by decide) rfl q4_5.toR (by have := q4_5.toR.1; first | omega | (simp only [Int.toNat_natCast]; omega) | (rw [stepCells_len, List.length_set]; omega))) rfl ?_
    refine sq_m 0 rfl rfl (m_storeSb 0 ty_3 rfl rfl rfl q4_5 (by first | omega | (simp only [List.length_cons, List.length_nil]; omega) | (simp only [List.length_append, List.length_cons, List.length_nil]; omega) | (rw [List.length_set]; omega) | (rw [List.length_replicate]; omega) | (simp; omega))) rfl ?_; rintro _ h_q6_5 ⟨rfl, q6_5⟩; have hc_q6_5 := q6_5.toR.atS
    refine sq_end ?_
    refine qs_n ?_
    refine wp_sq ?_
    refine sq_v rfl (v_move rfl) rfl ?_
    refine sq_v rfl (v_add rfl rfl ((by unfold I64; omega))) rfl ?_
    refine sq_v rfl (v_assign rfl) rfl ?_
    refine sq_end ?_
    refine qs_bn ?_
    refine qs_n ?_
    refine wp_sq ?_
    refine sq_v rfl (v_move rfl) rfl ?_
    refine sq_v rfl (v_add rfl rfl ((by unfold I64; omega))) rfl ?_
    refine sq_v rfl (v_assign rfl) rfl ?_
    refine sq_end ?_
    exact qs_bk (i + 1, h_q6_5) ⟨by (try dsimp only); omega, by (try dsimp only); simp only [Int.toNat_natCast] at q6_5; rw [marks_set (by omega)] at q6_5; exact q6_5⟩ (by simp only; omega) ⟨rfl, (by first | rfl | exact ksub rfl (by first | omega | (simp; done) | (simp; omega))), rfl, (by first | rfl | exact ksub rfl (by first | omega | (simp; done) | (simp; omega))), trivial⟩ (fun _ s => s)
  · refine wp_ex ?_
    refine qs_x ?_
    refine qs_x ?_
    refine qs_bx ?_
    refine qs_n ?_
    refine wp_sc ?_
    refine wp_sq ?_
    refine sq_v rfl (v_move rfl) rfl ?_
    refine sq_v rfl (v_assign rfl) rfl ?_
    refine sq_end ?_
    refine qs_n ?_
    refine wp_rt ?_
    exact qs_ret1 rfl rfl (fin_m 0 (i := 1) rfl rfl rfl (by rw [show i = ss.length by omega] at q ⊢; rw [List.drop_length, List.append_nil] at q; exact ⟨rfl, q⟩))
theorem ct_l_heldStepS (m : Nat) (v : Value) (k : Int) (w : World) (r : StepsR (marksS k m) v (hp w)) (hk : 0 ≤ k ∧ k + 2 * m ≤ 4611686018427387904) :
    Calls Try.prog 34 [v, num k].toArray w (RetV w (num (k + 2 * m))) := by
  have hml := marksS_len k m
  have hmg : ∀ (i : Nat) (x : Stp), (marksS k m)[i]? = some x → x = ⟨k + 2 * i, k + 2 * i + 1⟩ := fun i x h => by
    simp only [marksS, List.getElem?_map, Option.map_eq_some_iff] at h
    obtain ⟨j, h1, h2⟩ := h
    have := List.getElem?_eq_some_iff.1 h1
    obtain ⟨_, e⟩ := this
    simp at e
    rw [← h2, e]
  refine calls_in Try.func34 rfl Try.ntmps34 rfl (Sat.start w) ?_
  have hle0 := r.le
  obtain ⟨cs_r, rr_r, hc_r⟩ := r.at
  refine wp_sc ?_
  refine wp_sq ?_
  refine sq_v rfl (v_assign rfl) rfl ?_
  refine sq_end ?_
  refine qs_n ?_
  refine wp_sc ?_
  refine wp_sc ?_
  refine wp_sq ?_
  refine sq_v rfl (v_assign rfl) rfl ?_
  refine sq_end ?_
  refine qs_n ?_
  refine wp_bl ?_
  refine wp_lp (σ := Nat) (fun z_ => [(0, v), (1, num (k + 2 * z_)), (4, num 0), (5, num z_)]) (fun z_ => [hp w]) (fun z_ => z_ ≤ (marksS k m).length) (fun z_ => (marksS k m).length - z_) 0 (by omega) ⟨rfl, (by first | rfl | exact ksub rfl (by first | omega | (simp; done) | (simp; omega))), rfl, (by first | rfl | exact ksub rfl (by first | omega | (simp; done) | (simp; omega))), trivial⟩ (fun _ s => s) ?_
  rintro i hi
  refine wp_sc ?_
  refine wp_sc ?_
  refine wp_sq ?_
  refine sq_v rfl (v_move rfl) rfl ?_
  refine sq_v rfl (v_move rfl) rfl ?_
  refine sq_v rfl (v_len Try.underlying43 rfl r.sl) rfl ?_
  refine sq_v rfl (v_lss rfl rfl) rfl ?_
  refine sq_end ?_
  refine qs_n ?_
  refine wp_cd rfl (fun c9 => ?_) (fun c9 => ?_)
  · refine wp_sk ?_
    refine qs_n ?_
    refine wp_sc ?_
    refine wp_bl ?_
    refine wp_sc ?_
    refine wp_sc ?_
    refine wp_sq ?_
    refine sq_v rfl (v_move rfl) rfl ?_
    refine sq_v rfl (v_move rfl) rfl ?_
    obtain ⟨x14, hx14, hcs14⟩ := hc_r (i) (by first | omega | (rw [List.length_set]; omega))
    refine sq_v rfl (v_indexAddr Try.underlying43 ty_114 rfl rfl rr_r (by decide) (by omega) (by first | omega | (rw [List.length_set]; omega))) rfl ?_
    refine sq_v rfl (v_fieldAddrE fd_114_0 ty_3 (by decide) rfl rr_r (by have := rr_r.1; first | omega | (simp only [Int.toNat_natCast]; omega) | (rw [stepCells_len, List.length_set]; omega))) rfl ?_
    refine sq_v rfl (v_loadE 0 ty_3 rfl rfl rr_r (sub_get hcs14 (j := 0) rfl)) rfl ?_
    refine sq_v rfl (v_move rfl) rfl ?_
    refine sq_v rfl (v_neq rfl rfl) rfl ?_
    refine sq_end ?_
    refine qs_n ?_
    refine wp_cd rfl (fun c18 => ?_) (fun c18 => ?_)
    · refine wp_sc ?_
      refine wp_sq ?_
      refine sq_v rfl (v_assign rfl) rfl ?_
      refine sq_end ?_
      refine qs_n ?_
      refine wp_rt ?_
      refine qs_r ?_
      refine qs_br ?_
      refine qs_r ?_
      refine qs_r ?_
      refine qs_br ?_
      refine qs_r ?_
      exact absurd (by rw [hmg i _ hx14]) c18
    · refine wp_sk ?_
      refine qs_n ?_
      refine wp_sc ?_
      refine wp_sq ?_
      refine sq_v rfl (v_move rfl) rfl ?_
      refine sq_v rfl (v_add rfl rfl ((by unfold I64; omega))) rfl ?_
      refine sq_v rfl (v_assign rfl) rfl ?_
      refine sq_end ?_
      refine qs_n ?_
      refine wp_sc ?_
      refine wp_sc ?_
      refine wp_sq ?_
      refine sq_v rfl (v_move rfl) rfl ?_
      refine sq_v rfl (v_move rfl) rfl ?_
      obtain ⟨x23, hx23, hcs23⟩ := hc_r (i) (by first | omega | (rw [List.length_set]; omega))
      refine sq_v rfl (v_indexAddr Try.underlying43 ty_114 rfl rfl rr_r (by decide) (by omega) (by first | omega | (rw [List.length_set]; omega))) rfl ?_
      refine sq_v rfl (v_fieldAddrE fd_114_1 ty_3 (by decide) rfl rr_r (by have := rr_r.1; first | omega | (simp only [Int.toNat_natCast]; omega) | (rw [stepCells_len, List.length_set]; omega))) rfl ?_
      refine sq_v rfl (v_loadE 0 ty_3 rfl rfl rr_r (sub_get hcs23 (j := 1) rfl)) rfl ?_
      refine sq_v rfl (v_move rfl) rfl ?_
      refine sq_v rfl (v_neq rfl rfl) rfl ?_
      refine sq_end ?_
      refine qs_n ?_
      refine wp_cd rfl (fun c27 => ?_) (fun c27 => ?_)
      · refine wp_sc ?_
        refine wp_sq ?_
        refine sq_v rfl (v_assign rfl) rfl ?_
        refine sq_end ?_
        refine qs_n ?_
        refine wp_rt ?_
        refine qs_r ?_
        refine qs_br ?_
        refine qs_r ?_
        refine qs_r ?_
        refine qs_br ?_
        refine qs_r ?_
        exact absurd (by rw [hmg i _ hx23]) c27
      · refine wp_sk ?_
        refine qs_n ?_
        refine wp_sq ?_
        refine sq_v rfl (v_move rfl) rfl ?_
        refine sq_v rfl (v_add rfl rfl ((by unfold I64; omega))) rfl ?_
        refine sq_v rfl (v_assign rfl) rfl ?_
        refine sq_end ?_
        refine qs_bn ?_
        refine qs_n ?_
        refine wp_sq ?_
        refine sq_v rfl (v_move rfl) rfl ?_
        refine sq_v rfl (v_add rfl rfl ((by unfold I64; omega))) rfl ?_
        refine sq_v rfl (v_assign rfl) rfl ?_
        refine sq_end ?_
        exact qs_bk (i + 1) (by omega) (by omega) ⟨rfl, (by first | rfl | exact ksub rfl (by first | omega | (simp; done) | (simp; omega))), rfl, (by first | rfl | exact ksub rfl (by first | omega | (simp; done) | (simp; omega))), trivial⟩ (fun _ s => s)
  · refine wp_ex ?_
    refine qs_x ?_
    refine qs_x ?_
    refine qs_bx ?_
    refine qs_n ?_
    refine wp_sc ?_
    refine wp_sq ?_
    refine sq_v rfl (v_move rfl) rfl ?_
    refine sq_v rfl (v_assign rfl) rfl ?_
    refine sq_end ?_
    refine qs_n ?_
    refine wp_rt ?_
    exact qs_ret1 rfl rfl (fin_q (i := 0) rfl (by congr 1; omega))
end Go.Proofs.Ytikeobneipjfnaa
