/-
  Parts of the proof of FnBest: laws of heaps, contracts of functions.
  Conditions: none.
-/
import Derived.Test.YtiefkcaplhnnmaaGreatQFnBest4
namespace Go.Proofs.YtiefkcaplhnnmaaGreat
set_option maxRecDepth 100000
open Go.ChangeShapes Go.WideShapes Go.ChangeAt Go.RowKit
section
variable {H : Type} {enc : TypeId × Value → H} {w : World} {base : Nat} {sp : Nat → Bool} {hd : Bool} {P : Program}
theorem rd_u8 {t : TypeId} {fuel : Nat} {cs : List Value} {x : DataW H × List MemPlace} (ht : P.underlying t = some (.int .u8)) (h : DataW.trod enc P w base sp hd fuel t cs = some x) : ∃ m, cs = [.int .u8 m] ∧ 0 ≤ m ∧ m ≤ 255 := by
  obtain ⟨m, rfl, _, hw⟩ := DataW.trod_int ht h; refine ⟨m, rfl, ?_⟩; simp only [Lit.wf, Bool.and_eq_true, decide_eq_true_eq] at hw; have e1 : IntKind.u8.min = 0 := rfl; have e2 : IntKind.u8.max = 255 := rfl
  omega
theorem rd_bytes {t e' : TypeId} {fuel : Nat} {cs : List Value} {x : DataW H × List MemPlace} (ht : P.underlying t = some (.slice e')) (he : P.underlying e' = some (.int .u8)) (hsz : P.cellsOf e' = 1)
    (h : DataW.trod enc P w base sp hd fuel t cs = some x) : ∃ v xs, cs = [v] ∧ BytesR xs v (hp w) := by
  obtain ⟨v, xs, rfl, cells, r, hc⟩ := rd_rows (R := fun (a : Int) us _ => us = [.int .u8 a] ∧ 0 ≤ a ∧ a ≤ 255) ht hsz (by decide) (fun h => rd_u8 he h) h; have e : cells = bys xs := by
    apply List.ext_getElem?
    intro i; simp only [bys, List.getElem?_map]
    cases hx : xs[i]? with
    | none =>
      have h1 := r.1; have h2 := List.getElem?_eq_none_iff.1 hx; rw [List.getElem?_eq_none (by omega)]
      rfl
    | some a =>
      have h2 := (hc i a hx).1; have h3 : (List.take 1 (List.drop (i * 1) cells))[0]? = some (.int .u8 a) := by rw [h2]; rfl
      rw [List.getElem?_take, if_pos (by decide), List.getElem?_drop] at h3
      simpa using h3
  subst e; refine ⟨v, xs, rfl, r, fun a ha => ?_⟩; obtain ⟨i, hi⟩ := List.getElem?_of_mem ha; exact (hc i a hi).2
theorem arg_bytes {v : Value} {d : DataW H} {p : List MemPlace} {r : Reach} {b : Nat} (hv : Value.okWide Tryz.prog w r b 22 v) (h : DataW.Trod enc Tryz.prog w base sp hd 22 v d p) : ∃ xs, BytesR xs v (hp w) := by
  obtain ⟨a, len, cap, rfl⟩ := okWide_slice Tryz.underlying22 hv; obtain ⟨f, hf⟩ := h; obtain ⟨v', xs, e, hx⟩ := rd_bytes Tryz.underlying22 Tryz.underlying5 (cellsOf_ty ty_5) hf
  simp [Value.cells] at e
  subst e; exact ⟨xs, hx⟩
end
theorem ct_l_ints (xs : List Int) (v u : Value) (w : World) (r : IntsR xs v (hp w)) (r' : IntsR xs u (hp w)) : Calls Tryz.prog 12 [v, u].toArray w (RetV w (.bool true)) := by
  refine calls_in Tryz.func12 rfl Tryz.ntmps12 rfl (Sat.start w) ?_; have hle0 := r.le; have hle1 := r'.le; refine wp_sc (wp_sq (sq_v rfl (v_assign rfl) rfl (sq_end (qs_n (wp_sc (wp_sc (wp_sq (sq_v rfl (v_move rfl) rfl (sq_v rfl (v_len Tryz.underlying27 rfl r.sl) rfl (sq_v rfl (v_move rfl) rfl (sq_end (qs_n (wp_bl ?_))))))))))))); refine wp_lp (σ := Nat) (fun z_ => [(0, v), (1, u), (4, .bool false), (7, v), (8, num xs.length), (9, num z_)]) (fun z_ => [hp w]) (fun z_ => z_ ≤ xs.length) (fun z_ => xs.length - z_) 0 (by omega) ⟨rfl, rfl, rfl, rfl, rfl, (by first | rfl | exact ksub rfl (by first | omega | (simp; done) | (simp; omega))), trivial⟩ (fun _ s => s) ?_; rintro i hi; refine wp_sc (wp_sq (sq_v rfl (v_lss rfl rfl) rfl (sq_end (qs_n (wp_sc ?_))))); refine wp_cd rfl (fun c10 => ?_) (fun c10 => ?_)
  · refine wp_sk (qs_n (wp_sc (wp_bl (wp_sc (wp_sq (sq_v rfl (v_move rfl) rfl ?_)))))); refine sq_v rfl (v_idxI Tryz.underlying27 ty_3 rfl rfl r (by first | omega | (simp; omega) | (simp only [List.length_append, List.length_cons, List.length_nil]; omega) | (rw [List.length_set]; omega)) (by first | omega | (simp; omega) | (simp only [List.length_append, List.length_cons, List.length_nil]; omega) | (rw [List.length_set]; omega))) rfl ?_; refine sq_v rfl (v_loadI (k := i) 0 ty_3 rfl rfl r (by first | omega | (simp; omega) | (simp only [List.length_append, List.length_cons, List.length_nil]; omega) | (rw [List.length_set]; omega))) rfl ?_; refine sq_v rfl (v_assign rfl) rfl (sq_v rfl (v_assign rfl) rfl (sq_end (qs_n (wp_sc (wp_sq (sq_v rfl (v_move rfl) rfl (sq_v rfl (v_move rfl) rfl (sq_v rfl (v_len Tryz.underlying27 rfl r'.sl) rfl (sq_v rfl (v_geq rfl rfl) rfl ?_))))))))); refine sq_bd 17 rfl (fun c17 => ?_) (fun c17 => ?_)
    · refine sq_v rfl (v_move rfl) rfl (sq_s rfl rfl (sq_s rfl rfl (sq_s rfl rfl (sq_s rfl rfl (sq_s rfl rfl (sq_s rfl rfl (sq_v rfl (v_pickt rfl rfl) rfl (sq_end (qs_n (wp_ct rfl (wp_sc (wp_sq (sq_v rfl (v_assign rfl) rfl (sq_end (qs_n (wp_rt (qs_br (qs_r (qs_r (qs_br (qs_r ?_)))))))))))))))))))))
      exfalso; first | omega | (rename_i c; exact c rfl)
    · refine sq_v rfl (v_move rfl) rfl (sq_v rfl (v_move rfl) rfl (sq_v rfl (v_move rfl) rfl ?_)); refine sq_v rfl (v_idxI Tryz.underlying27 ty_3 rfl rfl r' (by first | omega | (simp; omega) | (simp only [List.length_append, List.length_cons, List.length_nil]; omega) | (rw [List.length_set]; omega)) (by first | omega | (simp; omega) | (simp only [List.length_append, List.length_cons, List.length_nil]; omega) | (rw [List.length_set]; omega))) rfl ?_; refine sq_v rfl (v_loadI (k := i) 0 ty_3 rfl rfl r' (by first | omega | (simp; omega) | (simp only [List.length_append, List.length_cons, List.length_nil]; omega) | (rw [List.length_set]; omega))) rfl ?_; refine sq_v rfl (v_move rfl) rfl (sq_v rfl (v_neqs rfl rfl) rfl (sq_v rfl (v_pickf rfl rfl) rfl (sq_end (qs_n (wp_cf rfl (wp_sk (qs_bn (qs_n (wp_sq ?_))))))))); refine sq_v rfl (v_add rfl rfl ((by unfold I64; omega))) rfl ?_; refine sq_v rfl (v_move rfl) rfl (sq_end ?_); exact qs_bk (i + 1) (by omega) (by omega) ⟨rfl, rfl, rfl, rfl, rfl, (by first | rfl | exact ksub rfl (by first | omega | (simp; done) | (simp; omega))), trivial⟩ (fun _ s => s)
  · refine wp_ex (qs_x (qs_x (qs_bx (qs_n (wp_sc (wp_sq (sq_v rfl (v_move rfl) rfl (sq_v rfl (v_len Tryz.underlying27 rfl r.sl) rfl (sq_v rfl (v_move rfl) rfl (sq_v rfl (v_len Tryz.underlying27 rfl r'.sl) rfl (sq_v rfl (v_eqls rfl rfl) rfl (sq_v rfl (v_assign rfl) rfl (sq_end (qs_n (wp_rt ?_))))))))))))))); exact qs_ret1 rfl rfl (fin_q (i := 0) rfl (by simp))
end Go.Proofs.YtiefkcaplhnnmaaGreat
namespace Go.Proofs.YtiefkcaplhnnmaaGreat
set_option maxRecDepth 100000
open Go.RowKit
theorem ct_l_intsD (xs ys : List Int) (v u : Value) (w : World) (r : IntsR xs v (hp w)) (r' : IntsR ys u (hp w)) : Calls Tryz.prog 12 [v, u].toArray w (RetV w (.bool (decide (xs = ys)))) := by
  refine calls_in Tryz.func12 rfl Tryz.ntmps12 rfl (Sat.start w) ?_; have hle0 := r.le; have hle1 := r'.le; refine wp_sc (wp_sq (sq_v rfl (v_assign rfl) rfl (sq_end (qs_n (wp_sc (wp_sc (wp_sq (sq_v rfl (v_move rfl) rfl (sq_v rfl (v_len Tryz.underlying27 rfl r.sl) rfl (sq_v rfl (v_move rfl) rfl (sq_end (qs_n (wp_bl ?_))))))))))))); refine wp_lp (σ := Nat) (fun z_ => [(0, v), (1, u), (4, .bool false), (7, v), (8, num xs.length), (9, num z_)]) (fun z_ => [hp w]) (fun z_ => (z_ ≤ xs.length ∧ z_ ≤ ys.length) ∧ (∀ j, j < z_ → xs.getD j 0 = ys.getD j 0)) (fun z_ => xs.length - z_) 0 (⟨by omega, fun j hj => by omega⟩) ⟨rfl, rfl, rfl, rfl, rfl, (by first | rfl | exact ksub rfl (by first | omega | (simp; done) | (simp; omega))), trivial⟩ (fun _ s => s) ?_; rintro i ⟨hi, hn⟩; refine wp_sc (wp_sq (sq_v rfl (v_lss rfl rfl) rfl (sq_end (qs_n (wp_sc ?_))))); refine wp_cd rfl (fun c10 => ?_) (fun c10 => ?_)
  · refine wp_sk (qs_n (wp_sc (wp_bl (wp_sc (wp_sq (sq_v rfl (v_move rfl) rfl ?_)))))); refine sq_v rfl (v_idxI Tryz.underlying27 ty_3 rfl rfl r (by first | omega | (simp; omega) | (simp only [List.length_append, List.length_cons, List.length_nil]; omega) | (rw [List.length_set]; omega)) (by first | omega | (simp; omega) | (simp only [List.length_append, List.length_cons, List.length_nil]; omega) | (rw [List.length_set]; omega))) rfl ?_; refine sq_v rfl (v_loadI (k := i) 0 ty_3 rfl rfl r (by first | omega | (simp; omega) | (simp only [List.length_append, List.length_cons, List.length_nil]; omega) | (rw [List.length_set]; omega))) rfl ?_; refine sq_v rfl (v_assign rfl) rfl (sq_v rfl (v_assign rfl) rfl (sq_end (qs_n (wp_sc (wp_sq (sq_v rfl (v_move rfl) rfl (sq_v rfl (v_move rfl) rfl (sq_v rfl (v_len Tryz.underlying27 rfl r'.sl) rfl (sq_v rfl (v_geq rfl rfl) rfl ?_))))))))); refine sq_bd 17 rfl (fun c17 => ?_) (fun c17 => ?_)
    · refine sq_v rfl (v_move rfl) rfl (sq_s rfl rfl (sq_s rfl rfl (sq_s rfl rfl (sq_s rfl rfl (sq_s rfl rfl (sq_s rfl rfl (sq_v rfl (v_pickt rfl rfl) rfl (sq_end (qs_n (wp_ct rfl (wp_sc (wp_sq (sq_v rfl (v_assign rfl) rfl (sq_end (qs_n (wp_rt (qs_br (qs_r (qs_r (qs_br (qs_r ?_))))))))))))))))))))); exact qs_ret1 rfl rfl (fin_q (i := 0) rfl (by congr 1; symm; rw [decide_eq_false_iff_not]; rintro rfl; omega))
    · refine sq_v rfl (v_move rfl) rfl (sq_v rfl (v_move rfl) rfl (sq_v rfl (v_move rfl) rfl ?_)); refine sq_v rfl (v_idxI Tryz.underlying27 ty_3 rfl rfl r' (by first | omega | (simp; omega) | (simp only [List.length_append, List.length_cons, List.length_nil]; omega) | (rw [List.length_set]; omega)) (by first | omega | (simp; omega) | (simp only [List.length_append, List.length_cons, List.length_nil]; omega) | (rw [List.length_set]; omega))) rfl ?_; refine sq_v rfl (v_loadI (k := i) 0 ty_3 rfl rfl r' (by first | omega | (simp; omega) | (simp only [List.length_append, List.length_cons, List.length_nil]; omega) | (rw [List.length_set]; omega))) rfl ?_; refine sq_v rfl (v_move rfl) rfl (sq_v rfl (v_neq rfl rfl) rfl (sq_v rfl (v_pickf rfl rfl) rfl (sq_end (qs_n ?_)))); refine wp_cd rfl (fun c25 => ?_) (fun c25 => ?_)
      · refine wp_sc (wp_sq (sq_v rfl (v_assign rfl) rfl (sq_end (qs_n (wp_rt (qs_br (qs_r (qs_r (qs_br (qs_r ?_)))))))))); exact qs_ret1 rfl rfl (fin_q (i := 0) rfl (by congr 1; symm; rw [decide_eq_false_iff_not]; rintro rfl; exact c25 rfl))
      · refine wp_sk (qs_bn (qs_n (wp_sq ?_))); refine sq_v rfl (v_add rfl rfl ((by unfold I64; omega))) rfl ?_; refine sq_v rfl (v_move rfl) rfl (sq_end ?_); exact qs_bk (i + 1) ⟨by omega, step_all hn ((Classical.byContradiction fun h9 => c25 (fun e => h9 e.symm)))⟩ (by omega) ⟨rfl, rfl, rfl, rfl, rfl, (by first | rfl | exact ksub rfl (by first | omega | (simp; done) | (simp; omega))), trivial⟩ (fun _ s => s)
  · refine wp_ex (qs_x (qs_x (qs_bx (qs_n (wp_sc (wp_sq (sq_v rfl (v_move rfl) rfl (sq_v rfl (v_len Tryz.underlying27 rfl r.sl) rfl (sq_v rfl (v_move rfl) rfl (sq_v rfl (v_len Tryz.underlying27 rfl r'.sl) rfl (sq_v rfl (v_eql rfl rfl) rfl (sq_v rfl (v_assign rfl) rfl (sq_end (qs_n (wp_rt ?_))))))))))))))); exact qs_ret1 rfl rfl (fin_q (i := 0) rfl (by congr 1; rw [decide_eq_decide]; exact ⟨fun h => ext_getD (by omega) (fun j hj => hn j (by omega)), fun h => by rw [h]⟩))
end Go.Proofs.YtiefkcaplhnnmaaGreat
namespace Go.Proofs.YtiefkcaplhnnmaaGreat
set_option maxRecDepth 100000
open Go.RowKit
theorem ct_i_ElemOkIn (k p n : Int) (xs : List Int) (v : Value) (w : World) (r : IntsR xs v (hp w)) (hr : ringL k p n) (hx : InR k p n xs) : Calls Tryz.prog 56 [ringV k p n, v].toArray w (RetV w (.bool true)) := by
  have hb := ringB_true.2 hr; have hl := hx.len hr; have hd : decide (∀ a ∈ xs, 0 ≤ a ∧ a ≤ topI k p n) = true := decide_eq_true hx.2; refine calls_in Tryz.func56 rfl Tryz.ntmps56 rfl (Sat.start w) ?_; have hle0 := r.le; refine wp_sc (wp_sq ?_); refine sq_x rfl (x_box rfl rfl) rfl ?_; rintro _ _ ⟨b2, rfl, rfl⟩; refine sq_v rfl (v_assign rfl) rfl (sq_end (qs_n (wp_sc (wp_sq (sq_v rfl (v_loadNB 0 ty_24 rfl rfl rfl rfl) rfl (sq_u rfl (x_callv rfl en_41 (fun w s => ct_i_RingOk _ _ _ w)) rfl ?_)))))); refine sq_bb 6 rfl (fun c6 => ?_) (fun c6 => ?_)
  · refine sq_v rfl (v_move rfl) rfl (sq_v rfl (v_move rfl) rfl (sq_v rfl (v_len Tryz.underlying27 rfl r.sl) rfl (sq_v rfl (v_loadNB 0 ty_24 rfl rfl rfl rfl) rfl (sq_u rfl (x_callv rfl en_86 (fun w s => ct_i_rawWidth _ _ _ w)) rfl (sq_v rfl (v_eql rfl rfl) rfl (sq_v rfl (v_pickt rfl rfl) rfl ?_)))))); refine sq_bd 13 rfl (fun c13 => ?_) (fun c13 => ?_)
    · refine sq_v rfl (v_move rfl) rfl (sq_v rfl (v_loadNB 0 ty_24 rfl rfl rfl rfl) rfl (sq_v rfl (v_move rfl) rfl (sq_u rfl (x_callv rfl en_87 (fun w s => ct_i_inRing _ _ _ _ _ w hr (r.mono (s.get 1 rfl)))) rfl (sq_v rfl (v_pickt rfl rfl) rfl (sq_v rfl (v_assign rfl) rfl (sq_end (qs_n (wp_rt ?_)))))))); exact qs_ret1 rfl rfl (fin_q (i := 1) rfl (by rw [hd]))
    · refine sq_v rfl (v_move rfl) rfl (sq_s rfl rfl (sq_s rfl rfl (sq_s rfl rfl (sq_v rfl (v_pickf rfl rfl) rfl (sq_v rfl (v_assign rfl) rfl (sq_end (qs_n (wp_rt ?_)))))))); exact qs_ret1 rfl rfl (fin_q (i := 1) rfl (by omega))
  · refine sq_v rfl (v_move rfl) rfl (sq_s rfl rfl (sq_s rfl rfl (sq_s rfl rfl (sq_s rfl rfl (sq_s rfl rfl (sq_v rfl (v_pickf rfl rfl) rfl (sq_v rfl (v_move rfl) rfl (sq_s rfl rfl (sq_s rfl rfl ?_))))))))); refine sq_s rfl rfl (sq_v rfl (v_pickf rfl rfl) rfl (sq_v rfl (v_assign rfl) rfl (sq_end (qs_n (wp_rt ?_))))); exact qs_ret1 rfl rfl (fin_q (i := 1) rfl (absurd (hb.symm.trans c6) (by decide)))
theorem subV_all {xs : List Int} {v : Value} {h : PH} (r : IntsO xs v h) (hx : 0 < xs.length) : subV v 0 xs.length 1 = v := by
  obtain ⟨_, h1 | ⟨g, cap, cur, rfl, _, h2, _⟩⟩ := r
  · omega
  · simp only [subV, sliced]
    simp
    exact fun _ => rfl
theorem ct_i_addAll (k p n : Int) (xs y : List Int) (sv u : Value) (w : World) (h : PH) (hr : ringL k p n) (hle : PLe h (hp w)) (rz : IntsO xs sv h) (r' : IntsR y u (restP w h)) (hx : InR k p n xs) (hy : InR k p n y) :
    Calls Tryz.prog 57 [ringV k p n, sv, u].toArray w (Ret w h (fun _ h' => IntsO (addL k p xs y) sv h')) := by
  have h1 := hx.len hr; have h2 := hy.len hr; have hs := subV_all rz (by omega); have e : (xs.drop 0).take y.length = xs := by rw [List.drop_zero, List.take_of_length_le (by omega)]
  have hc := ct_i_addInto k p n xs y 0 xs.length sv u w h hr hle rz r' (by omega) (Nat.le_refl _) (by rw [e]; exact hx) hy; rw [hs, e] at hc; have e2 : putL xs 0 (addL k p xs y) = addL k p xs y := by
    unfold putL
    rw [List.take_zero, List.nil_append, addL_len, Nat.zero_add, List.drop_length, List.append_nil]
  rw [e2] at hc; exact hc
theorem ct_i_AddElemIn (k p n : Int) (xs ys : List Int) (v u : Value) (w : World) (r : IntsR xs v (hp w)) (r' : IntsR ys u (hp w)) (hr : ringL k p n) (hx : InR k p n xs) (hy : InR k p n ys) :
    Calls Tryz.prog 22 [ringV k p n, v, u].toArray w (Ret w emp (IntsO (addL k p xs ys))) := by
  have h1 := hx.len hr; refine calls_in Tryz.func22 rfl Tryz.ntmps22 rfl (Sat.start w) ?_; have hle0 := r.le; have hle1 := r'.le; refine wp_sc (wp_sq ?_); refine sq_x rfl (x_box rfl rfl) rfl ?_; rintro _ _ ⟨b3, rfl, rfl⟩; refine sq_v rfl (v_assign rfl) rfl (sq_end (qs_n (wp_sc (wp_sc (wp_sq (sq_v rfl (v_loadNB 0 ty_24 rfl rfl rfl rfl) rfl (sq_v rfl (v_move rfl) rfl (sq_u rfl (x_callv rfl en_56 (fun w s => ct_i_ElemOkIn _ _ _ _ _ w (r.mono (s.get 1 rfl)) (by first | assumption | omega) (by first | assumption | omega))) rfl (sq_v rfl (v_not rfl) rfl (sq_v rfl (v_move rfl) rfl (sq_v rfl (v_loadNB 0 ty_24 rfl rfl rfl rfl) rfl (sq_v rfl (v_move rfl) rfl (sq_u rfl (x_callv rfl en_56 (fun w s => ct_i_ElemOkIn _ _ _ _ _ w (r'.mono (s.get 1 rfl)) (by first | assumption | omega) (by first | assumption | omega))) rfl (sq_v rfl (v_not rfl) rfl ?_)))))))))))))); refine sq_v rfl (v_pickf rfl rfl) rfl (sq_end (qs_n (wp_cf rfl (wp_sk (qs_n (wp_sc (wp_sq (sq_v rfl (v_move rfl) rfl ?_)))))))); refine sq_x rfl (x_call rfl en_47 (fun w s => ct_i_copyInts _ _ w (r.mono (s.get 1 rfl)) (by first | assumption | omega))) rfl ?_; rintro v19 h19 r19; refine sq_v rfl (v_assign rfl) rfl (sq_end (qs_n (wp_sc (wp_sq (sq_v rfl (v_loadNB 1 ty_24 rfl rfl rfl rfl) rfl (sq_v rfl (v_move rfl) rfl (sq_v rfl (v_move rfl) rfl ?_))))))); refine sq_m 0 rfl rfl (x_call rfl en_57 (fun w s => ct_i_addAll _ _ _ _ _ _ _ w _ hr (s.get 0 rfl) r19 (r'.mono (s.getR 0 2 rfl rfl (by decide))) hx hy)) rfl ?_; rintro _ h23 r23; refine sq_end (qs_n (wp_sc (wp_sq (sq_v rfl (v_move rfl) rfl (sq_v rfl (v_assign rfl) rfl (sq_end (qs_n (wp_rt ?_)))))))); exact qs_ret1 rfl rfl (fin_t 0 (i := 2) rfl rfl rfl (r23))
end Go.Proofs.YtiefkcaplhnnmaaGreat
namespace Go.Proofs.YtiefkcaplhnnmaaGreat
set_option maxRecDepth 100000
open Go.RowKit
theorem dotTo_cons (a b : Int) (xs ys : List Int) : ∀ m, dotTo (a :: xs) (b :: ys) (m + 1) = a * b + dotTo xs ys m
  | 0 => by simp [dotTo]
  | m + 1 => by
    have ih := dotTo_cons a b xs ys m; rw [dotTo, ih, dotTo]; simp only [List.getD_cons_succ]
    omega
theorem dotL_cons (a b : Int) (xs ys : List Int) : dotL (a :: xs) (b :: ys) = a * b + dotL xs ys := by
  unfold dotL
  rw [List.length_cons, dotTo_cons]
theorem steps_skip {labels ls ds : List Int} {l d : Int} (h : l ∉ labels) : stepsL labels (l :: ls) (d :: ds) = stepsL labels ls ds :=
  List.map_congr_left fun x hx => by simp only [strOf]; rw [if_neg (fun e => h (by rw [← e]; exact hx))]
theorem sl_full : ∀ {ls ds is : List Int}, ls.Nodup → ls.length = ds.length → is.length = ls.length → dotL (stepsL ls ls ds) is = offL ds is
  | [], [], [], _, _, _ => by simp [dotL, stepsL, dotTo, offL]
  | l :: ls, d :: ds, i :: is, hn, hl, hi => by
    have hn' := List.nodup_cons.1 hn; have ih := sl_full (ls := ls) (ds := ds) (is := is) hn'.2 (by simpa using hl) (by simpa using hi); have e : stepsL (l :: ls) (l :: ls) (d :: ds) = prodI ds :: stepsL ls ls ds := by
      rw [← steps_skip (l := l) (d := d) hn'.1]
      simp [stepsL, strOf]
    rw [e, dotL_cons, ih, offL, Int.mul_comm]
  | [], _ :: _, _, _, hl, _ => by simp at hl
  | _ :: _, [], _, _, hl, _ => by simp at hl
  | [], [], _ :: _, _, _, hi => by simp at hi
  | _ :: _, _ :: _, [], _, _, hi => by simp at hi
theorem sl_dot : ∀ {ls ds is : List Int} {j : Nat} (v : Int), ls.Nodup → ls.length = ds.length → j < ls.length → is.length + 1 = ls.length → v * strOf ls ds (ls.getD j 0) + dotL (stepsL (ls.eraseIdx j) ls ds) is = offL ds (is.insertIdx j v)
  | l :: ls, d :: ds, is, 0, v, hn, hl, _, hi => by
    have hn' := List.nodup_cons.1 hn; have h := sl_full (ls := ls) (ds := ds) (is := is) hn'.2 (by simpa using hl) (by simpa using hi); rw [List.eraseIdx_zero, List.tail_cons, steps_skip hn'.1, h]
    simp [strOf, offL]
  | l :: ls, d :: ds, i :: is, j + 1, v, hn, hl, hj, hi => by
    have hn' := List.nodup_cons.1 hn; have hj' : j < ls.length := by simpa using hj
    have ih := sl_dot (ls := ls) (ds := ds) (is := is) (j := j) v hn'.2 (by simpa using hl) hj' (by simpa using hi); have hne : ls.getD j 0 ≠ l := fun e => hn'.1 (e ▸ mem_getD hj'); have hm : l ∉ ls.eraseIdx j := fun h => hn'.1 (List.mem_of_mem_eraseIdx h); have e : stepsL (l :: ls.eraseIdx j) (l :: ls) (d :: ds) = prodI ds :: stepsL (ls.eraseIdx j) ls ds := by
      rw [← steps_skip (l := l) (d := d) hm]
      simp [stepsL, strOf]
    rw [List.eraseIdx_cons_succ, e, dotL_cons, List.insertIdx_succ_cons, offL, ← ih, List.getD_cons_succ]; simp only [strOf]; rw [if_neg hne, Int.mul_comm (prodI ds)]
    omega
  | [], _, _, _, _, _, _, hj, _ => by simp at hj
  | _ :: _, [], _, _, _, _, hl, _, _ => by simp at hl
  | l :: ls, _ :: _, [], j + 1, _, _, _, hj, hi => by
    have h1 : (l :: ls).length = ls.length + 1 := rfl; have h2 : ([] : List Int).length = 0 := rfl
    omega
theorem idxL_cons (d : Int) (ds : List Int) (n : Int) : idxL (d :: ds) n = (n / prodI ds % d) :: idxL ds n := by
  unfold idxL
  rw [List.length_cons, List.range_succ_eq_map, List.map_cons, List.map_map]
  rfl
theorem idxL_shift : ∀ {ds : List Int} (_ : ∀ d ∈ ds, 1 ≤ d) (q m : Int), idxL ds (q * prodI ds + m) = idxL ds m
  | [], _, q, m => rfl
  | d :: ds, hd, q, m => by
    have h1 := prodI_one (ds := ds) fun x hx => hd x (by simp [hx]); have hd1 := hd d (by simp); have ih := idxL_shift (ds := ds) (fun x hx => hd x (by simp [hx])) (q * d) m; have e : q * prodI (d :: ds) + m = q * d * prodI ds + m := by rw [prodI_cons, Int.mul_assoc]
    rw [e, idxL_cons, idxL_cons, ih]
    congr 1
    rw [Int.add_comm, Int.add_mul_ediv_right _ _ (by omega), Int.add_mul_emod_self_right]
theorem range_blocks (b : Nat) : ∀ a : Nat, List.range (a * b) = (List.range a).flatMap fun q => (List.range b).map fun r => q * b + r
  | 0 => by simp
  | a + 1 => by
    rw [Nat.add_mul, Nat.one_mul, List.range_add, range_blocks b a, List.range_succ, List.flatMap_append]
    simp
theorem one_block {α : Type} (g : Nat → List α) {v : Nat} : ∀ {a : Nat}, v < a → (List.range a).flatMap (fun q => if q = v then g q else []) = g v
  | 0, h => by omega
  | a + 1, h => by
    rw [List.range_succ, List.flatMap_append]
    by_cases e : a = v
    · subst e; have h0 : (List.range a).flatMap (fun q => if q = a then g q else []) = [] := List.flatMap_eq_nil_iff.2 fun q hq => by
        have := List.mem_range.1 hq; rw [if_neg (by omega)]
      rw [h0]; simp
    · rw [one_block g (show v < a by omega)]; simp [e]
theorem flatMap_congr' {α β : Type} {l : List α} {f g : α → List β} (h : ∀ x ∈ l, f x = g x) : l.flatMap f = l.flatMap g := by
  induction l with
  | nil => rfl
  | cons x l ih => rw [List.flatMap_cons, List.flatMap_cons, h x (by simp), ih fun y hy => h y (by simp [hy])]
theorem filter_flatMap {α β : Type} (p : β → Bool) (f : α → List β) (l : List α) : (l.flatMap f).filter p = l.flatMap fun x => (f x).filter p := by
  induction l with
  | nil => rfl
  | cons x l ih => rw [List.flatMap_cons, List.flatMap_cons, List.filter_append, ih]
theorem map_flatMap' {α β γ : Type} (g : β → γ) (f : α → List β) (l : List α) : (l.flatMap f).map g = l.flatMap fun x => (f x).map g := by
  induction l with
  | nil => rfl
  | cons x l ih => rw [List.flatMap_cons, List.flatMap_cons, List.map_append, ih]
def slHas (ds : List Int) (j : Nat) (v : Int) (n : Nat) : Bool := decide ((idxL ds n).getD j 0 = v)
def slTo (ds : List Int) (j : Nat) (v : Int) (m : Nat) : List Nat := (List.range m).filter (slHas ds j v)
def slAt (ds : List Int) (j : Nat) (v : Int) (m : Nat) : Nat := (offL ds ((idxL (ds.eraseIdx j) m).insertIdx j v)).toNat
theorem ins_in {ds is : List Int} {j : Nat} {v : Int} (hj : j < ds.length) (hv : 0 ≤ v ∧ v < ds.getD j 0) (h : idxIn (ds.eraseIdx j) is) : idxIn ds (is.insertIdx j v) := by
  have hl := h.1; rw [List.length_eraseIdx_of_lt hj] at hl; refine ⟨by rw [List.length_insertIdx_of_le_length (by omega)]; omega, fun i hi => ?_⟩
  rcases Nat.lt_trichotomy i j with c | c | c
  · have e1 : (is.insertIdx j v).getD i 0 = is.getD i 0 := by simp only [List.getD]; rw [List.getElem?_insertIdx_of_lt c]
    have e2 : (ds.eraseIdx j).getD i 0 = ds.getD i 0 := by simp only [List.getD]; rw [List.getElem?_eraseIdx_of_lt c]
    have := h.2 i (by rw [List.length_eraseIdx_of_lt hj]; omega); rw [e1, ← e2]; exact this
  · subst c; have e1 : (is.insertIdx i v).getD i 0 = v := by simp only [List.getD]; rw [List.getElem?_insertIdx_self, if_pos (by omega)]; rfl
    rw [e1]; exact hv
  · have e1 : (is.insertIdx j v).getD i 0 = is.getD (i - 1) 0 := by simp only [List.getD]; rw [List.getElem?_insertIdx_of_gt c]
    have e2 : (ds.eraseIdx j).getD (i - 1) 0 = ds.getD i 0 := by
      simp only [List.getD]; rw [List.getElem?_eraseIdx_of_ge (by omega), show i - 1 + 1 = i by omega]
    have := h.2 (i - 1) (by rw [List.length_eraseIdx_of_lt hj]; omega); rw [e1, ← e2]; exact this
theorem erase_mem {ds : List Int} {j : Nat} {p : Int → Prop} (h : ∀ d ∈ ds, p d) : ∀ d ∈ ds.eraseIdx j, p d := fun d hd => h d (List.mem_of_mem_eraseIdx hd)
theorem sl_in {ds : List Int} (hd : ∀ d ∈ ds, 1 ≤ d) {j : Nat} (hj : j < ds.length) {v : Int} (hv : 0 ≤ v ∧ v < ds.getD j 0) (m : Int) : 0 ≤ offL ds ((idxL (ds.eraseIdx j) m).insertIdx j v) ∧ offL ds ((idxL (ds.eraseIdx j) m).insertIdx j v) ≤ prodI ds - 1 :=
  offL_in hd (ins_in hj hv (idxL_in (erase_mem hd) m))
theorem sl_eq : ∀ {ds : List Int} (_ : ∀ d ∈ ds, 1 ≤ d) {j : Nat} (_ : j < ds.length) {v : Int} (_ : 0 ≤ v ∧ v < ds.getD j 0), slTo ds j v (prodI ds).toNat = (List.range (prodI (ds.eraseIdx j)).toNat).map (slAt ds j v)
  | [], _, j, hj, _, _ => by simp at hj
  | d :: ds, hd, 0, _, v, hv => by
    have hd' : ∀ x ∈ ds, 1 ≤ x := fun x hx => hd x (by simp [hx]); have hd1 := hd d (by simp); have hP := prodI_one hd'; have hv' : 0 ≤ v ∧ v < d := by simpa using hv
    have eP : (prodI (d :: ds)).toNat = d.toNat * (prodI ds).toNat := by rw [prodI_cons, Int.toNat_mul (by omega) (by omega)]
    rw [slTo, eP, range_blocks, filter_flatMap, List.eraseIdx_zero, List.tail_cons]; have e : ∀ q ∈ List.range d.toNat, ((List.range (prodI ds).toNat).map fun r => q * (prodI ds).toNat + r).filter (slHas (d :: ds) 0 v) = if q = v.toNat then (List.range (prodI ds).toNat).map fun r => q * (prodI ds).toNat + r else [] := fun q hq => by
      have hq' := List.mem_range.1 hq; have hdig : ∀ r, r < (prodI ds).toNat → slHas (d :: ds) 0 v (q * (prodI ds).toNat + r) = decide (q = v.toNat) := fun r hr => by
        unfold slHas
        rw [idxL_cons]; have e1 : ((q * (prodI ds).toNat + r : Nat) : Int) = r + q * prodI ds := by
          rw [Int.natCast_add, Int.natCast_mul, show (((prodI ds).toNat : Nat) : Int) = prodI ds by omega, Int.add_comm]
        rw [e1, Int.add_mul_ediv_right _ _ (by omega), Int.ediv_eq_zero_of_lt (by omega) (by omega), Int.zero_add, Int.emod_eq_of_lt (by omega) (by omega), Bool.eq_iff_iff, decide_eq_true_eq, decide_eq_true_eq]; simp only [List.getD_cons_zero]
        omega
      by_cases c : q = v.toNat
      · rw [if_pos c, List.filter_eq_self]; intro x hx; obtain ⟨r, hr, rfl⟩ := List.mem_map.1 hx; rw [hdig r (List.mem_range.1 hr)]; simpa using c
      · rw [if_neg c, List.filter_eq_nil_iff]; intro x hx; obtain ⟨r, hr, rfl⟩ := List.mem_map.1 hx; rw [hdig r (List.mem_range.1 hr)]; simpa using c
    rw [flatMap_congr' e, one_block _ (show v.toNat < d.toNat by omega)]; refine List.map_congr_left fun r hr => ?_; have hr' := List.mem_range.1 hr
    unfold slAt
    rw [List.eraseIdx_zero, List.tail_cons, List.insertIdx_zero, offL, offL_idx hd' (by omega) (by omega), Int.toNat_add (Int.mul_nonneg hv'.1 (by omega)) (by omega), Int.toNat_mul hv'.1 (by omega)]
    simp
  | d :: ds, hd, j + 1, hj, v, hv => by
    have hd' : ∀ x ∈ ds, 1 ≤ x := fun x hx => hd x (by simp [hx]); have hd1 := hd d (by simp); have hP := prodI_one hd'; have hj' : j < ds.length := by simpa using hj
    have hv' : 0 ≤ v ∧ v < ds.getD j 0 := by simpa using hv
    have he := erase_mem (j := j) hd'; have hP' := prodI_one he; have ih := sl_eq hd' hj' hv'; have eP : (prodI (d :: ds)).toNat = d.toNat * (prodI ds).toNat := by rw [prodI_cons, Int.toNat_mul (by omega) (by omega)]
    have eP' : (prodI ((d :: ds).eraseIdx (j + 1))).toNat = d.toNat * (prodI (ds.eraseIdx j)).toNat := by rw [List.eraseIdx_cons_succ, prodI_cons, Int.toNat_mul (by omega) (by omega)]
    rw [slTo, eP, eP', range_blocks, range_blocks, filter_flatMap, map_flatMap']; refine flatMap_congr' fun q hq => ?_; have hq' := List.mem_range.1 hq; rw [List.filter_map]; have e2 : (slHas (d :: ds) (j + 1) v ∘ fun r => q * (prodI ds).toNat + r) = slHas ds j v := by
      funext r
      simp only [Function.comp, slHas]; rw [idxL_cons, List.getD_cons_succ]; have e1 : ((q * (prodI ds).toNat + r : Nat) : Int) = q * prodI ds + r := by
        rw [Int.natCast_add, Int.natCast_mul, show (((prodI ds).toNat : Nat) : Int) = prodI ds by omega]
      rw [e1, idxL_shift hd']
    rw [e2]; have ih' : (List.range (prodI ds).toNat).filter (slHas ds j v) = (List.range (prodI (ds.eraseIdx j)).toNat).map (slAt ds j v) := ih; rw [ih', List.map_map, List.map_map]; refine List.map_congr_left fun m hm => ?_; have hm' := List.mem_range.1 hm; have hin := sl_in hd' hj' hv' m; simp only [Function.comp, slAt]; have e1 : ((q * (prodI (ds.eraseIdx j)).toNat + m : Nat) : Int) = m + q * prodI (ds.eraseIdx j) := by
      rw [Int.natCast_add, Int.natCast_mul, show (((prodI (ds.eraseIdx j)).toNat : Nat) : Int) = prodI (ds.eraseIdx j) by omega, Int.add_comm]
    rw [List.eraseIdx_cons_succ, idxL_cons, e1, Int.add_mul_ediv_right _ _ (by omega), Int.ediv_eq_zero_of_lt (by omega) (by omega), Int.zero_add, Int.emod_eq_of_lt (by omega) (by omega), List.insertIdx_succ_cons, offL, Int.add_comm (m : Int), idxL_shift he,
      Int.toNat_add (Int.mul_nonneg (by omega) (by omega)) hin.1, Int.toNat_mul (by omega) (by omega)]
    simp
end Go.Proofs.YtiefkcaplhnnmaaGreat
namespace Go.Proofs.YtiefkcaplhnnmaaGreat
set_option maxRecDepth 100000
open Go.RowKit
structure Sm (A : Type) where
  zero : A
  one : A
  add : A → A → A
  mul : A → A → A
  addC : ∀ a b, add a b = add b a
  addA : ∀ a b c, add (add a b) c = add a (add b c)
  add0 : ∀ a, add zero a = a
  mulC : ∀ a b, mul a b = mul b a
  mulA : ∀ a b c, mul (mul a b) c = mul a (mul b c)
  mul1 : ∀ a, mul one a = a
  mul0 : ∀ a, mul zero a = zero
  dist : ∀ a b c, mul (add a b) c = add (mul a c) (mul b c)
section
variable {A : Type} (R : Sm A)
theorem Sm.add0' (a : A) : R.add a R.zero = a := by rw [R.addC, R.add0]
theorem Sm.add4 (a b c d : A) : R.add (R.add a b) (R.add c d) = R.add (R.add a c) (R.add b d) := by
  rw [R.addA, R.addA, ← R.addA b c d, R.addC b c, R.addA c b d]
def sumN (F : Nat → A) : Nat → A
  | 0 => R.zero
  | n + 1 => R.add (sumN F n) (F n)
theorem sumN_congr {F G : Nat → A} : ∀ {n : Nat}, (∀ i, i < n → F i = G i) → sumN R F n = sumN R G n
  | 0, _ => rfl
  | n + 1, h => by rw [sumN, sumN, sumN_congr (n := n) fun i hi => h i (by omega), h n (by omega)]
theorem sumN_zero : ∀ n : Nat, sumN R (fun _ => R.zero) n = R.zero
  | 0 => rfl
  | n + 1 => by rw [sumN, sumN_zero n, R.add0]
theorem sumN_add (F G : Nat → A) : ∀ n : Nat, sumN R (fun i => R.add (F i) (G i)) n = R.add (sumN R F n) (sumN R G n)
  | 0 => by rw [sumN, sumN, sumN, R.add0]
  | n + 1 => by rw [sumN, sumN, sumN, sumN_add F G n, R.add4]
theorem sumN_swap (F : Nat → Nat → A) (m : Nat) : ∀ n : Nat, sumN R (fun i => sumN R (F i) m) n = sumN R (fun j => sumN R (fun i => F i j) n) m
  | 0 => by
    show R.zero = sumN R (fun _ => R.zero) m
    rw [sumN_zero]
  | n + 1 => by
    rw [sumN, sumN_swap F m n, ← sumN_add]
    rfl
theorem sumN_mul (F : Nat → A) (c : A) : ∀ n : Nat, R.mul (sumN R F n) c = sumN R (fun i => R.mul (F i) c) n
  | 0 => R.mul0 c
  | n + 1 => by rw [sumN, sumN, R.dist, sumN_mul F c n]
theorem sumN_one {F : Nat → A} {j : Nat} : ∀ {n : Nat}, j < n → (∀ i, i < n → i ≠ j → F i = R.zero) → sumN R F n = F j
  | 0, h, _ => by omega
  | n + 1, hj, h => by
    rw [sumN]
    by_cases c : j = n
    · subst c; have : sumN R F j = R.zero := by
        rw [sumN_congr R (G := fun _ => R.zero) fun i hi => h i (by omega) (by omega), sumN_zero]
      rw [this, R.add0]
    · rw [sumN_one (n := n) (by omega) fun i hi hne => h i (by omega) hne, h n (by omega) (by omega), R.add0']
theorem sumN_split (F : Nat → A) (a : Nat) : ∀ b : Nat, sumN R F (a + b) = R.add (sumN R F a) (sumN R (fun i => F (a + i)) b)
  | 0 => by rw [Nat.add_zero, sumN, R.add0']
  | b + 1 => by rw [← Nat.add_assoc, sumN, sumN, sumN_split F a b, R.addA]
theorem sumN_block (F : Nat → A) (P : Nat) : ∀ d : Nat, sumN R F (d * P) = sumN R (fun v => sumN R (fun m => F (v * P + m)) P) d
  | 0 => by rw [Nat.zero_mul]; rfl
  | d + 1 => by rw [Nat.add_mul, Nat.one_mul, sumN_split, sumN_block F P d, sumN]
def upd (a : Int → Int) (x v : Int) : Int → Int := fun y => if y = x then v else a y
theorem upd_at (a : Int → Int) (x v : Int) : upd a x v x = v := if_pos rfl
theorem upd_ne {a : Int → Int} {x v y : Int} (h : y ≠ x) : upd a x v y = a y := if_neg h
theorem upd_self (a : Int → Int) (x : Int) : upd a x (a x) = a := by
  funext y
  unfold upd
  split
  · next h => rw [h]
  · rfl
theorem upd_swap (a : Int → Int) {x y : Int} (h : x ≠ y) (v w : Int) : upd (upd a x v) y w = upd (upd a y w) x v := by
  funext z
  unfold upd
  by_cases h1 : z = y
  · subst h1; rw [if_pos rfl, if_neg (fun e => h e.symm), if_pos rfl]
  · rw [if_neg h1, if_neg h1]
variable (f : Int → Int)
def sumO : List Int → ((Int → Int) → A) → (Int → Int) → A
  | [], F, a => F a
  | x :: xs, F, a => sumN R (fun v => sumO xs F (upd a x v)) (f x).toNat
theorem sumO_congr {F G : (Int → Int) → A} : ∀ {xs : List Int} {a : Int → Int}, (∀ b : Int → Int, (∀ y, y ∉ xs → b y = a y) → (∀ y ∈ xs, 0 ≤ b y ∧ b y < f y) → F b = G b) → sumO R f xs F a = sumO R f xs G a
  | [], a, h => h a (fun _ _ => rfl) (fun y hy => by simp at hy)
  | x :: xs, a, h => by
    rw [sumO, sumO]; refine sumN_congr R fun v hv => sumO_congr fun b hb hr => ?_; refine h b (fun y hy => ?_) (fun y hy => ?_)
    · rw [hb y (fun e => hy (by simp [e])), upd_ne (fun e => hy (by simp [e]))]
    · by_cases c : y ∈ xs
      · exact hr y c
      · have e : y = x := (List.mem_cons.1 hy).resolve_right c; rw [hb y c, e, upd_at]
        omega
theorem sumO_append (F : (Int → Int) → A) (ys : List Int) : ∀ (xs : List Int) (a : Int → Int), sumO R f (xs ++ ys) F a = sumO R f xs (sumO R f ys F) a
  | [], _ => rfl
  | x :: xs, a => sumN_congr R fun v _ => sumO_append F ys xs (upd a x v)
theorem sumO_zero : ∀ (xs : List Int) (a : Int → Int), sumO R f xs (fun _ => R.zero) a = R.zero
  | [], _ => rfl
  | x :: xs, a => by
    rw [sumO, sumN_congr R (G := fun _ => R.zero) fun v _ => sumO_zero xs (upd a x v), sumN_zero]
/-- What does not look at the labels comes out of the sum. -/
theorem sumO_mul {F G : (Int → Int) → A} : ∀ {xs : List Int} {a : Int → Int}, (∀ x ∈ xs, ∀ b v, G (upd b x v) = G b) → sumO R f xs (fun b => R.mul (F b) (G b)) a = R.mul (sumO R f xs F a) (G a)
  | [], _, _ => rfl
  | x :: xs, a, h => by
    rw [sumO, sumO, sumN_mul]; refine sumN_congr R fun v _ => ?_; rw [sumO_mul (xs := xs) fun y hy => h y (by simp [hy]), h x (by simp)]
theorem sumO_perm {F : (Int → Int) → A} {xs ys : List Int} (h : xs.Perm ys) : ∀ a : Int → Int, sumO R f xs F a = sumO R f ys F a := by
  induction h with
  | nil => intro a; rfl
  | cons x _ ih => intro a; rw [sumO, sumO]; exact sumN_congr R fun v _ => ih _
  | swap x y l =>
    intro a
    by_cases c : x = y
    · rw [c]
    · simp only [sumO]; rw [sumN_swap]; exact sumN_congr R fun v _ => sumN_congr R fun w _ => by rw [upd_swap a c]
  | trans _ _ ih1 ih2 => intro a; rw [ih1, ih2]
/-- A sum over numbers, read as one over the digits. -/
theorem sumO_idx : ∀ {J : List Int} (_ : J.Nodup) (_ : ∀ x ∈ J, 1 ≤ f x) (G : List Int → A) (a : Int → Int), sumN R (fun (m : Nat) => G (idxL (J.map f) (m : Int))) (prodI (J.map f)).toNat = sumO R f J (fun b => G (J.map b)) a
  | [], _, _, G, a => by
    show R.add R.zero (G (idxL [] 0)) = G []
    rw [R.add0]; rfl
  | x :: J, hn, hf, G, a => by
    obtain ⟨hx, hn'⟩ := List.nodup_cons.1 hn; have hd : ∀ d ∈ J.map f, 1 ≤ d := fun d hd => by
      obtain ⟨y, hy, rfl⟩ := List.mem_map.1 hd; exact hf y (by simp [hy])
    have hP := prodI_one hd; have hfx := hf x (by simp); have e : (prodI ((x :: J).map f)).toNat = (f x).toNat * (prodI (J.map f)).toNat := by
      rw [List.map_cons, prodI_cons, Int.toNat_mul (by omega) (by omega)]
    rw [e, sumN_block, sumO]; refine sumN_congr R fun v hv => ?_; have e2 : ∀ b : Int → Int, (∀ y, y ∉ J → b y = upd a x v y) → (∀ y ∈ J, 0 ≤ b y ∧ b y < f y) → G ((x :: J).map b) = G ((v : Int) :: J.map b) := fun b hb _ => by
      rw [List.map_cons, hb x hx, upd_at]
    rw [sumO_congr R f e2, ← sumO_idx hn' (fun y hy => hf y (by simp [hy])) (fun l => G ((v : Int) :: l)) (upd a x v)]; refine sumN_congr R fun m hm => ?_; have hPm : ((prodI (J.map f)).toNat : Int) = prodI (J.map f) := by omega
    have e3 : (((v * (prodI (J.map f)).toNat + m : Nat)) : Int) = (v : Int) * prodI (J.map f) + m := by
      rw [Int.natCast_add, Int.natCast_mul, hPm]
    rw [e3, List.map_cons, idxL_cons, idxL_shift hd]
    congr 2
    rw [Int.add_comm, Int.add_mul_ediv_right _ _ (by omega), Int.ediv_eq_zero_of_lt (by omega) (by omega), Int.zero_add]; exact Int.emod_eq_of_lt (by omega) (by omega)
/-- Where the summand asks for some labels' values, they are not summed over. -/
theorem sumO_pick {K : List Int} {a0 : Int → Int} {G : (Int → Int) → A} [d : ∀ b : Int → Int, Decidable (∀ x ∈ K, b x = a0 x)] : ∀ {J : List Int} (_ : J.Nodup) {a : Int → Int}, (∀ x ∈ K, a x = a0 x) → (∀ x ∈ J, x ∈ K → 0 ≤ a0 x ∧ a0 x < f x) →
    sumO R f J (fun b => if ∀ x ∈ K, b x = a0 x then G b else R.zero) a = sumO R f (J.filter fun x => decide (x ∉ K)) G a
  | [], _, a, ha, _ => if_pos ha
  | x :: J, hn, a, ha, hr => by
    obtain ⟨hx, hn'⟩ := List.nodup_cons.1 hn
    by_cases c : x ∈ K
    · rw [List.filter_cons_of_neg (by simpa using c), sumO]; have hrx := hr x (by simp) c; rw [sumN_one R (j := (a0 x).toNat) (by omega) fun i _ hne => ?_]
      · rw [show (((a0 x).toNat : Nat) : Int) = a x by rw [ha x c]; omega, upd_self]; exact sumO_pick hn' ha fun y hy => hr y (by simp [hy])
      · rw [sumO_congr R f (G := fun _ => R.zero) fun b hb _ => if_neg fun h => ?_, sumO_zero]; have h1 := h x c; rw [hb x hx, upd_at] at h1
        omega
    · rw [List.filter_cons_of_pos (by simpa using c), sumO, sumO]; refine sumN_congr R fun v _ => sumO_pick hn' (fun y hy => ?_) fun y hy => hr y (by simp [hy]); have hne : y ≠ x := fun e => c (by rw [← e]; exact hy); rw [upd_ne hne, ha y hy]
end
end Go.Proofs.YtiefkcaplhnnmaaGreat
namespace Go.Proofs.YtiefkcaplhnnmaaGreat
set_option maxRecDepth 100000
open Go.RowKit
theorem Made.un {a b : PH} {la lb : List PH} (ma : Made a la) (mb : Made b lb) (hd : PDj a b) : Made (PUn a b) (la ++ lb) := by
  refine ⟨sepL_append.2 ⟨ma.sep, mb.sep, fun x hx y hy => (((hd.mono (ma.le x hx)).symm).mono (mb.le y hy)).symm⟩, fun x hx => ?_, fun k o e => ?_⟩
  · rcases List.mem_append.1 hx with hx | hx
    · exact (ma.le x hx).trans (PLe.un_l _ _)
    · exact (mb.le x hx).trans (PLe.un_r hd)
  · unfold PUn at e
    split at e
    · rename_i y hy
      cases e
      obtain ⟨x, hx, hxe⟩ := ma.dom k _ hy; exact ⟨x, by simp [hx], hxe⟩
    · obtain ⟨x, hx, hxe⟩ := mb.dom k _ e; exact ⟨x, by simp [hx], hxe⟩
/-- Slices that own their cells, all in one part. -/
def OwnH (xss : List (List Int)) (vs : List Value) (h : PH) : Prop := ∃ l, OwnL xss vs l ∧ Made h l
theorem OwnH.nil : OwnH [] [] emp := ⟨[], OwnL.nil, ⟨trivial, fun x hx => by simp at hx, fun k o e => by cases e⟩⟩
theorem OwnH.snoc {ts : List Ten} {t : Ten} {vs : List Value} {a b c : Value} {h h' : PH} (o : OwnH (flat ts) vs h) (r : TriO t a b c h') (hd : PDj h h') : OwnH (flat (ts ++ [t])) (vs ++ [a, b, c]) (PUn h h') := by
  obtain ⟨l, ol, m⟩ := o; obtain ⟨h1, h2, h3, r1, r2, r3, m'⟩ := r; refine ⟨l ++ [h1, h2, h3], ?_, m.un m' hd⟩; rw [flat_append]; exact ol.append (OwnL.three r1 r2 r3)
theorem ten_len {k p n : Int} {t : Ten} (h : tensorL k p n t.l t.d t.x) : t.l.length ≤ 12 ∧ t.d.length ≤ 12 ∧ t.x.length ≤ 17592186044416 := by
  have hax := tensor_axes h; have h1 := prodI_one fun d hd => (dims_mem (axes_dims hax) d hd).1; have := elt_fits h (i := 0) (by omega); exact ⟨hax.1, by have := hax.2.1; have := hax.1; omega, this.2⟩
theorem ct_i_copyTensor (t : Ten) (a b c : Value) (w : World) (r1 : IntsR t.l a (hp w)) (r2 : IntsR t.d b (hp w)) (r3 : IntsR t.x c (hp w)) (hl : t.l.length ≤ 12 ∧ t.d.length ≤ 12 ∧ t.x.length ≤ 17592186044416) :
    Calls Tryz.prog 79 [tenV a b c].toArray w (Ret w emp (TenT t)) := by
  refine calls_in Tryz.func79 rfl Tryz.ntmps79 rfl (Sat.start w) ?_; have hle0 := r1.le; have hle1 := r2.le; have hle2 := r3.le; refine wp_sc (wp_sq ?_); refine sq_x rfl (x_box rfl rfl) rfl ?_; rintro _ _ ⟨b1, rfl, rfl⟩; refine sq_x rfl (x_alloc ty_55 rfl) rfl ?_; rintro _ _ ⟨b2, rfl, rfl⟩; refine sq_end (qs_n (wp_sc (wp_rj 10 [(0, true), (1, true), (3, true), (4, true), (6, true), (7, true), (2, false), (5, false), (8, false), (9, true), (10, false)] mixed_ok (by kernel_rfl) (rj_v rfl rfl (v_fieldAddr fd_55_0 ty_27 (by decide) rfl) rfl (rj_v rfl rfl (v_loadB 1 ty_27 rfl rfl rfl) rfl (rj_v rfl rfl (v_fieldAddr fd_55_1 ty_27 (by decide) rfl) rfl (rj_v rfl rfl (v_loadB 1 ty_27 rfl rfl rfl) rfl (rj_v rfl rfl (v_fieldAddr fd_55_2 ty_27 (by decide) rfl) rfl (rj_v rfl rfl (v_loadB 1 ty_27 rfl rfl rfl) rfl ?_))))))))); refine rj_x rfl rfl (x_call rfl en_47 (fun w s => ct_i_copyInts _ _ w (r1.mono (s.get 2 rfl)) (by first | assumption | omega))) rfl ?_; rintro v5 h5 r5; refine rj_x rfl rfl (x_call rfl en_47 (fun w s => ct_i_copyInts _ _ w (r2.mono (s.get 3 rfl)) (by first | assumption | omega))) rfl ?_; rintro v8 h8 r8; refine rj_x rfl rfl (x_call rfl en_47 (fun w s => ct_i_copyInts _ _ w (r3.mono (s.get 4 rfl)) (by first | assumption | omega))) rfl ?_; rintro v11 h11 r11; refine rj_v rfl rfl (v_build [v5, v8, v11] rfl (by obtain ⟨_, _, rfl⟩ := r5.toR.sl; obtain ⟨_, _, rfl⟩ := r8.toR.sl; obtain ⟨_, _, rfl⟩ := r11.toR.sl; kernel_rfl)) rfl ?_; refine rj_m 3 rfl rfl rfl rfl (m_store 3 ty_55 rfl rfl rfl rfl (by simp [r5.toR.sl.one, r8.toR.sl.one, r11.toR.sl.one]) rfl (Nat.le_of_ble_eq_true rfl)) rfl ?_; rintro _ _ ⟨rfl, rfl⟩; refine rj_end (qs_n (wp_rt ?_)); refine qs_close [box b2 _ _, hp w] [h5, h8, h11] (fun _ s => s.pick [3, 5, 2, 1, 0] (by decide) rfl) (fun md => ?_); exact qs_retc 1 rfl ty_55 rfl rfl rfl (fin_t 0 (i := 2) rfl rfl rfl ⟨_, _, _, rfl, _, _, _, r5, r8, r11, md⟩)
set_option maxHeartbeats 2000000 in
theorem ct_i_copyNetwork (k p n : Int) (ts : List Ten) (op : List Int) (vt vo : Value) (w : World) (r : TensR ts vt (hp w)) (r' : IntsR op vo (hp w)) (hnet : netL k p n ts op) (hs : op.length ≤ 1048576) :
    Calls Tryz.prog 67 [netV k p n vt vo].toArray w (Ret w emp (NetT k p n ts op)) := by
  have h12 := hnet.2.1; refine calls_in Tryz.func67 rfl Tryz.ntmps67 rfl (Sat.start w) ?_; have hle0 := r.le; obtain ⟨cs_r, rr_r, hc_r⟩ := r.at; have hle1 := r'.le; refine wp_sc (wp_sq ?_); refine sq_x rfl (x_box rfl rfl) rfl ?_; rintro _ _ ⟨b1, rfl, rfl⟩; refine sq_x rfl (x_alloc ty_29 rfl) rfl ?_; rintro _ _ ⟨b2, rfl, rfl⟩; refine sq_end (qs_n (wp_sc ?_)); refine wp_ra (σ := Nat × PH × Value) 7 (fun z_ => IntsO op z_.2.2 z_.2.1) (fun z_ => [(1, .pointer (some ⟨b1, 0, none⟩)), (2, .pointer (some ⟨b2, 0, none⟩)), (3, .pointer (some ⟨z_.1, 0, none⟩))]) (fun z_ => [box z_.1 [num k, num p, num n, .slice none 0 0, z_.2.2] 29, z_.2.1, box b2 [num 0, num 0, num 0, .slice none 0 0, .slice none 0 0] 29, box b1 [num k, num p, num n, vt, vo] 29, hp w]) mixed_ok (by kernel_rfl) ?_ ?_
  · refine ra_v (i := 0) (by kernel_rfl) rfl rfl (v_fieldAddr fd_29_0 ty_24 (by decide) rfl) rfl (ra_v (i := 1) (by kernel_rfl) rfl rfl (v_loadNB 1 ty_24 rfl rfl rfl rfl) rfl (ra_v (i := 2) (by kernel_rfl) rfl rfl (v_fieldAddr fd_29_2 ty_27 (by decide) rfl) rfl (ra_v (i := 3) (by kernel_rfl) rfl rfl (v_loadB 1 ty_27 rfl rfl rfl) rfl ?_))); refine ra_2 (i := 4) (j := 6) (by kernel_rfl) ?_ ?_
    · refine ro_x rfl rfl (x_call rfl en_47 (fun w s => ct_i_copyInts _ _ w (r'.mono (s.get 2 rfl)) (by first | assumption | omega))) rfl ?_; rintro v10 h10 r10; refine ra_rj [(5, true), (6, false), (7, false)] (by kernel_rfl) rfl ?_; refine rj_v rfl rfl (v_build [num k, num p, num n, .slice none 0 0, v10] rfl (by obtain ⟨_, _, rfl⟩ := r10.toR.sl; kernel_rfl)) rfl ?_; refine rj_x rfl rfl (x_alloc ty_29 rfl) rfl ?_; rintro _ _ ⟨b3, rfl, rfl⟩; refine rj_m 0 rfl rfl rfl rfl (m_store 0 ty_29 rfl rfl rfl rfl (by simp [one_int, one_sl, r10.toR.sl.one]) rfl (Nat.le_of_ble_eq_true rfl)) rfl ?_; rintro _ _ ⟨rfl, rfl⟩; refine rj_end ?_; exact qs_mid (b3, h10, v10) (r10) ⟨rfl, rfl, rfl, trivial⟩ (fun _ s => s.pick [0, 1, 2, 3, 4] (by decide) rfl)
    · refine ro_x rfl rfl (x_alloc ty_29 rfl) rfl ?_; rintro _ _ ⟨b3, rfl, rfl⟩; refine ra_rj [(4, false), (5, true), (7, false)] (by kernel_rfl) rfl ?_; refine rj_x rfl rfl (x_call rfl en_47 (fun w s => ct_i_copyInts _ _ w (r'.mono (s.get 3 rfl)) (by first | assumption | omega))) rfl ?_; rintro v10 h10 r10; refine rj_v rfl rfl (v_build [num k, num p, num n, .slice none 0 0, v10] rfl (by obtain ⟨_, _, rfl⟩ := r10.toR.sl; kernel_rfl)) rfl ?_; refine rj_m 1 rfl rfl rfl rfl (m_store 1 ty_29 rfl rfl rfl rfl (by simp [one_int, one_sl, r10.toR.sl.one]) rfl (Nat.le_of_ble_eq_true rfl)) rfl ?_; rintro _ _ ⟨rfl, rfl⟩; refine rj_end ?_; exact qs_mid (b3, h10, v10) (r10) ⟨rfl, rfl, rfl, trivial⟩ (fun _ s => s.pick [1, 0, 2, 3, 4] (by decide) rfl)
  · rintro ⟨b3, h10, v10⟩ r10; dsimp only at r10 ⊢; refine qs_n (wp_sc (wp_sc (wp_sq (sq_v rfl (v_fieldAddr fd_29_1 ty_26 (by decide) rfl) rfl (sq_v rfl (v_loadB 3 ty_26 rfl rfl rfl) rfl (sq_v rfl (v_len Tryz.underlying26 rfl r.sl) rfl (sq_v rfl (v_move rfl) rfl (sq_end (qs_n (wp_bl ?_)))))))))); refine wp_lp (σ := Nat × Value × PH × (List Value) × PH) (fun z_ => [(2, .pointer (some ⟨b2, 0, none⟩)), (3, .pointer (some ⟨b3, 0, none⟩)), (13, vt), (14, num ts.length), (15, num z_.1)]) (fun z_ => [z_.2.2.2.2, z_.2.2.1, box b3 [num k, num p, num n, z_.2.1, v10] 29, h10, box b2 [num 0, num 0, num 0, .slice none 0 0, .slice none 0 0] 29, box b1 [num k, num p, num n, vt, vo] 29, hp w]) (fun z_ => z_.1 ≤ ts.length ∧ OwnH (flat (ts.take z_.1)) z_.2.2.2.1 z_.2.2.2.2 ∧ RowO (55) z_.2.2.2.1 z_.1 3 z_.2.1 z_.2.2.1) (fun z_ => ts.length - z_.1) (0, .slice none 0 0, emp, [], emp) (⟨by (try dsimp only); omega, OwnH.nil, RowO.nil⟩) ⟨rfl, rfl, rfl, rfl, (by first | rfl | exact ksub rfl (by first | omega | (simp; done) | (simp; omega))), trivial⟩ (fun _ s => (emp_sat (emp_sat s))) ?_; rintro ⟨i, lx, ha, cs, hl⟩ ⟨hi, hlv, rr⟩; dsimp only at hi hlv rr ⊢; refine wp_sc (wp_sq (sq_v rfl (v_lss rfl rfl) rfl (sq_end (qs_n (wp_sc ?_))))); refine wp_cd rfl (fun c16 => ?_) (fun c16 => ?_)
    · refine wp_sk (qs_n (wp_sc (wp_bl (wp_sc (wp_sq ?_))))); obtain ⟨t17, a17, b17, c17, ht17, hcs17, rl17, rd17, rx17⟩ := hc_r (i) (by first | omega | (rw [List.length_set]; omega)); refine sq_v rfl (v_indexAddr Tryz.underlying26 ty_55 rfl rfl rr_r (by decide) (by omega) (by omega)) rfl ?_; refine sq_v rfl (v_loadNE 6 ty_55 rfl rfl rr_r (by have := rr_r.1; omega) rfl hcs17) rfl ?_; refine sq_x rfl (x_alloc ty_55 rfl) rfl ?_; rintro _ _ ⟨b5, rfl, rfl⟩; refine sq_m 0 rfl rfl (m_store 0 ty_55 rfl rfl rfl rfl (by simp [rl17.sl.one, rd17.sl.one, rx17.sl.one]) rfl (Nat.le_of_ble_eq_true rfl)) rfl ?_; rintro _ _ ⟨rfl, rfl⟩; refine sq_end ?_; have hl17 := ten_len (hnet.2.2.1 t17 (List.mem_of_getElem? ht17)); refine qs_n (wp_rj 5 [(0, true), (1, true), (2, true), (3, false), (4, false), (5, false), (6, false), (7, false)] mixed_ok (by kernel_rfl) (rj_v rfl rfl (v_fieldAddr fd_29_1 ty_26 (by decide) rfl) rfl (rj_v rfl rfl (v_loadB 3 ty_26 rfl rfl rfl) rfl (rj_v rfl rfl (v_loadNB 0 ty_55 rfl rfl rfl rfl) rfl ?_)))); refine rj_x rfl rfl (x_call rfl en_79 (fun w s => ct_i_copyTensor _ _ _ _ w (rl17.mono (s.get 7 rfl)) (rd17.mono (s.get 7 rfl)) (rx17.mono (s.get 7 rfl)) (by first | assumption | omega))) rfl ?_; rintro _ h22 ⟨va22, vb22, vc22, rfl, o22⟩; refine rj_x rfl rfl (x_buildS [.agg [va22, vb22, vc22].toArray] Tryz.underlying26 ty_55 (by decide) rfl rfl rfl (by decide) (by decide) (by intro v hv; simp at hv; subst hv; rfl)) rfl ?_; intro v23 h23 (r23 : RowO 55 [va22, vb22, vc22] 1 3 v23 h23); refine rj_m 4 rfl rfl rfl rfl (m_append 4 0 Tryz.underlying26 ty_55 rfl rfl (by decide) rfl rfl rfl rr rfl r23.toR (by simp [o22.toR.1.sl.one, o22.toR.2.1.sl.one, o22.toR.2.2.sl.one]) (by unfold maxLen; omega) (by omega)) rfl ?_; intro v24 h_r24 (r24 : RowO 55 (cs ++ [va22, vb22, vc22]) (i + 1) 3 v24 h_r24); refine rj_fv rfl rfl (v_fieldAddr fd_29_1 ty_26 (by decide) rfl) rfl ?_; refine rj_m 5 rfl rfl rfl rfl (m_store1 5 ty_26 rfl rfl r24.toR.sl.one rfl (Nat.le_of_ble_eq_true rfl)) rfl ?_; rintro _ _ ⟨rfl, rfl⟩; refine rj_end (qs_bn (qs_n (wp_sq ?_))); refine sq_v rfl (v_add rfl rfl ((by unfold I64; omega))) rfl ?_; refine sq_v rfl (v_move rfl) rfl (sq_end ?_); refine qs_dj 3 1 rfl rfl rfl (fun hdj => ?_); exact qs_bk (i + 1, v24, h_r24, cs ++ [va22, vb22, vc22], PUn hl h22) ⟨by (try dsimp only); omega, by (try dsimp only); rw [take_ten ht17]; exact hlv.snoc o22 hdj, r24⟩ (by simp only; omega) ⟨rfl, rfl, rfl, rfl, (by first | rfl | exact ksub rfl (by first | omega | (simp; done) | (simp; omega))), trivial⟩ (fun _ s => Sat.merge (s.pick [3, 1, 4, 5, 6, 7, 8, 9] (by decide) rfl))
    · refine wp_ex (qs_x (qs_x (qs_bx (qs_n (wp_sc (wp_sq (sq_v rfl (v_loadNB 2 ty_29 rfl rfl rfl rfl) rfl ?_))))))); refine sq_m 4 rfl rfl (m_store 4 ty_29 rfl rfl rfl rfl (by simp [one_int, rr.toR.sl.one, r10.toR.sl.one]) rfl (Nat.le_of_ble_eq_true rfl)) rfl ?_; rintro _ _ ⟨rfl, rfl⟩; refine sq_end (qs_n (wp_rt ?_)); have ei : i = ts.length := by omega
      subst ei; rw [List.take_length] at hlv; obtain ⟨l, ol, md⟩ := hlv; refine qs_close [box b2 _ _, hp w] (ha :: h10 :: l) (fun _ s => Sat.open (A := [box b2 [num k, num p, num n, lx, v10] 29, hp w, ha, h10]) md (s.pick [0, 4, 6, 1, 3] (by decide) rfl)) (fun md2 => ?_); exact qs_retc 1 rfl ty_29 rfl rfl rfl (fin_t 0 (i := 2) rfl rfl rfl ⟨_, _, rfl, cs, ha, h10, l, rr, r10, ol, md2⟩)
end Go.Proofs.YtiefkcaplhnnmaaGreat
namespace Go.Proofs.YtiefkcaplhnnmaaGreat
set_option maxRecDepth 100000
open Go.RowKit
theorem TriO.none : TriO ⟨[], [], []⟩ (.slice none 0 0) (.slice none 0 0) (.slice none 0 0) emp :=
  ⟨emp, emp, emp, IntsO.nil, IntsO.nil, IntsO.nil, ⟨by simp [sepL, PDj.emp], fun x hx => by simp at hx; subst hx; exact PLe.emp _, fun k o e => by cases e⟩⟩
def fitP (k p n : Int) (t u : Ten) : Prop := tensorL k p n t.l t.d t.x ∧ tensorL k p n u.l u.d u.x ∧ setL t.l u.l ∧ permD u t.l = t.d
def FitR (k p n : Int) (t u : Ten) (x : Value) (h : PH) : Prop := ∃ T a b c bb, x = .tuple [tenV a b c, .bool bb].toArray ∧ TriO T a b c h ∧ (bb = true ↔ fitP k p n t u) ∧ (bb = true → T = permT k n u t.l)
theorem FitR.no {k p n : Int} {t u : Ten} (h : ¬ fitP k p n t u) : FitR k p n t u (.tuple [tenV (.slice none 0 0) (.slice none 0 0) (.slice none 0 0), .bool false].toArray) emp :=
  ⟨⟨[], [], []⟩, _, _, _, false, rfl, TriO.none, ⟨fun e => (by cases e), fun e => absurd e h⟩, fun e => (by cases e)⟩
end Go.Proofs.YtiefkcaplhnnmaaGreat
namespace Go.Proofs.YtiefkcaplhnnmaaGreat
set_option maxRecDepth 100000
open Go.RowKit
theorem ct_i_keptOnly (ls ks : List Int) (v u : Value) (w : World) (r : IntsR ls v (hp w)) (r' : IntsR ks u (hp w)) (hs : ls.length ≤ 1000000) :
    Calls Tryz.prog 108 [v, u].toArray w (Ret w emp (IntsO (ls.filter fun x => decide (x ∈ ks)))) := by
  refine calls_in Tryz.func108 rfl Tryz.ntmps108 rfl (Sat.start w) ?_; have hle0 := r.le; have hle1 := r'.le; refine wp_sc (wp_sq (sq_v rfl (v_assign rfl) rfl (sq_end (qs_n (wp_sc (wp_sq (sq_v rfl (v_assign rfl) rfl (sq_end (qs_n (wp_sc (wp_sc (wp_sq (sq_v rfl (v_move rfl) rfl (sq_v rfl (v_len Tryz.underlying27 rfl r.sl) rfl (sq_v rfl (v_move rfl) rfl (sq_end (qs_n (wp_bl ?_)))))))))))))))))); refine wp_lp (σ := Nat × Value × PH) (fun z_ => [(1, u), (4, .slice none 0 0), (5, z_.2.1), (8, v), (9, num ls.length), (10, num z_.1)]) (fun z_ => [z_.2.2, hp w]) (fun z_ => z_.1 ≤ ls.length ∧ IntsO ((ls.take z_.1).filter fun x => decide (x ∈ ks)) z_.2.1 z_.2.2) (fun z_ => ls.length - z_.1) (0, .slice none 0 0, emp) (⟨by (try dsimp only); omega, IntsO.nil⟩) ⟨rfl, rfl, (by first | rfl | exact ksub rfl (by first | omega | (simp; done) | (simp; omega))), rfl, rfl, (by first | rfl | exact ksub rfl (by first | omega | (simp; done) | (simp; omega))), trivial⟩ (fun _ s => (emp_sat s)) ?_; rintro ⟨i, lv, lh⟩ ⟨hi, q⟩; dsimp only at hi q ⊢; have hle_q := q.toR.le; have hfl := filter_take_len ls (fun x => decide (x ∈ ks)) i; refine wp_sc (wp_sq (sq_v rfl (v_lss rfl rfl) rfl (sq_end (qs_n (wp_sc ?_))))); refine wp_cd rfl (fun c11 => ?_) (fun c11 => ?_)
  · refine wp_sk (qs_n (wp_sc (wp_bl (wp_sc (wp_sq ?_))))); refine sq_v rfl (v_idxI Tryz.underlying27 ty_3 rfl rfl r (by first | omega | (simp; omega) | (simp only [List.length_append, List.length_cons, List.length_nil]; omega) | (rw [List.length_set]; omega)) (by first | omega | (simp; omega) | (simp only [List.length_append, List.length_cons, List.length_nil]; omega) | (rw [List.length_set]; omega))) rfl ?_; refine sq_v rfl (v_loadI (k := i) 1 ty_3 rfl rfl r (by first | omega | (simp; omega) | (simp only [List.length_append, List.length_cons, List.length_nil]; omega) | (rw [List.length_set]; omega))) rfl ?_; refine sq_v rfl (v_assign rfl) rfl (sq_end (qs_n (wp_sc (wp_sq (sq_v rfl (v_move rfl) rfl (sq_v rfl (v_move rfl) rfl (sq_u rfl (x_callv rfl en_64 (fun w s => ct_i_hasInt _ _ _ w (r'.mono (s.get 1 rfl)))) rfl (sq_end (qs_n ?_))))))))); refine wp_cd rfl (fun c16 => ?_) (fun c16 => ?_)
    · refine wp_sq (sq_v rfl (v_move rfl) rfl (sq_v rfl (v_move rfl) rfl ?_)); refine sq_x rfl (x_buildS [num (ls.getD i 0)] Tryz.underlying27 ty_3 (by decide) rfl rfl rfl (by decide) (by decide) (by intro v hv; simp at hv; rcases hv with rfl <;> rfl)) rfl ?_; intro v19 h19 (r19 : IntsO [ls.getD i 0] v19 h19); refine sq_m 1 rfl rfl (m_appI 1 0 Tryz.underlying27 ty_3 rfl rfl rfl rfl q rfl r19.toR (by first | omega | (simp; omega) | (simp only [List.length_append, List.length_cons, List.length_nil]; omega) | (rw [List.length_set]; omega))) rfl ?_; intro v20 h_r20 r20; refine sq_v rfl (v_assign rfl) rfl (sq_end (qs_bn (qs_n (wp_sq ?_)))); refine sq_v rfl (v_add rfl rfl ((by unfold I64; omega))) rfl ?_; refine sq_v rfl (v_move rfl) rfl (sq_end ?_); exact qs_bk (i + 1, v20, h_r20) ⟨by (try dsimp only); omega, by (try dsimp only); rw [filter_yes (by omega) (by simpa using c16)]; exact r20⟩ (by simp only; omega) ⟨rfl, rfl, (by first | rfl | exact ksub rfl (by first | omega | (simp; done) | (simp; omega))), rfl, rfl, (by first | rfl | exact ksub rfl (by first | omega | (simp; done) | (simp; omega))), trivial⟩ (fun _ s => s.pick [1, 2] (by decide) rfl)
    · refine wp_sk (qs_bn (qs_n (wp_sq ?_))); refine sq_v rfl (v_add rfl rfl ((by unfold I64; omega))) rfl ?_; refine sq_v rfl (v_move rfl) rfl (sq_end ?_); exact qs_bk (i + 1, lv, lh) ⟨by (try dsimp only); omega, by (try dsimp only); rw [filter_no (by omega) (by simpa using c16)]; exact q⟩ (by simp only; omega) ⟨rfl, rfl, (by first | rfl | exact ksub rfl (by first | omega | (simp; done) | (simp; omega))), rfl, rfl, (by first | rfl | exact ksub rfl (by first | omega | (simp; done) | (simp; omega))), trivial⟩ (fun _ s => s)
  · refine wp_ex (qs_x (qs_x (qs_bx (qs_n (wp_sc (wp_sq (sq_v rfl (v_move rfl) rfl (sq_v rfl (v_assign rfl) rfl (sq_end (qs_n (wp_rt ?_))))))))))); exact qs_ret1 rfl rfl (fin_t 0 (i := 1) rfl rfl rfl (by rw [List.take_of_length_le (by omega)] at q; exact q))
theorem ct_i_scalarOne (k p n : Int) (w : World) (h : ringL k p n) : Calls Tryz.prog 70 [ringV k p n].toArray w (Ret w emp (TenT ⟨[], [], oneL k p n⟩)) := by
  refine calls_in Tryz.func70 rfl Tryz.ntmps70 rfl (Sat.start w) (wp_sc (wp_sq ?_)); refine sq_x rfl (x_box rfl rfl) rfl ?_; rintro _ _ ⟨b1, rfl, rfl⟩; refine sq_x rfl (x_alloc ty_55 rfl) rfl ?_; rintro _ _ ⟨b2, rfl, rfl⟩; refine sq_end (qs_n (wp_sc (wp_sq (sq_v rfl (v_loadNB 1 ty_24 rfl rfl rfl rfl) rfl ?_)))); refine sq_x rfl (x_call rfl en_62 (fun w s => ct_i_rawOne _ _ _ w (by first | assumption | omega))) rfl ?_; rintro v4 h4 r4; refine sq_v rfl (v_build [.slice none 0 0, .slice none 0 0, v4] rfl (by obtain ⟨_, _, rfl⟩ := r4.toR.sl; kernel_rfl)) rfl ?_; refine sq_m 1 rfl rfl (m_store 1 ty_55 rfl rfl rfl rfl (by simp [one_sl, r4.toR.sl.one]) rfl (Nat.le_of_ble_eq_true rfl)) rfl ?_; rintro _ _ ⟨rfl, rfl⟩; refine sq_end (qs_n (wp_rt ?_)); refine qs_close [box b2 _ _, hp w] [emp, emp, h4] (fun _ s => by have s1 := emp_sat (emp_sat (s.pick (HS' := [h4, box b2 [.slice none 0 0, .slice none 0 0, v4] 55, hp w]) [0, 1, 3] (by decide) rfl)); exact s1.pick [3, 4, 0, 1, 2] (by decide) rfl) (fun md => ?_); exact qs_retc 1 rfl ty_55 rfl rfl rfl (fin_t 0 (i := 2) rfl rfl rfl ⟨_, _, _, rfl, _, _, _, IntsO.nil, IntsO.nil, r4, md⟩)
end Go.Proofs.YtiefkcaplhnnmaaGreat
namespace Go.Proofs.YtiefkcaplhnnmaaGreat
set_option maxRecDepth 100000
open Go.RowKit
def dimJ (t u : Ten) (x : Int) : Int := if x ∈ t.l then t.d.getD (findI t.l x).toNat 0 else u.d.getD (findI u.l x).toNat 0
theorem map_find {ls ds : List Int} (hn : ls.Nodup) (hl : ls.length = ds.length) : ds = ls.map fun x => ds.getD (findI ls x).toNat 0 := by
  apply ext_getD
  · simp [hl]
  · intro j hj; rw [map_getD (by omega), find_at' hn (by omega)]
    simp
theorem dimJ_l {t u : Ten} (hn : t.l.Nodup) (hl : t.l.length = t.d.length) : t.d = t.l.map (dimJ t u) := by
  conv => lhs; rw [map_find hn hl]
  exact List.map_congr_left fun x hx => by simp [dimJ, hx]
theorem dimJ_r {t u : Ten} (hn : u.l.Nodup) (hl : u.l.length = u.d.length) (hm : ¬ mism t u) : u.d = u.l.map (dimJ t u) := by
  conv => lhs; rw [map_find hn hl]
  refine List.map_congr_left fun x hx => ?_
  by_cases h : x ∈ t.l
  · have hg := findI_get hx; have : ¬ (t.d.getD (findI t.l x).toNat 0 ≠ u.d.getD (findI u.l x).toNat 0) := fun hne => hm ⟨(findI u.l x).toNat, hg.1, by rw [hg.2]; exact ⟨h, hne⟩⟩; simp only [dimJ, h, if_true]
    omega
  · simp [dimJ, h]
/-- Two tensors that can be joined. -/
structure PairOK (k p n : Int) (t u : Ten) (f : Int → Int) : Prop where
  tt : tensorL k p n t.l t.d t.x
  uu : tensorL k p n u.l u.d u.x
  ht : t.d = t.l.map f
  hu : u.d = u.l.map f
  work : prodI ((joinI t.l u.l).map f) ≤ 65536
theorem ten_axes {k p n : Int} {ls ds xs : List Int} (h : tensorL k p n ls ds xs) : axesL ls ds := (sizeI_ge.1 h.2.1).1
theorem ten_prod {k p n : Int} {ls ds xs : List Int} (h : tensorL k p n ls ds xs) : prodI ds ≤ 4096 := (sizeI_ge.1 h.2.1).2
theorem PairOK.nd {k p n : Int} {t u : Ten} {f : Int → Int} (h : PairOK k p n t u f) : (joinI t.l u.l).Nodup := joinI_nodup (axes_nodup (ten_axes h.tt)) (axes_nodup (ten_axes h.uu))
theorem PairOK.dim {k p n : Int} {t u : Ten} {f : Int → Int} (h : PairOK k p n t u f) : ∀ x ∈ joinI t.l u.l, 1 ≤ f x ∧ f x ≤ 8 := fun x hx => by
  rcases mem_joinI.1 hx with hx | hx
  · exact dims_mem (axes_dims (ten_axes h.tt)) _ (by rw [h.ht]; exact List.mem_map_of_mem hx)
  · exact dims_mem (axes_dims (ten_axes h.uu)) _ (by rw [h.hu]; exact List.mem_map_of_mem hx)
theorem map_dim {f : Int → Int} {L ls : List Int} (hf : ∀ x ∈ L, 1 ≤ f x ∧ f x ≤ 8) (hs : ∀ l ∈ ls, l ∈ L) : ∀ d ∈ ls.map f, 1 ≤ d ∧ d ≤ 8 := fun d hd => by
  obtain ⟨x, hx, rfl⟩ := List.mem_map.1 hd; exact hf x (hs x hx)
def atI (f : Int → Int) (L ls : List Int) (m : Int) : Int := dotL (stepsL L ls (ls.map f)) (idxL (L.map f) m)
theorem at_in {f : Int → Int} {L ls : List Int} (hn : L.Nodup) (hl : ls.Nodup) (hs : ∀ l ∈ ls, l ∈ L) (hf : ∀ x ∈ L, 1 ≤ f x ∧ f x ≤ 8) (m : Int) : 0 ≤ atI f L ls m ∧ atI f L ls m < prodI (ls.map f) := by
  have hd : ∀ d ∈ L.map f, 1 ≤ d := fun d hd => (map_dim hf (fun _ h => h) d hd).1; have hd2 : ∀ d ∈ ls.map f, 1 ≤ d := fun d hd => (map_dim hf hs d hd).1; have hi := idxL_in hd m; have ho := offL_in (ds := ls.map f) (is := idxAt L (idxL (L.map f) m) ls) hd2 ⟨by simp [idxAt], fun j hj => by
    have hj' : j < ls.length := by simpa using hj
    have hm := hs _ (mem_getD hj'); have hg := findI_get hm; have := hi.2 (findI L (ls.getD j 0)).toNat (by simpa using hg.1); rw [map_getD hg.1, hg.2] at this; rw [idxAt, map_getD hj', map_getD hj']; exact this⟩
  have e : atI f L ls m = offL (ls.map f) (idxAt L (idxL (L.map f) m) ls) := by
    unfold atI dotL; rw [stepsL_len]; exact dot_off hn (by simp) hl hs
  omega
def AllR (k p n P : Int) (xs : List Int) : Prop := (xs.length : Int) = P * widthI k n ∧ ∀ a ∈ xs, 0 ≤ a ∧ a ≤ topI k p n
theorem mul_room {P w i : Int} (hw : 0 ≤ w) (h0 : 0 ≤ i) (h1 : i < P) : 0 ≤ i * w ∧ i * w + w ≤ P * w := by
  have h2 := Int.mul_le_mul_of_nonneg_right (show i + 1 ≤ P by omega) hw; rw [Int.add_mul, Int.one_mul] at h2; exact ⟨Int.mul_nonneg h0 hw, h2⟩
theorem AllR.el {k p n P : Int} {xs : List Int} (h : AllR k p n P xs) (hr : ringL k p n) {i : Int} (h0 : 0 ≤ i) (h1 : i < P) : InR k p n (elt xs (widthI k n) i) := by
  have hw := width_range hr; have hm := mul_room (show 0 ≤ widthI k n by omega) h0 h1; have hl := h.1; refine ⟨?_, fun a ha => h.2 a (elt_mem ha)⟩; simp only [elt, List.length_take, List.length_drop]
  omega
theorem AllR.put {k p n P : Int} {xs ys : List Int} (h : AllR k p n P xs) (hr : ringL k p n) {i : Int} (h0 : 0 ≤ i) (h1 : i < P) (hy : InR k p n ys) : AllR k p n P (putL xs (i * widthI k n).toNat ys) := by
  have hw := width_range hr; have hm := mul_room (show 0 ≤ widthI k n by omega) h0 h1; have hl := h.1; have hyl := hy.1; refine ⟨by rw [putL_len (by omega)]; exact hl, fun a ha => ?_⟩; simp only [putL, List.mem_append] at ha
  rcases ha with (ha | ha) | ha
  · exact h.2 a (List.mem_of_mem_take ha)
  · exact hy.2 a ha
  · exact h.2 a (List.mem_of_mem_drop ha)
theorem flat_rep_len (z : List Int) : ∀ m : Nat, ((List.replicate m z).flatten).length = m * z.length
  | 0 => by simp
  | m + 1 => by rw [List.replicate_succ, List.flatten_cons, List.length_append, flat_rep_len z m, Nat.add_mul, Nat.one_mul]; omega
theorem flat_rep_succ (z : List Int) (m : Nat) : (List.replicate (m + 1) z).flatten = (List.replicate m z).flatten ++ z := by
  rw [List.replicate_succ', List.flatten_append]; simp
theorem zeroL_in {k p n : Int} (h : ringL k p n) : InR k p n (zeroL k p n) := by
  have ht := top_range h; refine ⟨zeroL_len k p n, fun a ha => ?_⟩
  unfold zeroL at ha
  split at ha
  · rename_i h4
    have := top_cap h (.inr (.inl h4))
    simp at ha; omega
  · have := List.eq_of_mem_replicate ha; omega
theorem AllR.zero {k p n P : Int} (hr : ringL k p n) (hP : 0 ≤ P) : AllR k p n P (List.replicate P.toNat (zeroL k p n)).flatten := by
  have hw := width_range hr; have hz := zeroL_in hr; refine ⟨?_, fun a ha => ?_⟩
  · rw [flat_rep_len, hz.1, Int.natCast_mul]; rw [show ((P.toNat : Nat) : Int) = P by omega, show (((widthI k n).toNat : Nat) : Int) = widthI k n by omega]
  · obtain ⟨l, hl, ha⟩ := List.mem_flatten.1 ha; rw [List.eq_of_mem_replicate hl] at ha; exact hz.2 a ha
noncomputable def pairX (k p n : Int) (f : Int → Int) (t u : Ten) (K : List Int) : Nat → List Int
  | 0 => (List.replicate (prodI (K.map f)).toNat (zeroL k p n)).flatten
  | m + 1 => putL (pairX k p n f t u K m) (atI f (joinI t.l u.l) K m * widthI k n).toNat
      (addL k p (elt (pairX k p n f t u K m) (widthI k n) (atI f (joinI t.l u.l) K m))
        (mulL k p n (elt t.x (widthI k n) (atI f (joinI t.l u.l) t.l m)) (elt u.x (widthI k n) (atI f (joinI t.l u.l) u.l m))))
noncomputable def pairT (k p n : Int) (f : Int → Int) (t u : Ten) (K : List Int) : Ten := ⟨K, K.map f, pairX k p n f t u K (prodI ((joinI t.l u.l).map f)).toNat⟩
structure KeepOK (t u : Ten) (f : Int → Int) (K : List Int) : Prop where
  sub : ∀ l ∈ K, l ∈ joinI t.l u.l
  nd : K.Nodup
  small : prodI (K.map f) ≤ 4096
section
variable {k p n : Int} {t u : Ten} {f : Int → Int} {K : List Int} (h : PairOK k p n t u f) (hk : KeepOK t u f K)
include h hk
theorem PairOK.at_k (m : Int) : 0 ≤ atI f (joinI t.l u.l) K m ∧ atI f (joinI t.l u.l) K m < prodI (K.map f) := at_in h.nd hk.nd hk.sub h.dim m
theorem PairOK.pos_k : 1 ≤ prodI (K.map f) := prodI_one fun d hd => (map_dim h.dim hk.sub d hd).1
omit hk in
theorem PairOK.at_t (m : Int) : 0 ≤ atI f (joinI t.l u.l) t.l m ∧ atI f (joinI t.l u.l) t.l m < prodI t.d := by
  have := at_in h.nd (axes_nodup (ten_axes h.tt)) (fun l hl => mem_joinI.2 (.inl hl)) h.dim m
  rwa [← h.ht] at this
omit hk in
theorem PairOK.at_u (m : Int) : 0 ≤ atI f (joinI t.l u.l) u.l m ∧ atI f (joinI t.l u.l) u.l m < prodI u.d := by
  have := at_in h.nd (axes_nodup (ten_axes h.uu)) (fun l hl => mem_joinI.2 (.inr hl)) h.dim m
  rwa [← h.hu] at this
omit hk in
theorem PairOK.el_t (m : Int) : InR k p n (elt t.x (widthI k n) (atI f (joinI t.l u.l) t.l m)) := elt_inR h.tt (h.at_t m).1 (h.at_t m).2
omit hk in
theorem PairOK.el_u (m : Int) : InR k p n (elt u.x (widthI k n) (atI f (joinI t.l u.l) u.l m)) := elt_inR h.uu (h.at_u m).1 (h.at_u m).2
theorem PairOK.all : ∀ m : Nat, AllR k p n (prodI (K.map f)) (pairX k p n f t u K m)
  | 0 => AllR.zero h.tt.1 (by have := h.pos_k hk; omega)
  | m + 1 => (PairOK.all m).put h.tt.1 (h.at_k hk m).1 (h.at_k hk m).2 (addL_in h.tt.1 ((PairOK.all m).el h.tt.1 (h.at_k hk m).1 (h.at_k hk m).2) (mulL_in h.tt.1 (h.el_t m) (h.el_u m)))
theorem PairOK.small (m : Nat) : (pairX k p n f t u K m).length ≤ 24576 := by
  have hw := width_range h.tt.1; have := (h.all hk m).1; have h3 : prodI (K.map f) * widthI k n ≤ 4096 * 6 := Int.mul_le_mul hk.small hw.2 (by omega) (by omega)
  omega
theorem PairOK.fits (m : Nat) : atI f (joinI t.l u.l) K m * widthI k n + widthI k n ≤ (pairX k p n f t u K m).length := by
  have hw := width_range h.tt.1; have := (h.all hk m).1; have := (mul_room (show 0 ≤ widthI k n by omega) (h.at_k hk m).1 (h.at_k hk m).2).2
  omega
end
end Go.Proofs.YtiefkcaplhnnmaaGreat
namespace Go.Proofs.YtiefkcaplhnnmaaGreat
set_option maxRecDepth 100000
open Go.RowKit
def differ (t u : Ten) (x : Int) : Prop := (x ∈ t.l ∧ x ∈ u.l) ∧ t.d.getD (findI t.l x).toNat 0 ≠ u.d.getD (findI u.l x).toNat 0
theorem mism_of {t u : Ten} {x : Int} (h : differ t u x) : mism t u := by
  have hg := findI_get h.1.2; exact ⟨(findI u.l x).toNat, hg.1, by rw [hg.2]; exact h.1.1, by rw [hg.2]; exact h.2⟩
theorem mism_none {t u : Ten} (hn : u.l.Nodup) (h : ∀ j, j < (joinI t.l u.l).length → ¬ differ t u ((joinI t.l u.l).getD j 0)) : ¬ mism t u := by
  rintro ⟨i, hi, hm, hne⟩; have hu := mem_getD hi; obtain ⟨j, hj, e⟩ := getD_of_mem (mem_joinI.2 (.inl hm) : u.l.getD i 0 ∈ joinI t.l u.l); refine h j hj ?_; rw [e]; refine ⟨⟨hm, hu⟩, ?_⟩; rw [find_at' hn hi]; exact hne
theorem dimJ_yes {t u : Ten} {x : Int} (h : x ∈ t.l) : dimJ t u x = t.d.getD (findI t.l x).toNat 0 := if_pos h
theorem dimJ_no {t u : Ten} {x : Int} (h : x ∉ t.l) : dimJ t u x = u.d.getD (findI u.l x).toNat 0 := if_neg h
set_option maxHeartbeats 2000000 in
theorem ct_i_joinAxes (t u : Ten) (a b c a' b' c' : Value) (w : World) (r1 : IntsR t.l a (hp w)) (r2 : IntsR t.d b (hp w)) (r3 : IntsR t.x c (hp w)) (r1' : IntsR u.l a' (hp w)) (r2' : IntsR u.d b' (hp w)) (r3' : IntsR u.x c' (hp w)) (ht : t.l.length = t.d.length) (hu : u.l.length = u.d.length) (htn : t.l.Nodup) (hn : u.l.Nodup) (hs : t.l.length + u.l.length ≤ 100000) :
    Calls Tryz.prog 107 [tenV a b c, tenV a' b' c'].toArray w (Ret w emp (JoinR t u)) := by
  have hjl := joinI_len t.l u.l; obtain ⟨L, hL⟩ : ∃ L, L = joinI t.l u.l := ⟨_, rfl⟩
  have hLm : (L.map (dimJ t u)).length = L.length := by simp
  refine calls_in Tryz.func107 rfl Tryz.ntmps107 rfl (Sat.start w) ?_; have hle0 := r1.le; have hle1 := r2.le; have hle2 := r3.le; have hle3 := r1'.le; have hle4 := r2'.le; have hle5 := r3'.le; refine wp_sc (wp_sq ?_); refine sq_x rfl (x_box rfl rfl) rfl ?_; rintro _ _ ⟨b2, rfl, rfl⟩; refine sq_x rfl (x_box rfl rfl) rfl ?_; rintro _ _ ⟨b3, rfl, rfl⟩; refine sq_v rfl (v_assign rfl) rfl (sq_v rfl (v_assign rfl) rfl (sq_v rfl (v_assign rfl) rfl (sq_end (qs_n (wp_sc (wp_sq (sq_v rfl (v_fieldAddr fd_55_0 ty_27 (by decide) rfl) rfl (sq_v rfl (v_loadB 1 ty_27 rfl rfl rfl) rfl (sq_v rfl (v_fieldAddr fd_55_0 ty_27 (by decide) rfl) rfl (sq_v rfl (v_loadB 0 ty_27 rfl rfl rfl) rfl ?_)))))))))); refine sq_x rfl (x_call rfl en_132 (fun w s => ct_i_joinLabels _ _ _ _ w (r1.mono (s.get 2 rfl)) (r1'.mono (s.get 2 rfl)) (by first | assumption | omega))) rfl ?_; rintro v17 h17 r17; refine sq_v rfl (v_assign rfl) rfl (sq_end ?_); rw [← hL] at r17 hjl; refine qs_n (wp_sc (wp_sq (sq_v rfl (v_move rfl) rfl (sq_v rfl (v_len Tryz.underlying27 rfl r17.toR.sl) rfl ?_)))); refine sq_x rfl (x_makeI Tryz.underlying27 ty_3 rfl rfl (by first | omega | (simp; omega) | (simp only [List.length_append, List.length_cons, List.length_nil]; omega) | (rw [List.length_set]; omega)) (by first | omega | (simp; omega) | (simp only [List.length_append, List.length_cons, List.length_nil]; omega) | (rw [List.length_set]; omega)) (by first | omega | (simp; omega) | (simp only [List.length_append, List.length_cons, List.length_nil]; omega) | (rw [List.length_set]; omega))) rfl ?_; intro v20 h20 r20; refine sq_v rfl (v_assign rfl) rfl (sq_end (qs_n (wp_sc (wp_sc (wp_sq (sq_v rfl (v_move rfl) rfl (sq_v rfl (v_len Tryz.underlying27 rfl r17.toR.sl) rfl (sq_v rfl (v_move rfl) rfl (sq_end (qs_n (wp_bl ?_))))))))))); refine wp_lp (σ := Nat × PH) (fun z_ => [(2, .pointer (some ⟨b2, 0, none⟩)), (3, .pointer (some ⟨b3, 0, none⟩)), (4, .slice none 0 0), (5, .slice none 0 0), (6, .bool false), (7, v17), (8, v20), (21, v17), (22, num L.length), (23, num z_.1)]) (fun z_ => [z_.2, h17, box b3 [a', b', c'] 55, box b2 [a, b, c] 55, hp w]) (fun z_ => z_.1 ≤ L.length ∧ (∀ j, j < z_.1 → ¬ differ t u (L.getD j 0)) ∧ IntsO ((L.map (dimJ t u)).take z_.1 ++ List.replicate ((L.map (dimJ t u)).length - z_.1) 0) v20 z_.2) (fun z_ => L.length - z_.1) (0, h20) (⟨by (try dsimp only); omega, fun j hj => by omega, by (try dsimp only); simpa using r20⟩) ⟨rfl, rfl, rfl, rfl, rfl, rfl, rfl, rfl, rfl, (by first | rfl | exact ksub rfl (by first | omega | (simp; done) | (simp; omega))), trivial⟩ (fun _ s => s) ?_; rintro ⟨i, g⟩ ⟨hi, hm, q⟩; dsimp only at hi hm q ⊢; have hle_q := q.toR.le; have hll : ((L.map (dimJ t u)).take i ++ List.replicate ((L.map (dimJ t u)).length - i) 0).length = L.length := by simp; omega
  refine wp_sc (wp_sq (sq_v rfl (v_lss rfl rfl) rfl (sq_end (qs_n (wp_sc ?_))))); refine wp_cd rfl (fun c24 => ?_) (fun c24 => ?_)
  · refine wp_sk (qs_n (wp_sc (wp_bl (wp_sc (wp_sq (sq_v rfl (v_move rfl) rfl ?_)))))); refine sq_v rfl (v_idxI Tryz.underlying27 ty_3 rfl rfl r17.toR (by first | omega | (simp; omega) | (simp only [List.length_append, List.length_cons, List.length_nil]; omega) | (rw [List.length_set]; omega)) (by first | omega | (simp; omega) | (simp only [List.length_append, List.length_cons, List.length_nil]; omega) | (rw [List.length_set]; omega))) rfl ?_; refine sq_v rfl (v_loadI (k := i) 1 ty_3 rfl rfl r17.toR (by first | omega | (simp; omega) | (simp only [List.length_append, List.length_cons, List.length_nil]; omega) | (rw [List.length_set]; omega))) rfl ?_; refine sq_v rfl (v_assign rfl) rfl (sq_v rfl (v_assign rfl) rfl (sq_end ?_)); have hfr1 := findI_range t.l (L.getD i 0); have hfr2 := findI_range u.l (L.getD i 0); have hfg1 := findI_ge (xs := t.l) (n := L.getD i 0); have hfg2 := findI_ge (xs := u.l) (n := L.getD i 0); have hmL : L.getD i 0 ∈ t.l ∨ L.getD i 0 ∈ u.l := mem_joinI.1 (by rw [← hL]; exact mem_getD (by omega)); refine qs_n (wp_sc (wp_rj 8 [(0, true), (1, true), (3, true), (4, true), (2, false), (5, false), (6, true), (7, true)] mixed_ok (by kernel_rfl) (rj_v rfl rfl (v_loadNB 3 ty_55 rfl rfl rfl rfl) rfl (rj_v rfl rfl (v_move rfl) rfl (rj_v rfl rfl (v_loadNB 2 ty_55 rfl rfl rfl rfl) rfl (rj_v rfl rfl (v_move rfl) rfl (rj_u rfl rfl (x_callv rfl en_80 (fun w s => ct_u_axisOf _ _ _ _ _ _ _ w (r1.mono (s.get 4 rfl)) (r2.mono (s.get 4 rfl)) (r3.mono (s.get 4 rfl)))) rfl (rj_u rfl rfl (x_callv rfl en_80 (fun w s => ct_u_axisOf _ _ _ _ _ _ _ w (r1'.mono (s.get 4 rfl)) (r2'.mono (s.get 4 rfl)) (r3'.mono (s.get 4 rfl)))) rfl (rj_v rfl rfl (v_assign rfl) rfl (rj_v rfl rfl (v_assign rfl) rfl (rj_end (qs_n (wp_sc (wp_sc (wp_rj 19 [(0, true), (1, true), (2, true), (3, true), (4, true), (5, true), (6, true), (7, true), (8, true), (9, true), (10, true), (11, true), (12, true), (13, true), (14, true), (15, true), (16, true), (17, true), (18, true)] mixed_ok (by kernel_rfl) ?_))))))))))))))); refine rj_v rfl rfl (v_move rfl) rfl (rj_v rfl rfl (v_geq rfl rfl) rfl ?_); refine rj_bd 35 rfl (fun c35 => ?_) (fun c35 => ?_)
    · refine rj_v rfl rfl (v_move rfl) rfl (rj_v rfl rfl (v_move rfl) rfl (rj_v rfl rfl (v_geq rfl rfl) rfl (rj_v rfl rfl (v_pickt rfl rfl) rfl ?_))); refine rj_bd 39 rfl (fun c39 => ?_) (fun c39 => ?_)
      · refine rj_v rfl rfl (v_move rfl) rfl (rj_v rfl rfl (v_fieldAddr fd_55_1 ty_27 (by decide) rfl) rfl (rj_v rfl rfl (v_loadB 3 ty_27 rfl rfl rfl) rfl (rj_v rfl rfl (v_move rfl) rfl ?_))); refine rj_v rfl rfl (v_idxI Tryz.underlying27 ty_3 rfl rfl r2 (by first | omega | (simp; omega) | (simp only [List.length_append, List.length_cons, List.length_nil]; omega) | (rw [List.length_set]; omega)) (by first | omega | (simp; omega) | (simp only [List.length_append, List.length_cons, List.length_nil]; omega) | (rw [List.length_set]; omega))) rfl ?_; refine rj_v rfl rfl (v_loadI  4 ty_3 rfl rfl r2 (by first | omega | (simp; omega) | (simp only [List.length_append, List.length_cons, List.length_nil]; omega) | (rw [List.length_set]; omega))) rfl ?_; refine rj_v rfl rfl (v_fieldAddr fd_55_1 ty_27 (by decide) rfl) rfl (rj_v rfl rfl (v_loadB 2 ty_27 rfl rfl rfl) rfl (rj_v rfl rfl (v_move rfl) rfl ?_)); refine rj_v rfl rfl (v_idxI Tryz.underlying27 ty_3 rfl rfl r2' (by first | omega | (simp; omega) | (simp only [List.length_append, List.length_cons, List.length_nil]; omega) | (rw [List.length_set]; omega)) (by first | omega | (simp; omega) | (simp only [List.length_append, List.length_cons, List.length_nil]; omega) | (rw [List.length_set]; omega))) rfl ?_; refine rj_v rfl rfl (v_loadI  4 ty_3 rfl rfl r2' (by first | omega | (simp; omega) | (simp only [List.length_append, List.length_cons, List.length_nil]; omega) | (rw [List.length_set]; omega))) rfl ?_; refine rj_v rfl rfl (v_neq rfl rfl) rfl (rj_v rfl rfl (v_pickt rfl rfl) rfl (rj_end (qs_n ?_))); refine wp_cd rfl (fun c52 => ?_) (fun c52 => ?_)
        · refine wp_sc (wp_sq (sq_v rfl (v_assign rfl) rfl (sq_v rfl (v_assign rfl) rfl (sq_v rfl (v_assign rfl) rfl (sq_end (qs_n (wp_rt (qs_r (qs_br (qs_r (qs_r (qs_br (qs_r ?_))))))))))))); exact qs_ret3 rfl rfl rfl rfl (fin_e (i := 4) rfl (⟨fun _ => rfl, fun h => absurd (mism_of ⟨⟨hfg1.1 c35, hfg2.1 c39⟩, c52⟩) h⟩))
        · refine wp_sk (qs_n (wp_sc (wp_sq (sq_v rfl (v_move rfl) rfl (sq_v rfl (v_geq rfl rfl) rfl (sq_end (qs_n ?_))))))); refine wp_cd rfl (fun c54 => ?_) (fun c54 => ?_)
          · refine wp_sq (sq_v rfl (v_move rfl) rfl (sq_v rfl (v_move rfl) rfl (sq_v rfl (v_fieldAddr fd_55_1 ty_27 (by decide) rfl) rfl (sq_v rfl (v_loadB 3 ty_27 rfl rfl rfl) rfl (sq_v rfl (v_move rfl) rfl ?_))))); refine sq_v rfl (v_idxI Tryz.underlying27 ty_3 rfl rfl r2 (by first | omega | (simp; omega) | (simp only [List.length_append, List.length_cons, List.length_nil]; omega) | (rw [List.length_set]; omega)) (by first | omega | (simp; omega) | (simp only [List.length_append, List.length_cons, List.length_nil]; omega) | (rw [List.length_set]; omega))) rfl ?_; refine sq_v rfl (v_loadI  4 ty_3 rfl rfl r2 (by first | omega | (simp; omega) | (simp only [List.length_append, List.length_cons, List.length_nil]; omega) | (rw [List.length_set]; omega))) rfl ?_; refine sq_v rfl (v_idxI Tryz.underlying27 ty_3 rfl rfl q.toR (by first | omega | (simp; omega) | (simp only [List.length_append, List.length_cons, List.length_nil]; omega) | (rw [List.length_set]; omega)) (by first | omega | (simp; omega) | (simp only [List.length_append, List.length_cons, List.length_nil]; omega) | (rw [List.length_set]; omega))) rfl ?_; refine sq_m 0 rfl rfl (m_storeI (k := i) 0 ty_3 rfl rfl rfl q (by first | omega | (simp; omega) | (simp only [List.length_append, List.length_cons, List.length_nil]; omega) | (rw [List.length_set]; omega))) rfl ?_; rintro _ h_q10_8 ⟨rfl, q10_8⟩; refine sq_end (qs_bn (qs_n (wp_sq ?_))); refine sq_v rfl (v_add rfl rfl ((by unfold I64; omega))) rfl ?_; refine sq_v rfl (v_move rfl) rfl (sq_end ?_); exact qs_bk (i + 1, h_q10_8) ⟨by (try dsimp only); omega, step_all hm (fun h => c52 h.2), by (try dsimp only); rw [← set_prefix (by omega), map_getD (by omega), dimJ_yes (hfg1.1 c35)]; exact q10_8⟩ (by simp only; omega) ⟨rfl, rfl, rfl, rfl, rfl, rfl, rfl, rfl, rfl, (by first | rfl | exact ksub rfl (by first | omega | (simp; done) | (simp; omega))), trivial⟩ (fun _ s => s)
          · refine wp_sq (sq_v rfl (v_move rfl) rfl (sq_v rfl (v_move rfl) rfl (sq_v rfl (v_fieldAddr fd_55_1 ty_27 (by decide) rfl) rfl (sq_v rfl (v_loadB 2 ty_27 rfl rfl rfl) rfl ?_)))); have hy0 : 0 ≤ findI u.l (L.getD i 0) := (by first | omega | exact hfg2.2 (hmL.resolve_left fun h => c35 (hfg1.2 h)))
            refine sq_v rfl (v_move rfl) rfl ?_; refine sq_v rfl (v_idxI Tryz.underlying27 ty_3 rfl rfl r2' (by first | omega | (simp; omega) | (simp only [List.length_append, List.length_cons, List.length_nil]; omega) | (rw [List.length_set]; omega)) (by first | omega | (simp; omega) | (simp only [List.length_append, List.length_cons, List.length_nil]; omega) | (rw [List.length_set]; omega))) rfl ?_; refine sq_v rfl (v_loadI  4 ty_3 rfl rfl r2' (by first | omega | (simp; omega) | (simp only [List.length_append, List.length_cons, List.length_nil]; omega) | (rw [List.length_set]; omega))) rfl ?_; refine sq_v rfl (v_idxI Tryz.underlying27 ty_3 rfl rfl q.toR (by first | omega | (simp; omega) | (simp only [List.length_append, List.length_cons, List.length_nil]; omega) | (rw [List.length_set]; omega)) (by first | omega | (simp; omega) | (simp only [List.length_append, List.length_cons, List.length_nil]; omega) | (rw [List.length_set]; omega))) rfl ?_; refine sq_m 0 rfl rfl (m_storeI (k := i) 0 ty_3 rfl rfl rfl q (by first | omega | (simp; omega) | (simp only [List.length_append, List.length_cons, List.length_nil]; omega) | (rw [List.length_set]; omega))) rfl ?_; rintro _ h_q11_8 ⟨rfl, q11_8⟩; refine sq_end (qs_bn (qs_n (wp_sq ?_))); refine sq_v rfl (v_add rfl rfl ((by unfold I64; omega))) rfl ?_; refine sq_v rfl (v_move rfl) rfl (sq_end ?_)
            exfalso; omega
      · refine rj_v rfl rfl (v_move rfl) rfl (rj_s rfl rfl rfl (rj_s rfl rfl rfl (rj_s rfl rfl rfl (rj_s rfl rfl rfl (rj_s rfl rfl rfl (rj_s rfl rfl rfl (rj_s rfl rfl rfl (rj_s rfl rfl rfl (rj_s rfl rfl rfl ?_))))))))); refine rj_s rfl rfl rfl (rj_s rfl rfl rfl (rj_v rfl rfl (v_pickf rfl rfl) rfl (rj_end (qs_n (wp_cf rfl (wp_sk (qs_n (wp_sc (wp_sq (sq_v rfl (v_move rfl) rfl (sq_v rfl (v_geq rfl rfl) rfl (sq_end (qs_n ?_))))))))))))); refine wp_cd rfl (fun c54 => ?_) (fun c54 => ?_)
        · refine wp_sq (sq_v rfl (v_move rfl) rfl (sq_v rfl (v_move rfl) rfl (sq_v rfl (v_fieldAddr fd_55_1 ty_27 (by decide) rfl) rfl (sq_v rfl (v_loadB 3 ty_27 rfl rfl rfl) rfl (sq_v rfl (v_move rfl) rfl ?_))))); refine sq_v rfl (v_idxI Tryz.underlying27 ty_3 rfl rfl r2 (by first | omega | (simp; omega) | (simp only [List.length_append, List.length_cons, List.length_nil]; omega) | (rw [List.length_set]; omega)) (by first | omega | (simp; omega) | (simp only [List.length_append, List.length_cons, List.length_nil]; omega) | (rw [List.length_set]; omega))) rfl ?_; refine sq_v rfl (v_loadI  4 ty_3 rfl rfl r2 (by first | omega | (simp; omega) | (simp only [List.length_append, List.length_cons, List.length_nil]; omega) | (rw [List.length_set]; omega))) rfl ?_; refine sq_v rfl (v_idxI Tryz.underlying27 ty_3 rfl rfl q.toR (by first | omega | (simp; omega) | (simp only [List.length_append, List.length_cons, List.length_nil]; omega) | (rw [List.length_set]; omega)) (by first | omega | (simp; omega) | (simp only [List.length_append, List.length_cons, List.length_nil]; omega) | (rw [List.length_set]; omega))) rfl ?_; refine sq_m 0 rfl rfl (m_storeI (k := i) 0 ty_3 rfl rfl rfl q (by first | omega | (simp; omega) | (simp only [List.length_append, List.length_cons, List.length_nil]; omega) | (rw [List.length_set]; omega))) rfl ?_; rintro _ h_q10_8 ⟨rfl, q10_8⟩; refine sq_end (qs_bn (qs_n (wp_sq ?_))); refine sq_v rfl (v_add rfl rfl ((by unfold I64; omega))) rfl ?_; refine sq_v rfl (v_move rfl) rfl (sq_end ?_); exact qs_bk (i + 1, h_q10_8) ⟨by (try dsimp only); omega, step_all hm (fun h => c39 (hfg2.2 h.1.2)), by (try dsimp only); rw [← set_prefix (by omega), map_getD (by omega), dimJ_yes (hfg1.1 c35)]; exact q10_8⟩ (by simp only; omega) ⟨rfl, rfl, rfl, rfl, rfl, rfl, rfl, rfl, rfl, (by first | rfl | exact ksub rfl (by first | omega | (simp; done) | (simp; omega))), trivial⟩ (fun _ s => s)
        · refine wp_sq (sq_v rfl (v_move rfl) rfl (sq_v rfl (v_move rfl) rfl (sq_v rfl (v_fieldAddr fd_55_1 ty_27 (by decide) rfl) rfl (sq_v rfl (v_loadB 2 ty_27 rfl rfl rfl) rfl ?_)))); have hy0 : 0 ≤ findI u.l (L.getD i 0) := (by first | omega | exact hfg2.2 (hmL.resolve_left fun h => c35 (hfg1.2 h)))
          refine sq_v rfl (v_move rfl) rfl ?_; refine sq_v rfl (v_idxI Tryz.underlying27 ty_3 rfl rfl r2' (by first | omega | (simp; omega) | (simp only [List.length_append, List.length_cons, List.length_nil]; omega) | (rw [List.length_set]; omega)) (by first | omega | (simp; omega) | (simp only [List.length_append, List.length_cons, List.length_nil]; omega) | (rw [List.length_set]; omega))) rfl ?_; refine sq_v rfl (v_loadI  4 ty_3 rfl rfl r2' (by first | omega | (simp; omega) | (simp only [List.length_append, List.length_cons, List.length_nil]; omega) | (rw [List.length_set]; omega))) rfl ?_; refine sq_v rfl (v_idxI Tryz.underlying27 ty_3 rfl rfl q.toR (by first | omega | (simp; omega) | (simp only [List.length_append, List.length_cons, List.length_nil]; omega) | (rw [List.length_set]; omega)) (by first | omega | (simp; omega) | (simp only [List.length_append, List.length_cons, List.length_nil]; omega) | (rw [List.length_set]; omega))) rfl ?_; refine sq_m 0 rfl rfl (m_storeI (k := i) 0 ty_3 rfl rfl rfl q (by first | omega | (simp; omega) | (simp only [List.length_append, List.length_cons, List.length_nil]; omega) | (rw [List.length_set]; omega))) rfl ?_; rintro _ h_q11_8 ⟨rfl, q11_8⟩; refine sq_end (qs_bn (qs_n (wp_sq ?_))); refine sq_v rfl (v_add rfl rfl ((by unfold I64; omega))) rfl ?_; refine sq_v rfl (v_move rfl) rfl (sq_end ?_)
          exfalso; omega
    · refine rj_v rfl rfl (v_move rfl) rfl (rj_s rfl rfl rfl (rj_s rfl rfl rfl (rj_v rfl rfl (v_pickf rfl rfl) rfl (rj_v rfl rfl (v_move rfl) rfl (rj_s rfl rfl rfl (rj_s rfl rfl rfl (rj_s rfl rfl rfl (rj_s rfl rfl rfl (rj_s rfl rfl rfl ?_))))))))); refine rj_s rfl rfl rfl (rj_s rfl rfl rfl (rj_s rfl rfl rfl (rj_s rfl rfl rfl (rj_s rfl rfl rfl (rj_s rfl rfl rfl (rj_v rfl rfl (v_pickf rfl rfl) rfl (rj_end (qs_n (wp_cf rfl (wp_sk (qs_n (wp_sc (wp_sq (sq_v rfl (v_move rfl) rfl (sq_v rfl (v_geq rfl rfl) rfl (sq_end (qs_n ?_))))))))))))))))); refine wp_cd rfl (fun c54 => ?_) (fun c54 => ?_)
      · refine wp_sq (sq_v rfl (v_move rfl) rfl (sq_v rfl (v_move rfl) rfl (sq_v rfl (v_fieldAddr fd_55_1 ty_27 (by decide) rfl) rfl (sq_v rfl (v_loadB 3 ty_27 rfl rfl rfl) rfl (sq_v rfl (v_move rfl) rfl ?_))))); refine sq_v rfl (v_idxI Tryz.underlying27 ty_3 rfl rfl r2 (by first | omega | (simp; omega) | (simp only [List.length_append, List.length_cons, List.length_nil]; omega) | (rw [List.length_set]; omega)) (by first | omega | (simp; omega) | (simp only [List.length_append, List.length_cons, List.length_nil]; omega) | (rw [List.length_set]; omega))) rfl ?_; refine sq_v rfl (v_loadI  4 ty_3 rfl rfl r2 (by first | omega | (simp; omega) | (simp only [List.length_append, List.length_cons, List.length_nil]; omega) | (rw [List.length_set]; omega))) rfl ?_; refine sq_v rfl (v_idxI Tryz.underlying27 ty_3 rfl rfl q.toR (by first | omega | (simp; omega) | (simp only [List.length_append, List.length_cons, List.length_nil]; omega) | (rw [List.length_set]; omega)) (by first | omega | (simp; omega) | (simp only [List.length_append, List.length_cons, List.length_nil]; omega) | (rw [List.length_set]; omega))) rfl ?_; refine sq_m 0 rfl rfl (m_storeI (k := i) 0 ty_3 rfl rfl rfl q (by first | omega | (simp; omega) | (simp only [List.length_append, List.length_cons, List.length_nil]; omega) | (rw [List.length_set]; omega))) rfl ?_; rintro _ h_q10_8 ⟨rfl, q10_8⟩; refine sq_end (qs_bn (qs_n (wp_sq ?_))); refine sq_v rfl (v_add rfl rfl ((by unfold I64; omega))) rfl ?_; refine sq_v rfl (v_move rfl) rfl (sq_end ?_)
        exfalso; omega
      · refine wp_sq (sq_v rfl (v_move rfl) rfl (sq_v rfl (v_move rfl) rfl (sq_v rfl (v_fieldAddr fd_55_1 ty_27 (by decide) rfl) rfl (sq_v rfl (v_loadB 2 ty_27 rfl rfl rfl) rfl ?_)))); have hy0 : 0 ≤ findI u.l (L.getD i 0) := (by first | omega | exact hfg2.2 (hmL.resolve_left fun h => c35 (hfg1.2 h)))
        refine sq_v rfl (v_move rfl) rfl ?_; refine sq_v rfl (v_idxI Tryz.underlying27 ty_3 rfl rfl r2' (by first | omega | (simp; omega) | (simp only [List.length_append, List.length_cons, List.length_nil]; omega) | (rw [List.length_set]; omega)) (by first | omega | (simp; omega) | (simp only [List.length_append, List.length_cons, List.length_nil]; omega) | (rw [List.length_set]; omega))) rfl ?_; refine sq_v rfl (v_loadI  4 ty_3 rfl rfl r2' (by first | omega | (simp; omega) | (simp only [List.length_append, List.length_cons, List.length_nil]; omega) | (rw [List.length_set]; omega))) rfl ?_; refine sq_v rfl (v_idxI Tryz.underlying27 ty_3 rfl rfl q.toR (by first | omega | (simp; omega) | (simp only [List.length_append, List.length_cons, List.length_nil]; omega) | (rw [List.length_set]; omega)) (by first | omega | (simp; omega) | (simp only [List.length_append, List.length_cons, List.length_nil]; omega) | (rw [List.length_set]; omega))) rfl ?_; refine sq_m 0 rfl rfl (m_storeI (k := i) 0 ty_3 rfl rfl rfl q (by first | omega | (simp; omega) | (simp only [List.length_append, List.length_cons, List.length_nil]; omega) | (rw [List.length_set]; omega))) rfl ?_; rintro _ h_q11_8 ⟨rfl, q11_8⟩; refine sq_end (qs_bn (qs_n (wp_sq ?_))); refine sq_v rfl (v_add rfl rfl ((by unfold I64; omega))) rfl ?_; refine sq_v rfl (v_move rfl) rfl (sq_end ?_); exact qs_bk (i + 1, h_q11_8) ⟨by (try dsimp only); omega, step_all hm (fun h => c35 (hfg1.2 h.1.1)), by (try dsimp only); rw [← set_prefix (by omega), map_getD (by omega), dimJ_no (fun h => c35 (hfg1.2 h))]; exact q11_8⟩ (by simp only; omega) ⟨rfl, rfl, rfl, rfl, rfl, rfl, rfl, rfl, rfl, (by first | rfl | exact ksub rfl (by first | omega | (simp; done) | (simp; omega))), trivial⟩ (fun _ s => s)
  · refine wp_ex (qs_x (qs_x (qs_bx (qs_n (wp_sc (wp_sq (sq_v rfl (v_move rfl) rfl (sq_v rfl (v_move rfl) rfl (sq_v rfl (v_assign rfl) rfl (sq_v rfl (v_assign rfl) rfl (sq_v rfl (v_assign rfl) rfl (sq_end (qs_n (wp_rt ?_)))))))))))))); refine qs_close [hp w] [h17, g] (fun _ s => s.pick [4, 1, 0] (by decide) rfl) (fun md => ?_); have hnm : ¬ mism t u := mism_none hn (by rw [← hL]; exact fun j hj => hm j (by omega)); have e1 : joinD t u = L.map (dimJ t u) := by rw [hL]; exact joinD_map (dimJ_l htn ht) (dimJ_r hn hu hnm)
    rw [List.take_of_length_le (by rw [List.length_map]; omega), show (L.map (dimJ t u)).length - i = 0 by rw [List.length_map]; omega, List.replicate_zero, List.append_nil] at q; exact qs_ret3 rfl rfl rfl rfl (fin_t 0 (i := 1) rfl rfl rfl ⟨fun h => absurd h hnm, fun _ => ⟨_, _, rfl, by rw [← hL]; exact r17.toR.mono (md.le h17 (by simp)), by rw [e1]; exact q.toR.mono (md.le g (by simp))⟩⟩)
set_option maxHeartbeats 1000000 in
theorem ct_i_fillTensor (k p n : Int) (ls ds xs : List Int) (a b c : Value) (w : World) (r1 : IntsR ls a (hp w)) (r2 : IntsR ds b (hp w)) (r3 : IntsR xs c (hp w)) (hd : dimsIn ds) (hp1 : prodI ds ≤ 4096) (hx : xs.length ≤ 6) (hl : ls.length ≤ 12) (hdl : ds.length ≤ 12) :
    Calls Tryz.prog 109 [ringV k p n, a, b, c].toArray w (Ret w emp (TenT ⟨ls, ds, (List.replicate (prodI ds).toNat xs).flatten⟩)) := by
  have hp0 := prodI_one fun d h => (dims_mem hd d h).1; have hm6 : 0 ≤ prodI ds * xs.length ∧ prodI ds * xs.length ≤ 24576 := ⟨Int.mul_nonneg (by omega) (by omega), by have : prodI ds * xs.length ≤ 4096 * 6 := Int.mul_le_mul hp1 (by omega) (by omega) (by omega); omega⟩
  refine calls_in Tryz.func109 rfl Tryz.ntmps109 rfl (Sat.start w) ?_; have hle0 := r1.le; have hle1 := r2.le; have hle2 := r3.le; refine wp_sc (wp_sq ?_); refine sq_x rfl (x_box rfl rfl) rfl ?_; rintro _ _ ⟨b4, rfl, rfl⟩; refine sq_x rfl (x_alloc ty_55 rfl) rfl ?_; rintro _ _ ⟨b8, rfl, rfl⟩; refine sq_end (qs_n (wp_sc (wp_sq (sq_v rfl (v_move rfl) rfl ?_)))); refine sq_x rfl (x_call rfl en_47 (fun w s => ct_i_copyInts _ _ w (r1.mono (s.get 2 rfl)) (by first | assumption | omega))) rfl ?_; rintro v13 h13 r13; refine sq_v rfl (v_move rfl) rfl ?_; refine sq_x rfl (x_call rfl en_47 (fun w s => ct_i_copyInts _ _ w (r2.mono (s.get 3 rfl)) (by first | assumption | omega))) rfl ?_; rintro v15 h15 r15; refine sq_v rfl (v_build [v13, v15, .slice none 0 0] rfl (by obtain ⟨_, _, rfl⟩ := r13.toR.sl; obtain ⟨_, _, rfl⟩ := r15.toR.sl; kernel_rfl)) rfl ?_; refine sq_x rfl (x_alloc ty_55 rfl) rfl ?_; rintro _ _ ⟨b9, rfl, rfl⟩; refine sq_m 0 rfl rfl (m_store 0 ty_55 rfl rfl rfl rfl (by simp [r13.toR.sl.one, r15.toR.sl.one, one_sl]) rfl (Nat.le_of_ble_eq_true rfl)) rfl ?_; rintro _ _ ⟨rfl, rfl⟩; refine sq_end (qs_n (wp_sc (wp_sq (sq_v rfl (v_move rfl) rfl (sq_u rfl (x_callv rfl en_48 (fun w s => ct_i_productOf _ _ w (r2.mono (s.get 5 rfl)) (by first | assumption | omega) (by first | assumption | omega))) rfl (sq_v rfl (v_assign rfl) rfl (sq_end (qs_n (wp_sc (wp_sq (sq_v rfl (v_move rfl) rfl (sq_v rfl (v_move rfl) rfl (sq_v rfl (v_len Tryz.underlying27 rfl r3.sl) rfl ?_))))))))))))); refine sq_v rfl (v_mul rfl rfl ((by unfold I64; omega))) rfl ?_; refine sq_x rfl (x_make0I Tryz.underlying27 ty_3 rfl rfl (by first | omega | (simp; omega) | (simp only [List.length_append, List.length_cons, List.length_nil]; omega) | (rw [List.length_set]; omega)) (by first | omega | (simp; omega) | (simp only [List.length_append, List.length_cons, List.length_nil]; omega) | (rw [List.length_set]; omega)) (by first | omega | (simp; omega) | (simp only [List.length_append, List.length_cons, List.length_nil]; omega) | (rw [List.length_set]; omega))) rfl ?_; intro v23 h23 r23; refine sq_v rfl (v_fieldAddr fd_55_2 ty_27 (by decide) rfl) rfl ?_; refine sq_m 1 rfl rfl (m_store1 1 ty_27 rfl rfl r23.toR.sl.one rfl (Nat.le_of_ble_eq_true rfl)) rfl ?_; rintro _ _ ⟨rfl, rfl⟩; refine sq_end (qs_n (wp_sc (wp_sc (wp_sq (sq_v rfl (v_assign rfl) rfl (sq_end (qs_n (wp_bl ?_)))))))); refine wp_lp (σ := Nat × Value × PH) (fun z_ => [(3, c), (8, .pointer (some ⟨b8, 0, none⟩)), (9, .pointer (some ⟨b9, 0, none⟩)), (10, num (prodI ds)), (11, num z_.1)]) (fun z_ => [z_.2.2, box b9 [v13, v15, z_.2.1] 55, h15, h13, box b8 [.slice none 0 0, .slice none 0 0, .slice none 0 0] 55, box b4 [num k, num p, num n] 24, hp w]) (fun z_ => z_.1 ≤ (prodI ds).toNat ∧ IntsO ((List.replicate z_.1 xs).flatten) z_.2.1 z_.2.2) (fun z_ => (prodI ds).toNat - z_.1) (0, v23, h23) (⟨by (try dsimp only); omega, by (try dsimp only); simpa using r23⟩) ⟨rfl, rfl, rfl, rfl, (by first | rfl | exact ksub rfl (by first | omega | (simp; done) | (simp; omega))), trivial⟩ (fun _ s => s) ?_; rintro ⟨i, v, g⟩ ⟨hi, q⟩; dsimp only at hi q ⊢; have hle_q := q.toR.le; have hfl := flat_rep_len xs i; have hfb : i * xs.length ≤ 4096 * 6 := Nat.mul_le_mul (by omega) hx; refine wp_sc (wp_sc (wp_sq (sq_v rfl (v_move rfl) rfl (sq_v rfl (v_move rfl) rfl (sq_v rfl (v_lss rfl rfl) rfl (sq_end (qs_n ?_))))))); refine wp_cd rfl (fun c27 => ?_) (fun c27 => ?_)
  · refine wp_sk (qs_n (wp_sc (wp_bl (wp_sq (sq_v rfl (v_fieldAddr fd_55_2 ty_27 (by decide) rfl) rfl (sq_v rfl (v_loadB 1 ty_27 rfl rfl rfl) rfl (sq_v rfl (v_move rfl) rfl ?_))))))); refine sq_m 0 rfl rfl (m_appI 0 6 Tryz.underlying27 ty_3 rfl rfl rfl rfl q rfl r3 (by first | omega | (simp; omega) | (simp only [List.length_append, List.length_cons, List.length_nil]; omega) | (rw [List.length_set]; omega))) rfl ?_; intro v33 h_r33 r33; refine sq_v rfl (v_fieldAddr fd_55_2 ty_27 (by decide) rfl) rfl ?_; refine sq_m 1 rfl rfl (m_store1 1 ty_27 rfl rfl r33.toR.sl.one rfl (Nat.le_of_ble_eq_true rfl)) rfl ?_; rintro _ _ ⟨rfl, rfl⟩; refine sq_end (qs_bn (qs_n (wp_sq (sq_v rfl (v_move rfl) rfl ?_)))); refine sq_v rfl (v_add rfl rfl ((by unfold I64; omega))) rfl ?_; refine sq_v rfl (v_assign rfl) rfl (sq_end ?_); exact qs_bk (i + 1, v33, h_r33) ⟨by (try dsimp only); omega, by (try dsimp only); rw [flat_rep_succ]; exact r33⟩ (by simp only; omega) ⟨rfl, rfl, rfl, rfl, (by first | rfl | exact ksub rfl (by first | omega | (simp; done) | (simp; omega))), trivial⟩ (fun _ s => s)
  · refine wp_ex (qs_x (qs_x (qs_bx (qs_n (wp_sc (wp_sq (sq_v rfl (v_loadNB 1 ty_55 rfl rfl rfl rfl) rfl ?_))))))); refine sq_m 4 rfl rfl (m_store 4 ty_55 rfl rfl rfl rfl (by simp [r13.toR.sl.one, r15.toR.sl.one, q.toR.sl.one]) rfl (Nat.le_of_ble_eq_true rfl)) rfl ?_; rintro _ _ ⟨rfl, rfl⟩; refine sq_end (qs_n (wp_rt ?_)); refine qs_close [box b8 _ _, hp w] [h13, h15, g] (fun _ s => s.pick [4, 6, 3, 2, 0] (by decide) rfl) (fun md => ?_); exact qs_retc 1 rfl ty_55 rfl rfl rfl (fin_t 0 (i := 2) rfl rfl rfl ⟨_, _, _, rfl, _, _, _, r13, r15, (by rw [show (prodI ds).toNat = i by omega]; exact q), md⟩)
set_option maxHeartbeats 1000000 in
theorem ct_s_l05Zero (k p n : Int) (ls ds : List Int) (a b : Value) (w : World) (hr : ringL k p n) (r1 : IntsR ls a (hp w)) (r2 : IntsR ds b (hp w)) (hd : dimsIn ds) (hp1 : prodI ds ≤ 4096) (hl : ls.length ≤ 12) (hdl : ds.length ≤ 12) :
    Calls Tryz.prog 99 [ringV k p n, a, b].toArray w (Ret w emp (TenT ⟨ls, ds, (List.replicate (prodI ds).toNat (zeroL k p n)).flatten⟩)) := by
  have hp0 := prodI_one fun d h => (dims_mem hd d h).1; have hwr := width_range hr; have hzl := zeroL_len k p n; refine calls_in Tryz.func99 rfl Tryz.ntmps99 rfl (Sat.start w) ?_; have hle0 := r1.le; have hle1 := r2.le; refine wp_sc (wp_sq ?_); refine sq_x rfl (x_box rfl rfl) rfl ?_; rintro _ _ ⟨b3, rfl, rfl⟩; refine sq_x rfl (x_alloc ty_55 rfl) rfl ?_; rintro _ _ ⟨b6, rfl, rfl⟩; refine sq_end (qs_n (wp_sc (wp_sq (sq_v rfl (v_move rfl) rfl ?_)))); refine sq_x rfl (x_call rfl en_113 (fun w s => ct_s_l05Ints _ _ w (r1.mono (s.get 2 rfl)) (by first | assumption | omega))) rfl ?_; rintro v10 h10 r10; refine sq_v rfl (v_move rfl) rfl ?_; refine sq_x rfl (x_call rfl en_113 (fun w s => ct_s_l05Ints _ _ w (r2.mono (s.get 3 rfl)) (by first | assumption | omega))) rfl ?_; rintro v12 h12 r12; refine sq_v rfl (v_build [v10, v12, .slice none 0 0] rfl (by obtain ⟨_, _, rfl⟩ := r10.toR.sl; obtain ⟨_, _, rfl⟩ := r12.toR.sl; kernel_rfl)) rfl ?_; refine sq_x rfl (x_alloc ty_55 rfl) rfl ?_; rintro _ _ ⟨b7, rfl, rfl⟩; refine sq_m 0 rfl rfl (m_store 0 ty_55 rfl rfl rfl rfl (by simp [r10.toR.sl.one, r12.toR.sl.one, one_sl]) rfl (Nat.le_of_ble_eq_true rfl)) rfl ?_; rintro _ _ ⟨rfl, rfl⟩; refine sq_end (qs_n (wp_sc (wp_sc (wp_sq (sq_v rfl (v_move rfl) rfl (sq_u rfl (x_callv rfl en_98 (fun w s => ct_s_l05Product _ _ _ w (r2.mono (s.get 5 rfl)) (by first | assumption | omega) (by first | assumption | omega))) rfl (sq_v rfl (v_assign rfl) rfl (sq_end (qs_n (wp_bl ?_)))))))))); refine wp_lp (σ := Nat × Value × PH) (fun z_ => [(3, .pointer (some ⟨b3, 0, none⟩)), (6, .pointer (some ⟨b6, 0, none⟩)), (7, .pointer (some ⟨b7, 0, none⟩)), (8, num (prodI ds - z_.1))]) (fun z_ => [z_.2.2, box b7 [v10, v12, z_.2.1] 55, h12, h10, box b6 [.slice none 0 0, .slice none 0 0, .slice none 0 0] 55, box b3 [num k, num p, num n] 24, hp w]) (fun z_ => z_.1 ≤ (prodI ds).toNat ∧ IntsO ((List.replicate z_.1 (zeroL k p n)).flatten) z_.2.1 z_.2.2) (fun z_ => (prodI ds).toNat - z_.1) (0, .slice none 0 0, emp) (⟨by (try dsimp only); omega, by (try dsimp only); simpa using IntsO.nil⟩) ⟨rfl, rfl, rfl, (by first | rfl | exact ksub rfl (by first | omega | (simp; done) | (simp; omega))), trivial⟩ (fun _ s => (emp_sat s)) ?_; rintro ⟨i, v, g⟩ ⟨hi, q⟩; dsimp only at hi q ⊢; have hle_q := q.toR.le; have hfl := flat_rep_len (zeroL k p n) i; have hfb : i * (zeroL k p n).length ≤ 4096 * 6 := Nat.mul_le_mul (by omega) (by omega); refine wp_sc (wp_sc (wp_sq (sq_v rfl (v_move rfl) rfl (sq_v rfl (v_gtr rfl rfl) rfl (sq_end (qs_n ?_)))))); refine wp_cd rfl (fun c17 => ?_) (fun c17 => ?_)
  · refine wp_sk (qs_n (wp_sc (wp_bl (wp_rj 4 [(0, true), (1, true), (2, true), (3, false), (4, false), (5, false), (6, false)] mixed_ok (by kernel_rfl) (rj_v rfl rfl (v_fieldAddr fd_55_2 ty_27 (by decide) rfl) rfl (rj_v rfl rfl (v_loadB 1 ty_27 rfl rfl rfl) rfl (rj_v rfl rfl (v_loadNB 5 ty_24 rfl rfl rfl rfl) rfl ?_))))))); refine rj_x rfl rfl (x_call rfl en_128 (fun w s => ct_s_l02Zero _ _ _ w (by first | assumption | omega))) rfl ?_; rintro v23 h23 r23; refine rj_m 1 rfl rfl rfl rfl (m_appI 1 0 Tryz.underlying27 ty_3 rfl rfl rfl rfl q rfl r23.toR (by first | omega | (simp; omega) | (simp only [List.length_append, List.length_cons, List.length_nil]; omega) | (rw [List.length_set]; omega))) rfl ?_; intro v24 h_r24 r24; refine rj_fv rfl rfl (v_fieldAddr fd_55_2 ty_27 (by decide) rfl) rfl ?_; refine rj_m 2 rfl rfl rfl rfl (m_store1 2 ty_27 rfl rfl r24.toR.sl.one rfl (Nat.le_of_ble_eq_true rfl)) rfl ?_; rintro _ _ ⟨rfl, rfl⟩; refine rj_end (qs_bn (qs_n (wp_sq (sq_v rfl (v_move rfl) rfl ?_)))); refine sq_v rfl (v_sub rfl rfl ((by unfold I64; omega))) rfl ?_; refine sq_v rfl (v_assign rfl) rfl (sq_end ?_); exact qs_bk (i + 1, v24, h_r24) ⟨by (try dsimp only); omega, by (try dsimp only); rw [flat_rep_succ]; exact r24⟩ (by simp only; omega) ⟨rfl, rfl, rfl, (by first | rfl | exact ksub rfl (by first | omega | (simp; done) | (simp; omega))), trivial⟩ (fun _ s => s.pick [1, 2, 3, 4, 5, 6, 7] (by decide) rfl)
  · refine wp_ex (qs_x (qs_x (qs_bx (qs_n (wp_sc (wp_sq (sq_v rfl (v_loadNB 1 ty_55 rfl rfl rfl rfl) rfl ?_))))))); refine sq_m 4 rfl rfl (m_store 4 ty_55 rfl rfl rfl rfl (by simp [r10.toR.sl.one, r12.toR.sl.one, q.toR.sl.one]) rfl (Nat.le_of_ble_eq_true rfl)) rfl ?_; rintro _ _ ⟨rfl, rfl⟩; refine sq_end (qs_n (wp_rt ?_)); refine qs_close [box b6 _ _, hp w] [h10, h12, g] (fun _ s => s.pick [4, 6, 3, 2, 0] (by decide) rfl) (fun md => ?_); exact qs_retc 1 rfl ty_55 rfl rfl rfl (fin_t 0 (i := 2) rfl rfl rfl ⟨_, _, _, rfl, _, _, _, r10, r12, (by rw [show (prodI ds).toNat = i by omega]; exact q), md⟩)
theorem ct_s_l05Put (k p n i : Int) (ls ds xs ys : List Int) (a b c v : Value) (w : World) (h : PH) (hr : ringL k p n) (hle : PLe h (hp w)) (ra : IntsR ls a (restP w h)) (rb : IntsR ds b (restP w h)) (rx : IntsO xs c h) (ry : IntsR ys v (restP w h)) (hy : ys.length = (widthI k n).toNat) (hi : 0 ≤ i) (hl : i * widthI k n + widthI k n ≤ xs.length) (hs : xs.length ≤ 1000000) :
    Calls Tryz.prog 103 [ringV k p n, tenV a b c, num i, v].toArray w (Ret w h (fun _ h' => IntsO (putL xs (i * widthI k n).toNat ys) c h')) := by
  have hwr := width_range hr; have hm0 := Int.mul_nonneg hi (show 0 ≤ widthI k n by omega); have hE : ((xs.drop (i * widthI k n).toNat).take ys.length).length = ys.length := by simp; omega
  obtain ⟨E, hEe⟩ : ∃ E, E = (xs.drop (i * widthI k n).toNat).take ys.length := ⟨_, rfl⟩
  have hps := putL_self (xs := xs) (lo := (i * widthI k n).toNat) (m := ys.length) (by omega); rw [← hEe] at hE hps; refine calls_in Tryz.func103 rfl Tryz.ntmps103 rfl (Sat.start2 hle) ?_; have hle0 := ra.le; have hle1 := rb.le; have hle2 := rx.toR.le; have hle3 := ry.le; refine wp_sc (wp_sq ?_); refine sq_x rfl (x_box rfl rfl) rfl ?_; rintro _ _ ⟨b4, rfl, rfl⟩; refine sq_x rfl (x_box rfl rfl) rfl ?_; rintro _ _ ⟨b5, rfl, rfl⟩; refine sq_end (qs_n (wp_sc (wp_sq (sq_v rfl (v_loadNB 1 ty_24 rfl rfl rfl rfl) rfl (sq_u rfl (x_callv rfl en_129 (fun w s => ct_s_l02Width _ _ _ w)) rfl (sq_v rfl (v_assign rfl) rfl (sq_end (qs_n (wp_sc (wp_sq (sq_v rfl (v_move rfl) rfl (sq_v rfl (v_len Tryz.underlying27 rfl ry.sl) rfl (sq_v rfl (v_move rfl) rfl (sq_end (qs_n (wp_bl ?_)))))))))))))))); refine wp_lp (σ := Nat × PH) (fun z_ => [(2, num i), (3, v), (5, .pointer (some ⟨b5, 0, none⟩)), (8, num (widthI k n)), (13, num ys.length), (14, num z_.1)]) (fun z_ => [box b5 [a, b, c] 55, box b4 [num k, num p, num n] 24, z_.2, (restP w h)]) (fun z_ => z_.1 ≤ ys.length ∧ IntsO (putL xs (i * widthI k n).toNat (mixL ys E z_.1)) c z_.2) (fun z_ => ys.length - z_.1) (0, h) (⟨by (try dsimp only); omega, by (try dsimp only); rw [mix_zero, hps]; exact rx⟩) ⟨rfl, rfl, rfl, rfl, rfl, (by first | rfl | exact ksub rfl (by first | omega | (simp; done) | (simp; omega))), trivial⟩ (fun _ s => s) ?_; rintro ⟨j, g⟩ ⟨hj, q⟩; dsimp only at hj q ⊢; have hle_q := q.toR.le; have hml := mix_len (A := ys) (B := E) (k := j) (by omega) (by omega); have hpl := putL_len (xs := xs) (ys := mixL ys E j) (lo := (i * widthI k n).toNat) (by omega); refine wp_sc (wp_sq (sq_v rfl (v_lss rfl rfl) rfl (sq_end (qs_n (wp_sc ?_))))); refine wp_cd rfl (fun c15 => ?_) (fun c15 => ?_)
  · refine wp_sk (qs_n (wp_sc (wp_bl (wp_sc (wp_sq (sq_v rfl (v_move rfl) rfl (sq_v rfl (v_assign rfl) rfl (sq_end (qs_n (wp_rj 12 [(0, true), (1, true), (2, true), (3, true), (4, true), (5, true), (6, true), (7, true), (8, true), (9, true), (10, true), (11, true), (12, false)] mixed_ok (by kernel_rfl) (rj_v rfl rfl (v_fieldAddr fd_55_2 ty_27 (by decide) rfl) rfl (rj_v rfl rfl (v_loadB 0 ty_27 rfl rfl rfl) rfl (rj_v rfl rfl (v_move rfl) rfl (rj_v rfl rfl (v_move rfl) rfl ?_)))))))))))))); refine rj_v rfl rfl (v_mul rfl rfl ((by unfold I64; omega))) rfl ?_; refine rj_v rfl rfl (v_move rfl) rfl ?_; refine rj_v rfl rfl (v_add rfl rfl ((by unfold I64; omega))) rfl ?_; refine rj_v rfl rfl (v_move rfl) rfl (rj_v rfl rfl (v_move rfl) rfl ?_); refine rj_v rfl rfl (v_idxI Tryz.underlying27 ty_3 rfl rfl ry (by first | omega | (simp; omega) | (simp only [List.length_append, List.length_cons, List.length_nil]; omega) | (rw [List.length_set]; omega)) (by first | omega | (simp; omega) | (simp only [List.length_append, List.length_cons, List.length_nil]; omega) | (rw [List.length_set]; omega))) rfl ?_; refine rj_v rfl rfl (v_loadI (k := j) 3 ty_3 rfl rfl ry (by first | omega | (simp; omega) | (simp only [List.length_append, List.length_cons, List.length_nil]; omega) | (rw [List.length_set]; omega))) rfl ?_; refine rj_v rfl rfl (v_idxI Tryz.underlying27 ty_3 rfl rfl q.toR (by first | omega | (simp; omega) | (simp only [List.length_append, List.length_cons, List.length_nil]; omega) | (rw [List.length_set]; omega)) (by first | omega | (simp; omega) | (simp only [List.length_append, List.length_cons, List.length_nil]; omega) | (rw [List.length_set]; omega))) rfl ?_; refine rj_m 2 rfl rfl rfl rfl (m_storeI 2 ty_3 rfl rfl rfl q (by first | omega | (simp; omega) | (simp only [List.length_append, List.length_cons, List.length_nil]; omega) | (rw [List.length_set]; omega))) rfl ?_; rintro _ h_q5_12 ⟨rfl, q5_12⟩; refine rj_end (qs_bn (qs_n (wp_sq ?_))); refine sq_v rfl (v_add rfl rfl ((by unfold I64; omega))) rfl ?_; refine sq_v rfl (v_move rfl) rfl (sq_end ?_); exact qs_bk (j + 1, h_q5_12) ⟨by (try dsimp only); omega, by (try dsimp only); rw [show (i * widthI k n + (j : Int)).toNat = (i * widthI k n).toNat + j by omega, putL_set (by omega) (by omega), mix_set (by omega) (by omega)] at q5_12; exact q5_12⟩ (by simp only; omega) ⟨rfl, rfl, rfl, rfl, rfl, (by first | rfl | exact ksub rfl (by first | omega | (simp; done) | (simp; omega))), trivial⟩ (fun _ s => s)
  · refine wp_ex (qs_x (qs_x (qs_bx ?_))); exact qs_ret0 rfl (fin_m 2 (i := 3) rfl rfl rfl (by rw [mix_end (by omega) (by omega)] at q; exact q))
end Go.Proofs.YtiefkcaplhnnmaaGreat
namespace Go.Proofs.YtiefkcaplhnnmaaGreat
set_option maxRecDepth 100000
open Go.RowKit
theorem triO_none : TriO ⟨[], [], []⟩ (.slice none 0 0) (.slice none 0 0) (.slice none 0 0) emp :=
  ⟨emp, emp, emp, IntsO.nil, IntsO.nil, IntsO.nil, ⟨by simp [sepL, PDj.emp], fun x hx => by simp at hx; subst hx; exact PLe.emp _, fun k o e => by cases e⟩⟩
def keepL (t u : Ten) (ks : List Int) : List Int := (joinI t.l u.l).filter fun x => decide (x ∈ ks)
def pairP (k p n : Int) (t u : Ten) (ks : List Int) : Prop := tensorL k p n t.l t.d t.x ∧ tensorL k p n u.l u.d u.x ∧ ¬ mism t u ∧ prodI (joinD t u) ≤ 65536 ∧ 0 ≤ sizeI (keepL t u ks) ((keepL t u ks).map (dimJ t u))
open Classical in
noncomputable def pairB (k p n : Int) (t u : Ten) (ks : List Int) : Bool := decide (pairP k p n t u ks)
open Classical in
noncomputable def pairR (k p n : Int) (t u : Ten) (ks : List Int) : Ten := if pairP k p n t u ks then pairT k p n (dimJ t u) t u (keepL t u ks) else ⟨[], [], []⟩
theorem PairNo {k p n : Int} {t u : Ten} {ks : List Int} (h : ¬ pairP k p n t u ks) : TenB (pairR k p n t u ks) (pairB k p n t u ks) (.tuple [tenV (.slice none 0 0) (.slice none 0 0) (.slice none 0 0), .bool false].toArray) emp :=
  ⟨.slice none 0 0, .slice none 0 0, .slice none 0 0, by simp [pairB, h], by rw [pairR, if_neg h]; exact triO_none⟩
theorem PairYes {k p n : Int} {t u : Ten} {ks : List Int} {a b c : Value} {h : PH} (hp : pairP k p n t u ks) (r : TriO (pairT k p n (dimJ t u) t u (keepL t u ks)) a b c h) : TenB (pairR k p n t u ks) (pairB k p n t u ks) (.tuple [tenV a b c, .bool true].toArray) h :=
  ⟨a, b, c, by simp [pairB, hp], by rw [pairR, if_pos hp]; exact r⟩
theorem pairP.dims {k p n : Int} {t u : Ten} (h1 : tensorL k p n t.l t.d t.x) (h2 : tensorL k p n u.l u.d u.x) (h3 : ¬ mism t u) : t.d = t.l.map (dimJ t u) ∧ u.d = u.l.map (dimJ t u) ∧ joinD t u = (joinI t.l u.l).map (dimJ t u) := by
  have e1 := dimJ_l (u := u) (axes_nodup (ten_axes h1)) (ten_axes h1).2.1; have e2 := dimJ_r (axes_nodup (ten_axes h2)) (ten_axes h2).2.1 h3; exact ⟨e1, e2, joinD_map e1 e2⟩
theorem pair_ok {k p n : Int} {t u : Ten} (h1 : tensorL k p n t.l t.d t.x) (h2 : tensorL k p n u.l u.d u.x) (h3 : ¬ mism t u) (h4 : prodI (joinD t u) ≤ 65536) : PairOK k p n t u (dimJ t u) := by
  have e := pairP.dims h1 h2 h3; exact ⟨h1, h2, e.1, e.2.1, by rw [← e.2.2]; exact h4⟩
theorem keep_ok {k p n : Int} {t u : Ten} {ks : List Int} (ok : PairOK k p n t u (dimJ t u)) (h : 0 ≤ sizeI (keepL t u ks) ((keepL t u ks).map (dimJ t u))) : KeepOK t u (dimJ t u) (keepL t u ks) :=
  ⟨fun _ hl => (List.mem_filter.1 hl).1, List.Pairwise.filter _ ok.nd, (sizeI_ge.1 h).2⟩
theorem selP_prod (p : Int → Bool) : ∀ ls ds : List Int, (∀ d ∈ ds, 1 ≤ d) → 1 ≤ prodI (selP p ls ds) ∧ prodI (selP p ls ds) ≤ prodI ds
  | [], ds, h => by
    have := prodI_one h
    cases ds <;> simp [selP, prodI] at * <;> omega
  | l :: ls, [], _ => by simp [selP, prodI]
  | l :: ls, d :: ds, h => by
    have ih := selP_prod p ls ds (fun x hx => h x (by simp [hx])); have hd := h d (by simp); simp only [selP]; have h1 : 1 * prodI ds ≤ d * prodI ds := Int.mul_le_mul_of_nonneg_right hd (by omega)
    split
    · rw [prodI_cons, prodI_cons]; have h2 : d * prodI (selP p ls ds) ≤ d * prodI ds := Int.mul_le_mul_of_nonneg_left ih.2 (by omega); have h3 : 1 * 1 ≤ d * prodI (selP p ls ds) := Int.mul_le_mul hd ih.1 (by omega) (by omega)
      omega
    · rw [prodI_cons]; omega
theorem joinD_prod {k p n : Int} {t u : Ten} (h1 : tensorL k p n t.l t.d t.x) (h2 : tensorL k p n u.l u.d u.x) : dimsIn (joinD t u) ∧ 1 ≤ prodI (joinD t u) ∧ prodI (joinD t u) ≤ 16777216 := by
  have a1 := dims_mem (axes_dims (ten_axes h1)); have a2 := dims_mem (axes_dims (ten_axes h2)); have p1 := prodI_one fun d hd => (a1 d hd).1; have s := selP_prod (fun x => decide (x ∉ t.l)) u.l u.d fun d hd => (a2 d hd).1; have b1 := ten_prod h1; have b2 := ten_prod h2; have hm : ∀ (p : Int → Bool) (ls ds : List Int) d, d ∈ selP p ls ds → d ∈ ds := by
    intro p ls
    induction ls with
    | nil => intro ds d hd; cases ds <;> simp [selP] at hd
    | cons l ls ih =>
      intro ds d hd
      cases ds with
      | nil => simp [selP] at hd
      | cons e ds =>
        simp only [selP] at hd
        split at hd
        · rcases List.mem_cons.1 hd with rfl | hd
          · simp
          · exact List.mem_cons_of_mem _ (ih ds d hd)
        · exact List.mem_cons_of_mem _ (ih ds d hd)
  refine ⟨fun j hj => ?_, ?_⟩
  · have := mem_getD hj
    rcases List.mem_append.1 this with h | h
    · exact a1 _ h
    · exact a2 _ (hm _ _ _ _ h)
  · rw [joinD, prodI_append]; have h3 : 1 * 1 ≤ prodI t.d * prodI (selP (fun x => decide (x ∉ t.l)) u.l u.d) := Int.mul_le_mul p1 s.1 (by omega) (by omega); have h4 : prodI t.d * prodI (selP (fun x => decide (x ∉ t.l)) u.l u.d) ≤ 4096 * 4096 := Int.mul_le_mul b1 (by omega) (by omega) (by omega)
    omega
theorem ct_u_joinAxes (t u : Ten) (a b c a' b' c' : Value) (w : World) (r1 : IntsR t.l a (hp w)) (r2 : IntsR t.d b (hp w)) (r3 : IntsR t.x c (hp w)) (r1' : IntsR u.l a' (hp w)) (r2' : IntsR u.d b' (hp w)) (r3' : IntsR u.x c' (hp w)) (ht : t.l.length = t.d.length) (hu : u.l.length = u.d.length) (htn : t.l.Nodup) (hn : u.l.Nodup) (hs : t.l.length + u.l.length ≤ 100000) :
    Calls Tryz.prog 107 [tenV a b c, tenV a' b' c'].toArray w (Ret w emp (fun x h => ∃ v1 v2 bb L D, x = .tuple [v1, v2, .bool bb].toArray ∧ IntsR L v1 h ∧ IntsR D v2 h ∧ (bb = true ↔ ¬ mism t u) ∧ (bb = true → L = joinI t.l u.l ∧ D = joinD t u))) :=
  (ct_i_joinAxes t u a b c a' b' c' w r1 r2 r3 r1' r2' r3' ht hu htn hn hs).mono fun _ _ hh => by
    obtain ⟨x, h', h1, h2, h3⟩ := hh; refine ⟨x, h', h1, h2, ?_⟩
    by_cases hm : mism t u
    · exact ⟨_, _, false, [], [], h3.1 hm, IntsR.nil _, IntsR.nil _, ⟨fun e => (by cases e), fun e => absurd hm e⟩, fun e => (by cases e)⟩
    · obtain ⟨v1, v2, e, q1, q2⟩ := h3.2 hm; exact ⟨v1, v2, true, _, _, e, q1, q2, ⟨fun _ => hm, fun _ => rfl⟩, fun _ => ⟨rfl, rfl⟩⟩
theorem setif_yes {A B L : List Int} {i j : Nat} {y z : Int} (hB : B = if y ∈ L.take j then A.set i z else A) (hj : j < L.length) (e : L.getD j 0 = y) : B.set i z = if y ∈ L.take (j + 1) then A.set i z else A := by
  rw [if_pos (by rw [take_succ hj, e]; simp), hB]
  split
  · rw [List.set_set]
  · rfl
theorem setif_no {A B L : List Int} {i j : Nat} {y z : Int} (hB : B = if y ∈ L.take j then A.set i z else A) (hj : j < L.length) (e : ¬ L.getD j 0 = y) : B = if y ∈ L.take (j + 1) then A.set i z else A := by
  have : y ∈ L.take (j + 1) ↔ y ∈ L.take j := by
    rw [take_succ hj, List.mem_append]; exact ⟨fun h => h.resolve_right fun h => by simp at h; exact e h.symm, .inl⟩
  rw [hB]
  by_cases h : y ∈ L.take j
  · rw [if_pos h, if_pos (this.2 h)]
  · rw [if_neg h, if_neg fun h' => h (this.1 h')]
set_option maxHeartbeats 8000000 in
theorem ct_i_ContractPair (k p n : Int) (t u : Ten) (ks : List Int) (a b c a' b' c' v : Value) (w : World) (r1 : IntsR t.l a (hp w)) (r2 : IntsR t.d b (hp w)) (r3 : IntsR t.x c (hp w)) (r1' : IntsR u.l a' (hp w)) (r2' : IntsR u.d b' (hp w)) (r3' : IntsR u.x c' (hp w)) (rk : IntsR ks v (hp w)) :
    Calls Tryz.prog 69 [ringV k p n, tenV a b c, tenV a' b' c', v].toArray w (Ret w emp (TenB (pairR k p n t u ks) (pairB k p n t u ks))) := by
  have hkr : ∀ {L : List Int} {d : List Int}, 0 ≤ sizeI L d → L.length ≤ 12 ∧ d.length ≤ 12 ∧ dimsIn d := fun {L d} h => by
    have := (sizeI_ge.1 h).1; have h1 := this.1; have h2 := this.2.1; exact ⟨h1, by omega, axes_dims this⟩
  refine calls_in Tryz.func69 rfl Tryz.ntmps69 rfl (Sat.start w) ?_; have hle0 := r1.le; have hle1 := r2.le; have hle2 := r3.le; have hle3 := r1'.le; have hle4 := r2'.le; have hle5 := r3'.le; have hle6 := rk.le; refine wp_sc (wp_sq ?_); refine sq_x rfl (x_box rfl rfl) rfl ?_; rintro _ _ ⟨b4, rfl, rfl⟩; refine sq_x rfl (x_box rfl rfl) rfl ?_; rintro _ _ ⟨b5, rfl, rfl⟩; refine sq_x rfl (x_box rfl rfl) rfl ?_; rintro _ _ ⟨b6, rfl, rfl⟩; refine sq_x rfl (x_alloc ty_55 rfl) rfl ?_; rintro _ _ ⟨b8, rfl, rfl⟩; refine sq_v rfl (v_assign rfl) rfl (sq_end (qs_n (wp_sc (wp_sc (wp_sq (sq_v rfl (v_loadNB 3 ty_24 rfl rfl rfl rfl) rfl (sq_v rfl (v_loadNB 2 ty_55 rfl rfl rfl rfl) rfl (sq_u rfl (x_callv rfl en_42 (fun w s => ct_i_TensorOk _ _ _ _ _ _ _ _ _ w (r1.mono (s.get 4 rfl)) (r2.mono (s.get 4 rfl)) (r3.mono (s.get 4 rfl)))) rfl ?_)))))))); refine sq_bb 26 rfl (fun c26 => ?_) (fun c26 => ?_)
  · refine sq_v rfl (v_not rfl) rfl (sq_v rfl (v_move rfl) rfl (sq_v rfl (v_loadNB 3 ty_24 rfl rfl rfl rfl) rfl (sq_v rfl (v_loadNB 1 ty_55 rfl rfl rfl rfl) rfl (sq_u rfl (x_callv rfl en_42 (fun w s => ct_i_TensorOk _ _ _ _ _ _ _ _ _ w (r1'.mono (s.get 4 rfl)) (r2'.mono (s.get 4 rfl)) (r3'.mono (s.get 4 rfl)))) rfl (sq_v rfl (v_not rfl) rfl (sq_v rfl (v_pickf rfl rfl) rfl (sq_end (qs_n ?_)))))))); refine wp_cn _ rfl (fun c33 => ?_) (fun c33 => ?_)
    · refine wp_sc (wp_sq (sq_v rfl (v_build [.slice none 0 0, .slice none 0 0, .slice none 0 0] rfl (by kernel_rfl)) rfl ?_)); refine sq_m 0 rfl rfl (m_store 0 ty_55 rfl rfl rfl rfl (by simp [one_sl]) rfl (Nat.le_of_ble_eq_true rfl)) rfl ?_; rintro _ _ ⟨rfl, rfl⟩; refine sq_v rfl (v_assign rfl) rfl (sq_end (qs_n (wp_rt (qs_r ?_)))); exact qs_retct 0 rfl ty_55 rfl rfl rfl rfl (fin_e (i := 4) rfl (PairNo (fun h => by first | exact tensorB_false.1 c26 h.1 | exact tensorB_false.1 c33 h.2.1)))
    · refine wp_sk (qs_n (wp_sc (wp_sq ?_))); have h1 := tensorB_true.1 c26; have h2 := tensorB_true.1 c33; have hat := ten_axes h1; have hau := ten_axes h2; have htl := hat.2.1; have hul := hau.2.1; have h12 := hat.1; have h12' := hau.1; have htn := axes_nodup hat; have hun := axes_nodup hau; have htp := ten_prod h1; have hup := ten_prod h2; have hjd := joinD_prod h1 h2; refine sq_v rfl (v_loadNB 2 ty_55 rfl rfl rfl rfl) rfl (sq_v rfl (v_loadNB 1 ty_55 rfl rfl rfl rfl) rfl ?_); refine sq_x rfl (x_call rfl en_107 (fun w s => ct_u_joinAxes _ _ _ _ _ _ _ _ w (r1.mono (s.get 4 rfl)) (r2.mono (s.get 4 rfl)) (r3.mono (s.get 4 rfl)) (r1'.mono (s.get 4 rfl)) (r2'.mono (s.get 4 rfl)) (r3'.mono (s.get 4 rfl)) (by first | assumption | omega) (by first | assumption | omega) (by first | assumption | omega) (by first | assumption | omega) (by first | assumption | omega))) rfl ?_; rintro _ h38 ⟨v1, v2, bb, L, D, rfl, q1, q2, hbb, hLD⟩; refine sq_v rfl (v_move rfl) rfl (sq_v rfl (v_extract rfl rfl) rfl (sq_v rfl (v_extract rfl rfl) rfl (sq_v rfl (v_extract rfl rfl) rfl (sq_v rfl (v_assign rfl) rfl (sq_v rfl (v_assign rfl) rfl (sq_v rfl (v_assign rfl) rfl (sq_end (qs_n (wp_sc (wp_sc (wp_sq ?_))))))))))); refine sq_bb 12 rfl (fun c12 => ?_) (fun c12 => ?_)
      · refine sq_v rfl (v_move rfl) rfl (sq_v rfl (v_not rfl) rfl (sq_v rfl (v_move rfl) rfl (sq_v rfl (v_move rfl) rfl ?_))); have hnm := hbb.1 c12; obtain ⟨eL, eD⟩ := hLD c12; rw [← eD] at hjd; have hjd1 := hjd.1; have hjl := joinI_len t.l u.l; rw [← eL] at hjl; refine sq_u rfl (x_callv rfl en_48 (fun w s => ct_i_productOf _ _ w (q2.mono (s.get 0 rfl)) (by first | assumption | omega) (by first | assumption | omega))) rfl (sq_v rfl (v_gtr rfl rfl) rfl (sq_v rfl (v_pickf rfl rfl) rfl (sq_end (qs_n ?_)))); refine wp_cd rfl (fun c48 => ?_) (fun c48 => ?_)
        · refine wp_sc (wp_sq (sq_v rfl (v_build [.slice none 0 0, .slice none 0 0, .slice none 0 0] rfl (by kernel_rfl)) rfl ?_)); refine sq_m 1 rfl rfl (m_store 1 ty_55 rfl rfl rfl rfl (by simp [one_sl]) rfl (Nat.le_of_ble_eq_true rfl)) rfl ?_; rintro _ _ ⟨rfl, rfl⟩; refine sq_v rfl (v_assign rfl) rfl (sq_end (qs_n (wp_rt (qs_r ?_)))); exact qs_retct 1 rfl ty_55 rfl rfl rfl rfl (fin_e (i := 5) rfl (PairNo (fun h => by first | exact absurd (c12.symm.trans (hbb.2 h.2.2.1)) (by decide) | (have := h.2.2.2.1; rw [← eD] at this; omega))))
        · refine wp_sk (qs_n (wp_sc (wp_sq (sq_v rfl (v_move rfl) rfl (sq_v rfl (v_move rfl) rfl ?_))))); refine sq_x rfl (x_call rfl en_108 (fun w s => ct_i_keptOnly _ _ _ _ w (q1.mono (s.get 0 rfl)) (rk.mono (s.get 5 rfl)) (by first | assumption | omega))) rfl ?_; rintro v52 h52 r52; refine sq_v rfl (v_assign rfl) rfl (sq_end ?_); obtain ⟨K, hK⟩ : ∃ K, K = L.filter (fun x => decide (x ∈ ks)) := ⟨_, rfl⟩
          have hfl := List.length_filter_le (fun x => decide (x ∈ ks)) L; rw [← hK] at r52 hfl; have hKk : K = keepL t u ks := by rw [hK, eL, keepL]
          have ok := pair_ok h1 h2 hnm (by rw [← eD]; omega); obtain ⟨ht, hu, eJ⟩ := pairP.dims h1 h2 hnm; obtain ⟨f, hf⟩ : ∃ f, f = dimJ t u := ⟨_, rfl⟩
          rw [← hf] at ok ht hu eJ; have eDf : D = L.map f := by rw [eD, eJ, eL]
          have hDL : D.length = L.length := by rw [eDf]; simp
          have hKm : (K.map f).length = K.length := by simp
          have hKL : ∀ x ∈ K, x ∈ L := fun x hx => by rw [hK] at hx; exact (List.mem_filter.1 hx).1
          refine qs_n (wp_sc (wp_sq (sq_v rfl (v_move rfl) rfl (sq_v rfl (v_move rfl) rfl (sq_v rfl (v_len Tryz.underlying27 rfl r52.toR.sl) rfl ?_))))); refine sq_x rfl (x_makeI Tryz.underlying27 ty_3 rfl rfl (by first | omega | (simp; omega) | (simp only [List.length_append, List.length_cons, List.length_nil]; omega) | (rw [List.length_set]; omega)) (by first | omega | (simp; omega) | (simp only [List.length_append, List.length_cons, List.length_nil]; omega) | (rw [List.length_set]; omega)) (by first | omega | (simp; omega) | (simp only [List.length_append, List.length_cons, List.length_nil]; omega) | (rw [List.length_set]; omega))) rfl ?_; intro v56 h56 r56; refine sq_v rfl (v_build [v52, v56, .slice none 0 0] rfl (by obtain ⟨_, _, rfl⟩ := r52.toR.sl; obtain ⟨_, _, rfl⟩ := r56.toR.sl; kernel_rfl)) rfl ?_; refine sq_x rfl (x_alloc ty_55 rfl) rfl ?_; rintro _ _ ⟨b14, rfl, rfl⟩; refine sq_m 0 rfl rfl (m_store 0 ty_55 rfl rfl rfl rfl (by simp [r52.toR.sl.one, r56.toR.sl.one, one_sl]) rfl (Nat.le_of_ble_eq_true rfl)) rfl ?_; rintro _ _ ⟨rfl, rfl⟩; refine sq_end (qs_n (wp_sc (wp_sc (wp_sq (sq_v rfl (v_move rfl) rfl (sq_v rfl (v_len Tryz.underlying27 rfl r52.toR.sl) rfl (sq_v rfl (v_move rfl) rfl (sq_end (qs_n (wp_bl ?_)))))))))); refine wp_lp (σ := Nat × PH) (fun z_ => [(4, .pointer (some ⟨b4, 0, none⟩)), (5, .pointer (some ⟨b5, 0, none⟩)), (6, .pointer (some ⟨b6, 0, none⟩)), (8, .pointer (some ⟨b8, 0, none⟩)), (9, .bool false), (10, v1), (11, v2), (14, .pointer (some ⟨b14, 0, none⟩)), (55, num K.length), (58, v52), (59, num K.length), (60, num z_.1)]) (fun z_ => [box b14 [v52, v56, .slice none 0 0] 55, z_.2, h52, h38, box b8 [.slice none 0 0, .slice none 0 0, .slice none 0 0] 55, box b6 [a', b', c'] 55, box b5 [a, b, c] 55, box b4 [num k, num p, num n] 24, hp w]) (fun z_ => z_.1 ≤ K.length ∧ IntsO ((K.map f).take z_.1 ++ List.replicate ((K.map f).length - z_.1) 0) v56 z_.2) (fun z_ => K.length - z_.1) (0, h56) (⟨by (try dsimp only); omega, by (try dsimp only); simpa using r56⟩) ⟨rfl, rfl, rfl, rfl, rfl, rfl, rfl, rfl, rfl, rfl, rfl, (by first | rfl | exact ksub rfl (by first | omega | (simp; done) | (simp; omega))), trivial⟩ (fun _ s => s) ?_; rintro ⟨i, g⟩ ⟨hi, q⟩; dsimp only at hi q ⊢; have hle_q := q.toR.le; have hll : ((K.map f).take i ++ List.replicate ((K.map f).length - i) 0).length = K.length := by simp; omega
          refine wp_sc (wp_sq (sq_v rfl (v_lss rfl rfl) rfl (sq_end (qs_n (wp_sc ?_))))); refine wp_cd rfl (fun c61 => ?_) (fun c61 => ?_)
          · refine wp_sk (qs_n (wp_sc (wp_bl (wp_sc (wp_sq (sq_v rfl (v_move rfl) rfl ?_)))))); refine sq_v rfl (v_idxI Tryz.underlying27 ty_3 rfl rfl r52.toR (by first | omega | (simp; omega) | (simp only [List.length_append, List.length_cons, List.length_nil]; omega) | (rw [List.length_set]; omega)) (by first | omega | (simp; omega) | (simp only [List.length_append, List.length_cons, List.length_nil]; omega) | (rw [List.length_set]; omega))) rfl ?_; refine sq_v rfl (v_loadI (k := i) 2 ty_3 rfl rfl r52.toR (by first | omega | (simp; omega) | (simp only [List.length_append, List.length_cons, List.length_nil]; omega) | (rw [List.length_set]; omega))) rfl ?_; refine sq_v rfl (v_assign rfl) rfl (sq_v rfl (v_assign rfl) rfl (sq_end (qs_n (wp_sc (wp_sq (sq_v rfl (v_move rfl) rfl (sq_v rfl (v_len Tryz.underlying27 rfl q1.sl) rfl (sq_v rfl (v_move rfl) rfl (sq_end (qs_n (wp_bl ?_))))))))))); refine wp_lp (σ := Nat × (List Int) × PH) (fun z_ => [(4, .pointer (some ⟨b4, 0, none⟩)), (5, .pointer (some ⟨b5, 0, none⟩)), (6, .pointer (some ⟨b6, 0, none⟩)), (8, .pointer (some ⟨b8, 0, none⟩)), (9, .bool false), (10, v1), (11, v2), (14, .pointer (some ⟨b14, 0, none⟩)), (15, num i), (16, num (K.getD i 0)), (55, num K.length), (58, v52), (59, num K.length), (60, num i), (61, .bool (decide ((i : Int) < K.length))), (62, num i), (64, num (K.getD i 0)), (65, v1), (66, num L.length), (67, num z_.1)]) (fun z_ => [box b14 [v52, v56, .slice none 0 0] 55, z_.2.2, h52, h38, box b8 [.slice none 0 0, .slice none 0 0, .slice none 0 0] 55, box b6 [a', b', c'] 55, box b5 [a, b, c] 55, box b4 [num k, num p, num n] 24, hp w]) (fun z_ => z_.1 ≤ L.length ∧ (z_.2.1 = if K.getD i 0 ∈ L.take z_.1 then ((K.map f).take i ++ List.replicate ((K.map f).length - i) 0).set i (f (K.getD i 0)) else ((K.map f).take i ++ List.replicate ((K.map f).length - i) 0)) ∧ z_.2.1.length = K.length ∧ IntsO z_.2.1 v56 z_.2.2) (fun z_ => L.length - z_.1) (0, ((K.map f).take i ++ List.replicate ((K.map f).length - i) 0), g) (⟨by (try dsimp only); omega, by (try dsimp only); simp, hll, q⟩) ⟨rfl, rfl, rfl, rfl, rfl, rfl, rfl, rfl, rfl, rfl, rfl, rfl, rfl, rfl, rfl, rfl, rfl, rfl, rfl, (by first | rfl | exact ksub rfl (by first | omega | (simp; done) | (simp; omega))), trivial⟩ (fun _ s => s) ?_; rintro ⟨j, B, g2⟩ ⟨hj, hB, hBl, q2b⟩; dsimp only at hj hB hBl q2b ⊢; have hle_q2b := q2b.toR.le; refine wp_sc (wp_sq (sq_v rfl (v_lss rfl rfl) rfl (sq_end (qs_n (wp_sc ?_))))); refine wp_cd rfl (fun c68 => ?_) (fun c68 => ?_)
            · refine wp_sk (qs_n (wp_sc (wp_bl (wp_sc (wp_sq (sq_v rfl (v_move rfl) rfl ?_)))))); refine sq_v rfl (v_idxI Tryz.underlying27 ty_3 rfl rfl q1 (by first | omega | (simp; omega) | (simp only [List.length_append, List.length_cons, List.length_nil]; omega) | (rw [List.length_set]; omega)) (by first | omega | (simp; omega) | (simp only [List.length_append, List.length_cons, List.length_nil]; omega) | (rw [List.length_set]; omega))) rfl ?_; refine sq_v rfl (v_loadI (k := j) 3 ty_3 rfl rfl q1 (by first | omega | (simp; omega) | (simp only [List.length_append, List.length_cons, List.length_nil]; omega) | (rw [List.length_set]; omega))) rfl ?_; refine sq_v rfl (v_assign rfl) rfl (sq_v rfl (v_assign rfl) rfl (sq_end (qs_n (wp_sc (wp_sq (sq_v rfl (v_move rfl) rfl (sq_v rfl (v_move rfl) rfl (sq_v rfl (v_eql rfl rfl) rfl (sq_end (qs_n ?_)))))))))); refine wp_cd rfl (fun c74 => ?_) (fun c74 => ?_)
              · refine wp_rj 8 [(0, true), (1, true), (2, true), (3, true), (4, true), (5, true), (6, true), (7, true), (8, false)] mixed_ok (by kernel_rfl) (rj_v rfl rfl (v_fieldAddr fd_55_1 ty_27 (by decide) rfl) rfl (rj_v rfl rfl (v_loadB 0 ty_27 rfl rfl rfl) rfl (rj_v rfl rfl (v_move rfl) rfl (rj_v rfl rfl (v_move rfl) rfl (rj_v rfl rfl (v_move rfl) rfl ?_))))); refine rj_v rfl rfl (v_idxI Tryz.underlying27 ty_3 rfl rfl q2 (by first | omega | (simp; omega) | (simp only [List.length_append, List.length_cons, List.length_nil]; omega) | (rw [List.length_set]; omega)) (by first | omega | (simp; omega) | (simp only [List.length_append, List.length_cons, List.length_nil]; omega) | (rw [List.length_set]; omega))) rfl ?_; refine rj_v rfl rfl (v_loadI (k := j) 3 ty_3 rfl rfl q2 (by first | omega | (simp; omega) | (simp only [List.length_append, List.length_cons, List.length_nil]; omega) | (rw [List.length_set]; omega))) rfl ?_; refine rj_v rfl rfl (v_idxI Tryz.underlying27 ty_3 rfl rfl q2b.toR (by first | omega | (simp; omega) | (simp only [List.length_append, List.length_cons, List.length_nil]; omega) | (rw [List.length_set]; omega)) (by first | omega | (simp; omega) | (simp only [List.length_append, List.length_cons, List.length_nil]; omega) | (rw [List.length_set]; omega))) rfl ?_; refine rj_m 1 rfl rfl rfl rfl (m_storeI (k := i) 1 ty_3 rfl rfl rfl q2b (by first | omega | (simp; omega) | (simp only [List.length_append, List.length_cons, List.length_nil]; omega) | (rw [List.length_set]; omega))) rfl ?_; rintro _ h_q15_8 ⟨rfl, q15_8⟩; refine rj_end ?_; have eDj : D.getD j 0 = f (K.getD i 0) := by rw [eDf, map_getD (by omega), c74]
                rw [eDj] at q15_8; refine qs_bn (qs_n (wp_sq ?_)); refine sq_v rfl (v_add rfl rfl ((by unfold I64; omega))) rfl ?_; refine sq_v rfl (v_move rfl) rfl (sq_end ?_); exact qs_bk (j + 1, B.set i (f (K.getD i 0)), h_q15_8) ⟨by (try dsimp only); omega, setif_yes hB (by omega) c74, by (try dsimp only); rw [List.length_set]; exact hBl, q15_8⟩ (by simp only; omega) ⟨rfl, rfl, rfl, rfl, rfl, rfl, rfl, rfl, rfl, rfl, rfl, rfl, rfl, rfl, rfl, rfl, rfl, rfl, rfl, (by first | rfl | exact ksub rfl (by first | omega | (simp; done) | (simp; omega))), trivial⟩ (fun _ s => s)
              · refine wp_sk (qs_bn (qs_n (wp_sq ?_))); refine sq_v rfl (v_add rfl rfl ((by unfold I64; omega))) rfl ?_; refine sq_v rfl (v_move rfl) rfl (sq_end ?_); exact qs_bk (j + 1, B, g2) ⟨by (try dsimp only); omega, setif_no hB (by omega) c74, hBl, q2b⟩ (by simp only; omega) ⟨rfl, rfl, rfl, rfl, rfl, rfl, rfl, rfl, rfl, rfl, rfl, rfl, rfl, rfl, rfl, rfl, rfl, rfl, rfl, (by first | rfl | exact ksub rfl (by first | omega | (simp; done) | (simp; omega))), trivial⟩ (fun _ s => s)
            · refine wp_ex (qs_x (qs_x (qs_bx (qs_bn (qs_n (wp_sq ?_)))))); refine sq_v rfl (v_add rfl rfl ((by unfold I64; omega))) rfl ?_; refine sq_v rfl (v_move rfl) rfl (sq_end ?_); exact qs_bk (i + 1, g2) ⟨by (try dsimp only); omega, by (try dsimp only); rw [← set_prefix (by omega), map_getD (by omega)]; rw [if_pos (by rw [List.take_of_length_le (by omega)]; exact hKL _ (mem_getD (by omega)))] at hB; rw [← hB]; exact q2b⟩ (by simp only; omega) ⟨rfl, rfl, rfl, rfl, rfl, rfl, rfl, rfl, rfl, rfl, rfl, (by first | rfl | exact ksub rfl (by first | omega | (simp; done) | (simp; omega))), trivial⟩ (fun _ s => s)
          · refine wp_ex (qs_x (qs_x (qs_bx (qs_n (wp_sc (wp_sc (wp_sq ?_))))))); rw [List.take_of_length_le (by omega), show (K.map f).length - i = 0 by omega, List.replicate_zero, List.append_nil] at q; refine sq_v rfl (v_loadNB 0 ty_55 rfl rfl rfl rfl) rfl (sq_u rfl (x_callv rfl en_44 (fun w s => ct_i_TensorSize _ _ _ _ _ w (r52.toR.mono (s.get 2 rfl)) (q.toR.mono (s.get 1 rfl)))) rfl (sq_v rfl (v_eql rfl rfl) rfl (sq_end (qs_n ?_)))); refine wp_cd rfl (fun c87 => ?_) (fun c87 => ?_)
            · refine wp_sc (wp_sq (sq_v rfl (v_build [.slice none 0 0, .slice none 0 0, .slice none 0 0] rfl (by kernel_rfl)) rfl ?_)); refine sq_m 4 rfl rfl (m_store 4 ty_55 rfl rfl rfl rfl (by simp [one_sl]) rfl (Nat.le_of_ble_eq_true rfl)) rfl ?_; rintro _ _ ⟨rfl, rfl⟩; refine sq_v rfl (v_assign rfl) rfl (sq_end (qs_n (wp_rt (qs_r ?_)))); exact qs_retct 4 rfl ty_55 rfl rfl rfl rfl (fin_e (i := 8) rfl (PairNo (fun h => by have := h.2.2.2.2; rw [← hKk, ← hf] at this; omega)))
            · refine wp_sk (qs_n (wp_sc (wp_rj 8 [(0, true), (1, true), (2, true), (3, true), (4, true), (5, true), (6, false), (7, false), (8, false)] mixed_ok (by kernel_rfl) ?_))); have hsz : 0 ≤ sizeI K (K.map f) := (by have := sizeI_range K (K.map f); omega); obtain ⟨hK1, hK2, hKi⟩ := hkr hsz; have hk : KeepOK t u f K := (by rw [hf, hKk]; rw [hf] at ok; exact keep_ok ok (by rw [← hKk, ← hf]; exact hsz)); have hKp := hk.small; have hwr := width_range h1.1; have hring := h1.1; have hzl := zeroL_len k p n; refine rj_v rfl rfl (v_loadNB 7 ty_24 rfl rfl rfl rfl) rfl (rj_v rfl rfl (v_fieldAddr fd_55_0 ty_27 (by decide) rfl) rfl (rj_v rfl rfl (v_loadB 0 ty_27 rfl rfl rfl) rfl (rj_v rfl rfl (v_fieldAddr fd_55_1 ty_27 (by decide) rfl) rfl (rj_v rfl rfl (v_loadB 0 ty_27 rfl rfl rfl) rfl (rj_v rfl rfl (v_loadNB 7 ty_24 rfl rfl rfl rfl) rfl ?_))))); refine rj_x rfl rfl (x_call rfl en_46 (fun w s => ct_i_rawZero _ _ _ w (by first | assumption | omega))) rfl ?_; rintro v95 h95 r95; refine rj_x rfl rfl (x_call rfl en_109 (fun w s => ct_i_fillTensor _ _ _ _ _ _ _ _ _ w (r52.toR.mono (s.get 3 rfl)) (q.toR.mono (s.get 2 rfl)) (r95.toR.mono (s.get 0 rfl)) (by first | assumption | omega) (by first | assumption | omega) (by first | assumption | omega) (by first | assumption | omega) (by first | assumption | omega))) rfl ?_; rintro _ h96 ⟨va96, vb96, vc96, rfl, o96⟩; refine rj_m 2 rfl rfl rfl rfl (m_store 2 ty_55 rfl rfl rfl rfl (by simp [o96.toR.1.sl.one, o96.toR.2.1.sl.one, o96.toR.2.2.sl.one]) rfl (Nat.le_of_ble_eq_true rfl)) rfl ?_; rintro _ _ ⟨rfl, rfl⟩; refine rj_end ?_; obtain ⟨go1, go2, go3, qo1, qo2, qo3, mdo⟩ := o96; have hKd := map_dim ok.dim hk.sub; have hnd := ok.nd; have hDd := map_dim ok.dim (fun _ h => h); rw [← eL] at hnd hDd; rw [← eDf] at hDd; have hD1 : ∀ d ∈ D, 1 ≤ d := fun d hd => (hDd d hd).1; have hsA := stepsL_len L t.l t.d; have hsB := stepsL_len L u.l u.d; have hsC := stepsL_len L K (K.map f); have hA : ∀ a ∈ stepsL L t.l t.d, 0 ≤ a ∧ a ≤ 1048576 := fun a h => by have := steps_in (fun d hd => (dims_mem (axes_dims hat) d hd).1) a h; omega
              have hBs : ∀ a ∈ stepsL L u.l u.d, 0 ≤ a ∧ a ≤ 1048576 := fun a h => by have := steps_in (fun d hd => (dims_mem (axes_dims hau) d hd).1) a h; omega
              have hC : ∀ a ∈ stepsL L K (K.map f), 0 ≤ a ∧ a ≤ 1048576 := fun a h => by have := steps_in (fun d hd => (hKd d hd).1) a h; omega
              refine qs_s [h95, box b14 [va96, vb96, vc96] 55, g, h52, h38, box b8 [.slice none 0 0, .slice none 0 0, .slice none 0 0] 55, box b6 [a', b', c'] 55, box b5 [a, b, c] 55, box b4 [num k, num p, num n] 24, hp w, go1, go2, go3] (fun _ s => Sat.open (A := [h95, box b14 [va96, vb96, vc96] 55, g, h52, h38, box b8 [.slice none 0 0, .slice none 0 0, .slice none 0 0] 55, box b6 [a', b', c'] 55, box b5 [a, b, c] 55, box b4 [num k, num p, num n] 24, hp w]) mdo (s.pick [0, 1, 2, 3, 4, 5, 6, 7, 8, 9, 10] (by decide) rfl)) (qs_n (wp_sc (wp_rj 12 [(0, true), (1, true), (3, true), (4, true), (6, true), (7, true), (2, false), (5, false), (8, false), (9, true), (10, true), (11, true)] mixed_ok (by kernel_rfl) (rj_v rfl rfl (v_loadNB 7 ty_55 rfl rfl rfl rfl) rfl (rj_v rfl rfl (v_move rfl) rfl (rj_v rfl rfl (v_loadNB 6 ty_55 rfl rfl rfl rfl) rfl (rj_v rfl rfl (v_move rfl) rfl (rj_v rfl rfl (v_loadNB 1 ty_55 rfl rfl rfl rfl) rfl (rj_v rfl rfl (v_move rfl) rfl ?_))))))))); refine rj_x rfl rfl (x_call rfl en_91 (fun w s => ct_i_stridesOf _ _ _ _ _ _ _ w (r1.mono (s.get 9 rfl)) (r2.mono (s.get 9 rfl)) (q1.mono (s.get 4 rfl)) (by first | assumption | omega) (dims_mem (axes_dims hat)) (by first | assumption | omega) (by first | assumption | omega))) rfl ?_; rintro v99 h99 r99; refine rj_x rfl rfl (x_call rfl en_91 (fun w s => ct_i_stridesOf _ _ _ _ _ _ _ w (r1'.mono (s.get 10 rfl)) (r2'.mono (s.get 10 rfl)) (q1.mono (s.get 5 rfl)) (by first | assumption | omega) (dims_mem (axes_dims hau)) (by first | assumption | omega) (by first | assumption | omega))) rfl ?_; rintro v102 h102 r102; refine rj_x rfl rfl (x_call rfl en_91 (fun w s => ct_i_stridesOf K (K.map f) _ _ _ _ _ w (qo1.toR.mono (s.get 12 rfl)) (qo2.toR.mono (s.get 13 rfl)) (q1.mono (s.get 6 rfl)) (by first | assumption | omega) hKd (by first | assumption | omega) (by first | assumption | omega))) rfl ?_; rintro v105 h105 r105; refine rj_v rfl rfl (v_assign rfl) rfl (rj_v rfl rfl (v_assign rfl) rfl (rj_v rfl rfl (v_assign rfl) rfl (rj_end (qs_n (wp_sc (wp_sq (sq_v rfl (v_move rfl) rfl (sq_v rfl (v_len Tryz.underlying27 rfl q1.sl) rfl ?_)))))))); refine sq_x rfl (x_makeI Tryz.underlying27 ty_3 rfl rfl (by first | omega | (simp; omega) | (simp only [List.length_append, List.length_cons, List.length_nil]; omega) | (rw [List.length_set]; omega)) (by first | omega | (simp; omega) | (simp only [List.length_append, List.length_cons, List.length_nil]; omega) | (rw [List.length_set]; omega)) (by first | omega | (simp; omega) | (simp only [List.length_append, List.length_cons, List.length_nil]; omega) | (rw [List.length_set]; omega))) rfl ?_; intro v108 h108 r108; refine sq_v rfl (v_assign rfl) rfl (sq_end (qs_n (wp_sc (wp_sq (sq_v rfl (v_loadNB 12 ty_24 rfl rfl rfl rfl) rfl (sq_u rfl (x_callv rfl en_86 (fun w s => ct_i_rawWidth _ _ _ w)) rfl ?_)))))); refine sq_x rfl (x_makeI Tryz.underlying27 ty_3 rfl rfl (by first | omega | (simp; omega) | (simp only [List.length_append, List.length_cons, List.length_nil]; omega) | (rw [List.length_set]; omega)) (by first | omega | (simp; omega) | (simp only [List.length_append, List.length_cons, List.length_nil]; omega) | (rw [List.length_set]; omega)) (by first | omega | (simp; omega) | (simp only [List.length_append, List.length_cons, List.length_nil]; omega) | (rw [List.length_set]; omega))) rfl ?_; intro v111 h111 r111; refine sq_v rfl (v_assign rfl) rfl (sq_end (qs_n (wp_bl ?_))); refine wp_lp (σ := Nat × PH × PH × PH × (List Int)) (fun z_ => [(4, .pointer (some ⟨b4, 0, none⟩)), (5, .pointer (some ⟨b5, 0, none⟩)), (6, .pointer (some ⟨b6, 0, none⟩)), (8, .pointer (some ⟨b8, 0, none⟩)), (9, .bool false), (11, v2), (14, .pointer (some ⟨b14, 0, none⟩)), (19, v99), (20, v102), (21, v105), (22, v108), (23, v111), (55, num K.length)]) (fun z_ => [z_.2.2.2.1, z_.2.1, h105, h102, h99, h95, box b14 [va96, vb96, vc96] 55, g, h52, h38, box b8 [.slice none 0 0, .slice none 0 0, .slice none 0 0] 55, box b6 [a', b', c'] 55, box b5 [a, b, c] 55, box b4 [num k, num p, num n] 24, hp w, go1, go2, z_.2.2.1]) (fun z_ => z_.1 < (prodI D).toNat ∧ z_.2.2.2.2.length = (widthI k n).toNat ∧ IntsO (idxL D z_.1) v108 z_.2.1 ∧ IntsO (pairX k p n f t u K z_.1) vc96 z_.2.2.1 ∧ IntsO z_.2.2.2.2 v111 z_.2.2.2.1) (fun z_ => (prodI D).toNat - z_.1) (0, h108, go3, h111, (List.replicate (widthI k n : Int).toNat 0)) (⟨by (try dsimp only); omega, by (try dsimp only); simp, by (try dsimp only); rw [show ((0 : Nat) : Int) = 0 from rfl, idxL_zero, hDL]; simpa using r108, qo3, r111⟩) ⟨rfl, rfl, rfl, rfl, rfl, rfl, rfl, rfl, rfl, rfl, rfl, rfl, rfl, trivial⟩ (fun _ s => s) ?_; rintro ⟨m, gi, gx, gz, zs⟩ ⟨hm, hzs, qi, qx, qz⟩; dsimp only at hm hzs qi qx qz ⊢; have hle_qi := qi.toR.le; have hle_qx := qx.toR.le; have hle_qz := qz.toR.le; have hil := idxL_len D m; have hii := idxL_in hD1 m; have hib : ∀ b ∈ idxL D m, 0 ≤ b ∧ b ≤ 1048576 := all_of fun j hj => by have := hii.2 j (by omega); have := hjd1 j (by omega); omega
              have hpx := ok.small hk m; have ex : dotL (stepsL L t.l t.d) (idxL D m) = atI f (joinI t.l u.l) t.l m := by rw [atI, ← ht, ← eL, ← eDf]
              have ey : dotL (stepsL L u.l u.d) (idxL D m) = atI f (joinI t.l u.l) u.l m := by rw [atI, ← hu, ← eL, ← eDf]
              have ez : dotL (stepsL L K (K.map f)) (idxL D m) = atI f (joinI t.l u.l) K m := by rw [atI, ← eL, ← eDf]
              have hx0 := ok.at_t m; have hy0 := ok.at_u m; have hz0 := ok.at_k hk m; have hXr := ok.el_t m; have hYr := ok.el_u m; have hZr := (ok.all hk m).el hring hz0.1 hz0.2; have hzf := ok.fits hk m; rw [← ex] at hx0 hXr; rw [← ey] at hy0 hYr; rw [← ez] at hz0 hZr hzf; have hMr := mulL_in hring hXr hYr; have hxf := elt_fits ok.tt hx0.2; have hyf := elt_fits ok.uu hy0.2; have hz1 := Int.mul_nonneg hz0.1 (show 0 ≤ widthI k n by omega); have hz2 := Int.add_mul (dotL (stepsL L K (K.map f)) (idxL D m)) 1 (widthI k n); rw [Int.one_mul] at hz2; have hMl := hMr.1; refine wp_bl (wp_sc (wp_rj 14 [(0, true), (1, true), (2, true), (3, true), (4, true), (5, true), (8, true), (9, true), (10, true), (11, true), (6, false), (7, false), (12, false), (13, false), (14, false)] mixed_ok (by kernel_rfl) (rj_v rfl rfl (v_loadNB 13 ty_24 rfl rfl rfl rfl) rfl (rj_v rfl rfl (v_move rfl) rfl (rj_v rfl rfl (v_loadNB 13 ty_24 rfl rfl rfl rfl) rfl (rj_v rfl rfl (v_loadNB 12 ty_55 rfl rfl rfl rfl) rfl (rj_v rfl rfl (v_move rfl) rfl (rj_v rfl rfl (v_move rfl) rfl (rj_v rfl rfl (v_loadNB 13 ty_24 rfl rfl rfl rfl) rfl (rj_v rfl rfl (v_loadNB 11 ty_55 rfl rfl rfl rfl) rfl (rj_v rfl rfl (v_move rfl) rfl ?_))))))))))); refine rj_v rfl rfl (v_move rfl) rfl (rj_u rfl rfl (x_callv rfl en_90 (fun w s => ct_i_dotOf _ _ _ _ w (r99.toR.mono (s.get 4 rfl)) (qi.toR.mono (s.get 1 rfl)) (by first | assumption | omega) (by first | assumption | omega) (by first | assumption | omega) (by first | assumption | omega))) rfl (rj_u rfl rfl (x_callv rfl en_51 (fun w s => ct_i_rawElem _ _ _ _ _ _ _ _ w (by first | assumption | omega) (r3.mono (s.get 14 rfl)) (by first | assumption | omega) (by first | assumption | omega) (by first | assumption | omega))) rfl (rj_u rfl rfl (x_callv rfl en_90 (fun w s => ct_i_dotOf _ _ _ _ w (r102.toR.mono (s.get 3 rfl)) (qi.toR.mono (s.get 1 rfl)) (by first | assumption | omega) (by first | assumption | omega) (by first | assumption | omega) (by first | assumption | omega))) rfl (rj_u rfl rfl (x_callv rfl en_51 (fun w s => ct_i_rawElem _ _ _ _ _ _ _ _ w (by first | assumption | omega) (r3'.mono (s.get 14 rfl)) (by first | assumption | omega) (by first | assumption | omega) (by first | assumption | omega))) rfl ?_)))); refine rj_m 0 rfl rfl rfl rfl (x_call rfl en_95 (fun w s => ct_i_mulInto _ _ _ _ _ _ _ _ _ w _ (by first | assumption | omega) (s.get 0 rfl) qz ((eltV_read r3 (by first | assumption | omega) (by first | assumption | omega) (by first | assumption | omega)).mono (s.getR 0 14 rfl rfl (by decide))) ((eltV_read r3' (by first | assumption | omega) (by first | assumption | omega) (by first | assumption | omega)).mono (s.getR 0 14 rfl rfl (by decide))) (by first | assumption | omega) (by first | assumption | omega) (by first | assumption | omega))) rfl ?_; rintro _ h126 r126; refine rj_end (qs_n (wp_sc (wp_rj 8 [(0, true), (1, true), (2, true), (3, true), (4, true), (7, true), (5, false), (6, false), (8, false)] mixed_ok (by kernel_rfl) (rj_v rfl rfl (v_loadNB 13 ty_24 rfl rfl rfl rfl) rfl (rj_v rfl rfl (v_loadNB 13 ty_24 rfl rfl rfl rfl) rfl (rj_v rfl rfl (v_loadNB 6 ty_55 rfl rfl rfl rfl) rfl (rj_v rfl rfl (v_move rfl) rfl (rj_v rfl rfl (v_move rfl) rfl (rj_v rfl rfl (v_move rfl) rfl (rj_u rfl rfl (x_callv rfl en_90 (fun w s => ct_i_dotOf _ _ _ _ w (r105.toR.mono (s.get 2 rfl)) (qi.toR.mono (s.get 1 rfl)) (by first | assumption | omega) (by first | assumption | omega) (by first | assumption | omega) (by first | assumption | omega))) rfl (rj_u rfl rfl (x_callv rfl en_51 (fun w s => ct_i_rawElem _ _ _ _ _ _ _ _ w (by first | assumption | omega) (qx.toR.mono (s.get 17 rfl)) (by first | assumption | omega) (by first | assumption | omega) (by first | assumption | omega))) rfl ?_))))))))))); refine rj_m 17 rfl rfl rfl rfl (x_call rfl en_57 (fun w s => ct_i_addInto _ _ _ _ _ ((dotL (stepsL L K (K.map f)) (idxL D m) * widthI k n).toNat) (((dotL (stepsL L K (K.map f)) (idxL D m) + 1) * widthI k n).toNat) vc96 _ w _ (by first | assumption | omega) (s.get 17 rfl) qx (r126.toR.mono (s.getR 17 0 rfl rfl (by decide))) (by omega) (by omega) (by rw [hMl]; exact hZr) hMr)) rfl ?_; rintro _ h135 r135; refine rj_end ?_; rw [hMl] at r135; refine qs_n (wp_sc (wp_sq (sq_v rfl (v_move rfl) rfl (sq_v rfl (v_move rfl) rfl ?_)))); refine sq_m 1 rfl rfl (x_call rfl en_110 (fun w s => ct_i_nextIndex _ _ _ _ w _ (s.get 1 rfl) (q2.mono (s.getR 1 9 rfl rfl (by decide))) qi (by first | assumption | omega) (by first | assumption | omega) (by first | assumption | omega))) rfl ?_; rintro _ h138 ⟨rfl, r138⟩; refine sq_v rfl (v_not rfl) rfl (sq_end (qs_n ?_)); refine wp_cnd rfl (fun c139 => ?_) (fun c139 => ?_)
              · refine wp_sc (wp_sq (sq_v rfl (v_loadNB 6 ty_55 rfl rfl rfl rfl) rfl ?_)); refine sq_m 10 rfl rfl (m_store 10 ty_55 rfl rfl rfl rfl (by simp [qo1.toR.sl.one, qo2.toR.sl.one, r135.toR.sl.one]) rfl (Nat.le_of_ble_eq_true rfl)) rfl ?_; rintro _ _ ⟨rfl, rfl⟩; refine sq_v rfl (v_assign rfl) rfl (sq_end (qs_n (wp_rt (qs_br (qs_r (qs_br ?_)))))); refine qs_close [box b8 _ _, hp w] [go1, go2, h135] (fun _ s => s.pick [10, 14, 15, 16, 17] (by decide) rfl) (fun md => ?_); exact qs_retct 1 rfl ty_55 rfl rfl rfl rfl (fin_t 0 (i := 2) rfl rfl rfl (PairYes ⟨h1, h2, hnm, by rw [← eD]; omega, by rw [← hKk, ← hf]; exact hsz⟩ ⟨_, _, _, (by rw [← hKk, ← hf]; exact qo1), (by rw [← hKk, ← hf]; exact qo2), (by rw [← hKk, ← hf, pairT, ← eL, ← eDf, show (prodI D).toNat = m + 1 by omega, pairX, ← ex, ← ey, ← ez]; exact r135), md⟩))
              · refine wp_sk (qs_bn ?_); exact qs_bk (m + 1, h138, h135, h126, mulL k p n (elt t.x (widthI k n) (dotL (stepsL L t.l t.d) (idxL D m))) (elt u.x (widthI k n) (dotL (stepsL L u.l u.d) (idxL D m)))) ⟨by (try dsimp only); omega, hMl, r138, by (try dsimp only); rw [pairX, ← ex, ← ey, ← ez]; exact r135, r126⟩ (by simp only; omega) ⟨rfl, rfl, rfl, rfl, rfl, rfl, rfl, rfl, rfl, rfl, rfl, rfl, rfl, trivial⟩ (fun _ s => s)
      · refine sq_v rfl (v_move rfl) rfl (sq_v rfl (v_not rfl) rfl (sq_v rfl (v_move rfl) rfl (sq_s rfl rfl (sq_s rfl rfl (sq_s rfl rfl (sq_v rfl (v_pickt rfl rfl) rfl (sq_end (qs_n (wp_ct rfl (wp_sc (wp_sq (sq_v rfl (v_build [.slice none 0 0, .slice none 0 0, .slice none 0 0] rfl (by kernel_rfl)) rfl ?_)))))))))))); refine sq_m 1 rfl rfl (m_store 1 ty_55 rfl rfl rfl rfl (by simp [one_sl]) rfl (Nat.le_of_ble_eq_true rfl)) rfl ?_; rintro _ _ ⟨rfl, rfl⟩; refine sq_v rfl (v_assign rfl) rfl (sq_end (qs_n (wp_rt (qs_r ?_)))); exact qs_retct 1 rfl ty_55 rfl rfl rfl rfl (fin_e (i := 5) rfl (PairNo (fun h => by first | exact absurd (c12.symm.trans (hbb.2 h.2.2.1)) (by decide) | (have := h.2.2.2.1; rw [← eD] at this; omega))))
  · refine sq_v rfl (v_not rfl) rfl (sq_v rfl (v_move rfl) rfl (sq_s rfl rfl (sq_s rfl rfl (sq_s rfl rfl (sq_s rfl rfl (sq_v rfl (v_pickt rfl rfl) rfl (sq_end (qs_n (wp_ct rfl (wp_sc (wp_sq (sq_v rfl (v_build [.slice none 0 0, .slice none 0 0, .slice none 0 0] rfl (by kernel_rfl)) rfl ?_)))))))))))); refine sq_m 0 rfl rfl (m_store 0 ty_55 rfl rfl rfl rfl (by simp [one_sl]) rfl (Nat.le_of_ble_eq_true rfl)) rfl ?_; rintro _ _ ⟨rfl, rfl⟩; refine sq_v rfl (v_assign rfl) rfl (sq_end (qs_n (wp_rt (qs_r ?_)))); exact qs_retct 0 rfl ty_55 rfl rfl rfl rfl (fin_e (i := 4) rfl (PairNo (fun h => by first | exact tensorB_false.1 c26 h.1 | exact tensorB_false.1 c33 h.2.1)))
end Go.Proofs.YtiefkcaplhnnmaaGreat
namespace Go.Proofs.YtiefkcaplhnnmaaGreat
set_option maxRecDepth 100000
open Go.RowKit
def oneT (k p n : Int) : Ten := ⟨[], [], oneL k p n⟩
theorem one_ten {k p n : Int} (h : ringL k p n) : tensorL k p n (oneT k p n).l (oneT k p n).d (oneT k p n).x := by
  have hs : sizeI [] [] = 1 := by
    have : axesL [] [] := ⟨by decide, rfl, fun j hj => by simp at hj⟩
    rw [sizeI_yes this (by decide)]; rfl
  have ho := oneL_in h; have hw := width_range h; refine ⟨h, by simp only [oneT]; omega, ?_, ho.2⟩; have := ho.1; simp only [oneT]; rw [hs]
  omega
theorem one_mism (k p n : Int) (t : Ten) : ¬ mism t (oneT k p n) := by
  rintro ⟨i, hi, _⟩
  simp [oneT] at hi
theorem one_joinD (k p n : Int) (t : Ten) : joinD t (oneT k p n) = t.d := by simp [joinD, oneT, selP]
theorem keep_axes {k p n : Int} {t u : Ten} {f : Int → Int} {K : List Int} (ok : PairOK k p n t u f) (hs : ∀ l ∈ K, l ∈ joinI t.l u.l) (hn : K.Nodup) (h12 : K.length ≤ 12) : axesL K (K.map f) := by
  refine ⟨h12, by simp, fun j hj => ⟨?_, ?_, nodup_not_take hn hj⟩⟩
  · rcases mem_joinI.1 (hs _ (mem_getD hj)) with h | h
    · obtain ⟨i, hi, e⟩ := getD_of_mem h; rw [← e]; exact ((ten_axes ok.tt).2.2 i hi).1
    · obtain ⟨i, hi, e⟩ := getD_of_mem h; rw [← e]; exact ((ten_axes ok.uu).2.2 i hi).1
  · rw [map_getD hj]; exact ok.dim _ (hs _ (mem_getD hj))
theorem sum_pair {k p n : Int} {t : Ten} (h : tensorL k p n t.l t.d t.x) (ks : List Int) : pairP k p n t (oneT k p n) ks := by
  have h1 := one_ten h.1; have hm := one_mism k p n t; have hp := ten_prod h; have ok := pair_ok h h1 hm (by rw [one_joinD]; omega); have hd := pairP.dims h h1 hm; have ej := hd.2.2; refine ⟨h, h1, hm, by rw [one_joinD]; omega, sizeI_ge.2 ⟨keep_axes ok (fun l hl => (List.mem_filter.1 hl).1) (List.Pairwise.filter _ ok.nd) ?_, ?_⟩⟩
  · have h1 := List.length_filter_le (fun x => decide (x ∈ ks)) (joinI t.l (oneT k p n).l); have h2 := joinI_len t.l (oneT k p n).l; have h3 := (ten_axes h).1; have h4 : (oneT k p n).l.length = 0 := rfl
    unfold keepL
    omega
  · have hs := selP_prod (fun x => decide (x ∈ ks)) (joinI t.l (oneT k p n).l) (joinD t (oneT k p n)) (by rw [one_joinD]; exact fun d hd => (dims_mem (axes_dims (ten_axes h)) d hd).1); rw [ej, selP_map, ← ej, one_joinD] at hs; exact Int.le_trans hs.2 hp
open Classical in
noncomputable def sumR (k p n : Int) (t : Ten) (ks : List Int) : Ten := if tensorL k p n t.l t.d t.x then pairT k p n (dimJ t (oneT k p n)) t (oneT k p n) (keepL t (oneT k p n) ks) else ⟨[], [], []⟩
theorem sumR_no {k p n : Int} {t : Ten} {ks : List Int} (h : ¬ tensorL k p n t.l t.d t.x) : TenT (sumR k p n t ks) (tenV (.slice none 0 0) (.slice none 0 0) (.slice none 0 0)) emp := by
  rw [sumR, if_neg h]; exact ⟨_, _, _, rfl, triO_none⟩
theorem sumR_pair {k p n : Int} {t : Ten} {ks : List Int} (h : tensorL k p n t.l t.d t.x) : pairR k p n t (oneT k p n) ks = sumR k p n t ks := by
  rw [sumR, if_pos h, pairR, if_pos (sum_pair h ks)]
set_option maxHeartbeats 2000000 in
theorem ct_i_SumLabels (k p n : Int) (t : Ten) (ks : List Int) (a b c v : Value) (w : World) (r1 : IntsR t.l a (hp w)) (r2 : IntsR t.d b (hp w)) (r3 : IntsR t.x c (hp w)) (rk : IntsR ks v (hp w)) :
    Calls Tryz.prog 32 [ringV k p n, tenV a b c, v].toArray w (Ret w emp (TenT (sumR k p n t ks))) := by
  refine calls_in Tryz.func32 rfl Tryz.ntmps32 rfl (Sat.start w) ?_; have hle0 := r1.le; have hle1 := r2.le; have hle2 := r3.le; have hle3 := rk.le; refine wp_sc (wp_sq ?_); refine sq_x rfl (x_box rfl rfl) rfl ?_; rintro _ _ ⟨b3, rfl, rfl⟩; refine sq_x rfl (x_box rfl rfl) rfl ?_; rintro _ _ ⟨b4, rfl, rfl⟩; refine sq_x rfl (x_alloc ty_55 rfl) rfl ?_; rintro _ _ ⟨b6, rfl, rfl⟩; refine sq_end (qs_n (wp_sc (wp_sc (wp_sq (sq_v rfl (v_loadNB 2 ty_24 rfl rfl rfl rfl) rfl (sq_v rfl (v_loadNB 1 ty_55 rfl rfl rfl rfl) rfl (sq_u rfl (x_callv rfl en_42 (fun w s => ct_i_TensorOk _ _ _ _ _ _ _ _ _ w (r1.mono (s.get 3 rfl)) (r2.mono (s.get 3 rfl)) (r3.mono (s.get 3 rfl)))) rfl (sq_v rfl (v_not rfl) rfl (sq_end (qs_n ?_)))))))))); refine wp_cn _ rfl (fun c12 => ?_) (fun c12 => ?_)
  · refine wp_sc (wp_sq (sq_v rfl (v_build [.slice none 0 0, .slice none 0 0, .slice none 0 0] rfl (by kernel_rfl)) rfl ?_)); refine sq_m 0 rfl rfl (m_store 0 ty_55 rfl rfl rfl rfl (by simp [one_sl]) rfl (Nat.le_of_ble_eq_true rfl)) rfl ?_; rintro _ _ ⟨rfl, rfl⟩; refine sq_end (qs_n (wp_rt (qs_r ?_))); exact qs_retc 0 rfl ty_55 rfl rfl rfl (fin_e (i := 3) rfl (sumR_no (tensorB_false.1 c12)))
  · refine wp_sk (qs_n (wp_sc ?_)); refine wp_ra (σ := Nat × PH × PH × Value × Value × Value × Value × Value × Value) 11 (fun z_ => TriO ⟨[], [], oneL k p n⟩ z_.2.2.2.1 z_.2.2.2.2.1 z_.2.2.2.2.2.1 z_.2.2.1 ∧ TriO (pairR k p n t ⟨[], [], oneL k p n⟩ ks) z_.2.2.2.2.2.2.1 z_.2.2.2.2.2.2.2.1 z_.2.2.2.2.2.2.2.2 z_.2.1) (fun z_ => [(6, .pointer (some ⟨b6, 0, none⟩)), (7, .pointer (some ⟨z_.1, 0, none⟩)), (12, .bool (!(tensorB k p n t.l t.d t.x)))]) (fun z_ => [box z_.1 [z_.2.2.2.2.2.2.1, z_.2.2.2.2.2.2.2.1, z_.2.2.2.2.2.2.2.2] 55, z_.2.1, z_.2.2.1, box b6 [.slice none 0 0, .slice none 0 0, .slice none 0 0] 55, box b4 [a, b, c] 55, box b3 [num k, num p, num n] 24, hp w]) mixed_ok (by kernel_rfl) ?_ ?_
    · refine rak_of ?_; have ht := tensorB_true.1 c12; have hring := ht.1; refine rak_v (i := 0) (by kernel_rfl) rfl rfl (v_loadNB 2 ty_24 rfl rfl rfl rfl) rfl (rak_v (i := 1) (by kernel_rfl) rfl rfl (v_loadNB 1 ty_55 rfl rfl rfl rfl) rfl (rak_v (i := 2) (by kernel_rfl) rfl rfl (v_loadNB 2 ty_24 rfl rfl rfl rfl) rfl (rak_v (i := 4) (by kernel_rfl) rfl rfl (v_move rfl) rfl ?_))); refine rak_2 (i := 3) (j := 9) (by kernel_rfl) ?_ ?_
      · refine rok_x rfl rfl (x_call rfl en_70 (fun w s => ct_i_scalarOne _ _ _ w (by first | assumption | omega))) rfl ?_; rintro _ h18 ⟨va18, vb18, vc18, rfl, o18⟩; refine rak_2 (i := 5) (j := 9) (by kernel_rfl) ?_ ?_
        · refine rok_x rfl rfl (x_call rfl en_69 (fun w s => ct_i_ContractPair _ _ _ _ _ _ _ _ _ _ _ _ _ w (r1.mono (s.get 4 rfl)) (r2.mono (s.get 4 rfl)) (r3.mono (s.get 4 rfl)) (o18.toR.1.mono (s.get 0 rfl)) (o18.toR.2.1.mono (s.get 0 rfl)) (o18.toR.2.2.mono (s.get 0 rfl)) (rk.mono (s.get 4 rfl)))) rfl ?_; rintro _ h20 ⟨va20, vb20, vc20, rfl, o20⟩; refine rak_rk [(6, true), (7, true), (8, true), (9, false), (10, false), (11, false)] (by kernel_rfl) rfl (rk_v rfl rfl (v_move rfl) rfl (rk_v rfl rfl (v_extract rfl rfl) rfl (rk_v rfl rfl (v_extract rfl rfl) rfl ?_))); refine rk_xb rfl rfl (x_alloc ty_55 rfl) rfl ?_; rintro _ _ ⟨b7, rfl, rfl⟩; refine rk_m 0 rfl rfl rfl rfl (m_store 0 ty_55 rfl rfl rfl rfl (by simp [o20.toR.1.sl.one, o20.toR.2.1.sl.one, o20.toR.2.2.sl.one]) rfl (Nat.le_of_ble_eq_true rfl)) rfl ?_; rintro _ _ ⟨rfl, rfl⟩; refine rk_fv rfl rfl (v_assign rfl) rfl (rk_end ?_); exact qs_mid (b7, h20, h18, va18, vb18, vc18, va20, vb20, vc20) ⟨o18, o20⟩ ⟨rfl, rfl, rfl, trivial⟩ (fun _ s => s.pick [0, 1, 2, 3, 4, 5, 6] (by decide) rfl)
        · refine rok_xb rfl rfl (x_alloc ty_55 rfl) rfl ?_; rintro _ _ ⟨b7, rfl, rfl⟩; refine rak_rk [(5, false), (6, true), (7, true), (8, true), (10, false), (11, false)] (by kernel_rfl) rfl ?_; refine rk_x rfl rfl (x_call rfl en_69 (fun w s => ct_i_ContractPair _ _ _ _ _ _ _ _ _ _ _ _ _ w (r1.mono (s.get 5 rfl)) (r2.mono (s.get 5 rfl)) (r3.mono (s.get 5 rfl)) (o18.toR.1.mono (s.get 1 rfl)) (o18.toR.2.1.mono (s.get 1 rfl)) (o18.toR.2.2.mono (s.get 1 rfl)) (rk.mono (s.get 5 rfl)))) rfl ?_; rintro _ h20 ⟨va20, vb20, vc20, rfl, o20⟩; refine rk_v rfl rfl (v_move rfl) rfl (rk_v rfl rfl (v_extract rfl rfl) rfl (rk_v rfl rfl (v_extract rfl rfl) rfl ?_)); refine rk_m 1 rfl rfl rfl rfl (m_store 1 ty_55 rfl rfl rfl rfl (by simp [o20.toR.1.sl.one, o20.toR.2.1.sl.one, o20.toR.2.2.sl.one]) rfl (Nat.le_of_ble_eq_true rfl)) rfl ?_; rintro _ _ ⟨rfl, rfl⟩; refine rk_fv rfl rfl (v_assign rfl) rfl (rk_end ?_); exact qs_mid (b7, h20, h18, va18, vb18, vc18, va20, vb20, vc20) ⟨o18, o20⟩ ⟨rfl, rfl, rfl, trivial⟩ (fun _ s => s.pick [1, 0, 2, 3, 4, 5, 6] (by decide) rfl)
      · refine rok_xb rfl rfl (x_alloc ty_55 rfl) rfl ?_; rintro _ _ ⟨b7, rfl, rfl⟩; refine rak_rk [(3, false), (5, false), (6, true), (7, true), (8, true), (10, false), (11, false)] (by kernel_rfl) rfl ?_; refine rk_x rfl rfl (x_call rfl en_70 (fun w s => ct_i_scalarOne _ _ _ w (by first | assumption | omega))) rfl ?_; rintro _ h18 ⟨va18, vb18, vc18, rfl, o18⟩; refine rk_x rfl rfl (x_call rfl en_69 (fun w s => ct_i_ContractPair _ _ _ _ _ _ _ _ _ _ _ _ _ w (r1.mono (s.get 5 rfl)) (r2.mono (s.get 5 rfl)) (r3.mono (s.get 5 rfl)) (o18.toR.1.mono (s.get 0 rfl)) (o18.toR.2.1.mono (s.get 0 rfl)) (o18.toR.2.2.mono (s.get 0 rfl)) (rk.mono (s.get 5 rfl)))) rfl ?_; rintro _ h20 ⟨va20, vb20, vc20, rfl, o20⟩; refine rk_v rfl rfl (v_move rfl) rfl (rk_v rfl rfl (v_extract rfl rfl) rfl (rk_v rfl rfl (v_extract rfl rfl) rfl ?_)); refine rk_m 2 rfl rfl rfl rfl (m_store 2 ty_55 rfl rfl rfl rfl (by simp [o20.toR.1.sl.one, o20.toR.2.1.sl.one, o20.toR.2.2.sl.one]) rfl (Nat.le_of_ble_eq_true rfl)) rfl ?_; rintro _ _ ⟨rfl, rfl⟩; refine rk_fv rfl rfl (v_assign rfl) rfl (rk_end ?_); exact qs_mid (b7, h20, h18, va18, vb18, vc18, va20, vb20, vc20) ⟨o18, o20⟩ ⟨rfl, rfl, rfl, trivial⟩ (fun _ s => s.pick [2, 0, 1, 3, 4, 5, 6] (by decide) rfl)
    · rintro ⟨b7, h20, h18, va18, vb18, vc18, va20, vb20, vc20⟩ ⟨o18, o20⟩; dsimp only at o18 o20 ⊢; refine qs_n (wp_sc (wp_sq (sq_v rfl (v_loadNB 0 ty_55 rfl rfl rfl rfl) rfl ?_))); refine sq_m 3 rfl rfl (m_store 3 ty_55 rfl rfl rfl rfl (by simp [o20.toR.1.sl.one, o20.toR.2.1.sl.one, o20.toR.2.2.sl.one]) rfl (Nat.le_of_ble_eq_true rfl)) rfl ?_; rintro _ _ ⟨rfl, rfl⟩; refine sq_end (qs_n (wp_rt ?_)); exact qs_retc 3 rfl ty_55 rfl rfl rfl (fin_t 1 (i := 6) rfl rfl rfl (by have ht := tensorB_true.1 c12; rw [← sumR_pair ht]; exact ⟨_, _, _, rfl, o20⟩))
end Go.Proofs.YtiefkcaplhnnmaaGreat
namespace Go.Proofs.YtiefkcaplhnnmaaGreat
set_option maxRecDepth 100000
open Go.RowKit
abbrev noTen : Ten := ⟨[], [], []⟩
theorem dimJ_f {t u : Ten} {f : Int → Int} (ht : t.d = t.l.map f) (hu : u.d = u.l.map f) {x : Int} (hx : x ∈ joinI t.l u.l) : dimJ t u x = f x := by
  unfold dimJ
  by_cases h : x ∈ t.l
  · rw [if_pos h, ht, map_getD (findI_get h).1, (findI_get h).2]
  · have h2 := (mem_joinI.1 hx).resolve_left h; rw [if_neg h, hu, map_getD (findI_get h2).1, (findI_get h2).2]
theorem keep_map {t u : Ten} {f : Int → Int} (ht : t.d = t.l.map f) (hu : u.d = u.l.map f) (ks : List Int) : (keepL t u ks).map (dimJ t u) = (keepL t u ks).map f :=
  List.map_congr_left fun _ hx => dimJ_f ht hu (List.mem_filter.1 hx).1
theorem pair_ten {k p n : Int} {t u : Ten} {ks : List Int} (h : pairP k p n t u ks) : tensorL k p n (pairR k p n t u ks).l (pairR k p n t u ks).d (pairR k p n t u ks).x ∧ (pairR k p n t u ks).l = keepL t u ks ∧ (pairR k p n t u ks).d = (keepL t u ks).map (dimJ t u) := by
  have ok := pair_ok h.1 h.2.1 h.2.2.1 h.2.2.2.1; have hk := keep_ok ok h.2.2.2.2; have ha := ok.all hk (prodI ((joinI t.l u.l).map (dimJ t u))).toNat; have hs := sizeI_ge.1 h.2.2.2.2; rw [pairR, if_pos h]; refine ⟨⟨h.1.1, h.2.2.2.2, ?_, ha.2⟩, rfl, rfl⟩
  show ((pairX k p n (dimJ t u) t u (keepL t u ks) _).length : Int) = sizeI (keepL t u ks) ((keepL t u ks).map (dimJ t u)) * widthI k n
  rw [sizeI_yes hs.1 hs.2]; exact ha.1
theorem pairP_iff {k p n : Int} {t u : Ten} {f : Int → Int} {ks : List Int} (h1 : tensorL k p n t.l t.d t.x) (h2 : tensorL k p n u.l u.d u.x) (ht : t.d = t.l.map f) (hu : u.d = u.l.map f) :
    pairP k p n t u ks ↔ prodI ((joinI t.l u.l).map f) ≤ 65536 ∧ 0 ≤ sizeI (keepL t u ks) ((keepL t u ks).map f) := by
  unfold pairP
  rw [joinD_map ht hu, keep_map ht hu]; exact ⟨fun h => ⟨h.2.2.2.1, h.2.2.2.2⟩, fun h => ⟨h1, h2, mism_not ht hu, h.1, h.2⟩⟩
theorem keepL_self {t u : Ten} {q : Int → Bool} : keepL t u ((joinI t.l u.l).filter q) = (joinI t.l u.l).filter q := by
  unfold keepL
  refine List.filter_congr fun x hx => ?_; rw [Bool.eq_iff_iff, decide_eq_true_eq, List.mem_filter]; exact ⟨fun h => h.2, fun h => ⟨hx, h⟩⟩
theorem pairB_true {k p n : Int} {t u : Ten} {a : List Int} : pairB k p n t u a = true ↔ pairP k p n t u a := by simp [pairB]
theorem pairB_false {k p n : Int} {t u : Ten} {a : List Int} : pairB k p n t u a = false ↔ ¬ pairP k p n t u a := by simp [pairB]
def stpAt (ss : List Stp) (i : Nat) : Stp := ss.getD i ⟨0, 0⟩
theorem stpAt_of {ss : List Stp} {i : Nat} {x : Stp} (h : ss[i]? = some x) : stpAt ss i = x := by simp [stpAt, List.getD, h]
noncomputable def runS (ts : List Ten) (op : List Int) (ss : List Stp) (i : Nat) : Sh := shTo op (sh0 ts) (ss.take i)
noncomputable def runK (ts : List Ten) (op : List Int) (ss : List Stp) (i : Nat) : List Int := (runS ts op ss i).res op (stpAt ss i).a.toNat (stpAt ss i).b.toNat
noncomputable def runTo (k p n : Int) (ts : List Ten) (op : List Int) (ss : List Stp) : Nat → List Ten
  | 0 => ts
  | i + 1 => runTo k p n ts op ss i ++ [pairR k p n ((runTo k p n ts op ss i).getD (stpAt ss i).a.toNat noTen) ((runTo k p n ts op ss i).getD (stpAt ss i).b.toNat noTen) (runK ts op ss i)]
noncomputable def runA (k p n : Int) (ts : List Ten) (op : List Int) (ss : List Stp) (i : Nat) : Ten := (runTo k p n ts op ss i).getD (stpAt ss i).a.toNat noTen
noncomputable def runB (k p n : Int) (ts : List Ten) (op : List Int) (ss : List Stp) (i : Nat) : Ten := (runTo k p n ts op ss i).getD (stpAt ss i).b.toNat noTen
def runFit (k p n : Int) (ts : List Ten) (op : List Int) (ss : List Stp) (i : Nat) : Prop := pairP k p n (runA k p n ts op ss i) (runB k p n ts op ss i) (runK ts op ss i)
structure RunOK (k p n : Int) (ts : List Ten) (op : List Int) (ss : List Stp) (i : Nat) : Prop where
  len : (runTo k p n ts op ss i).length = ts.length + i
  ten : ∀ (j : Nat) (t : Ten), (runTo k p n ts op ss i)[j]? = some t → tensorL k p n t.l t.d t.x ∧ t.l = (runS ts op ss i).lab j ∧ t.d = t.l.map (dimOf ts)
section
variable {k p n : Int} {ts : List Ten} {op : List Int} {ss : List Stp}
theorem runTo_step (i : Nat) : runTo k p n ts op ss (i + 1) = runTo k p n ts op ss i ++ [pairR k p n (runA k p n ts op ss i) (runB k p n ts op ss i) (runK ts op ss i)] := rfl
theorem RunOK.get {i : Nat} (r : RunOK k p n ts op ss i) {j : Nat} (hj : j < ts.length + i) : tensorL k p n ((runTo k p n ts op ss i).getD j noTen).l ((runTo k p n ts op ss i).getD j noTen).d ((runTo k p n ts op ss i).getD j noTen).x ∧
    ((runTo k p n ts op ss i).getD j noTen).l = (runS ts op ss i).lab j ∧ ((runTo k p n ts op ss i).getD j noTen).d = ((runTo k p n ts op ss i).getD j noTen).l.map (dimOf ts) := by
  have hlt : j < (runTo k p n ts op ss i).length := by rw [r.len]; exact hj
  have h := r.ten j _ (List.getElem?_eq_getElem hlt); have e2 : (runTo k p n ts op ss i).getD j noTen = (runTo k p n ts op ss i)[j] := by simp [List.getD, List.getElem?_eq_getElem hlt]
  rw [e2]; exact h
theorem run_step (h : orderL k p n ts op ss) {i : Nat} (hi : i < ss.length) : stepOk (runS ts op ss i) (stpAt ss i) ∧ runS ts op ss (i + 1) = (runS ts op ss i).step op (stpAt ss i).a.toNat (stpAt ss i).b.toNat ∧ (runS ts op ss i).all.length = ts.length + i := by
  have hx : ss[i]? = some ss[i] := List.getElem?_eq_getElem hi; refine ⟨?_, ?_, ?_⟩
  · rw [stpAt_of hx]; exact h.2.2 i hi _ hx
  · rw [stpAt_of hx]; exact shTo_step hx
  · rw [runS, shTo_all, show (sh0 ts).all.length = ts.length by simp [sh0], List.length_take]; omega
theorem run_all {i : Nat} (hi : i ≤ ss.length) : (runS ts op ss i).all.length = ts.length + i := by
  rw [runS, shTo_all, show (sh0 ts).all.length = ts.length by simp [sh0], List.length_take]; omega
theorem run_fine (h : netL k p n ts op) (i : Nat) : (runS ts op ss i).fine := shTo_fine (sh0_fine (net_axes h)) _
theorem RunOK.two {i : Nat} (r : RunOK k p n ts op ss i) (h : orderL k p n ts op ss) (hi : i < ss.length) :
    (tensorL k p n (runA k p n ts op ss i).l (runA k p n ts op ss i).d (runA k p n ts op ss i).x ∧ (runA k p n ts op ss i).l = (runS ts op ss i).lab (stpAt ss i).a.toNat ∧ (runA k p n ts op ss i).d = (runA k p n ts op ss i).l.map (dimOf ts)) ∧
    (tensorL k p n (runB k p n ts op ss i).l (runB k p n ts op ss i).d (runB k p n ts op ss i).x ∧ (runB k p n ts op ss i).l = (runS ts op ss i).lab (stpAt ss i).b.toNat ∧ (runB k p n ts op ss i).d = (runB k p n ts op ss i).l.map (dimOf ts)) := by
  obtain ⟨⟨⟨a0, a1, _⟩, ⟨b0, b1, _⟩, _⟩, _, hl⟩ := run_step h hi; exact ⟨r.get (by omega), r.get (by omega)⟩
theorem RunOK.kept {i : Nat} (r : RunOK k p n ts op ss i) (h : orderL k p n ts op ss) (hi : i < ss.length) : keepL (runA k p n ts op ss i) (runB k p n ts op ss i) (runK ts op ss i) = runK ts op ss i := by
  obtain ⟨⟨_, la, _⟩, ⟨_, lb, _⟩⟩ := r.two h hi; have e : runK ts op ss i = (joinI (runA k p n ts op ss i).l (runB k p n ts op ss i).l).filter fun x => @decide ((runS ts op ss i).kept op (stpAt ss i).a.toNat (stpAt ss i).b.toNat x) (Classical.propDecidable _) := by rw [la, lb]; rfl
  rw [e]; exact keepL_self
theorem RunOK.step {i : Nat} (r : RunOK k p n ts op ss i) (h : orderL k p n ts op ss) (hi : i < ss.length) (hf : runFit k p n ts op ss i) : RunOK k p n ts op ss (i + 1) := by
  obtain ⟨hst, hs1, hl⟩ := run_step h hi; obtain ⟨⟨ta, la, da⟩, ⟨tb, lb, db⟩⟩ := r.two h hi; have hk := r.kept h hi; obtain ⟨p1, p2, p3⟩ := pair_ten hf; rw [keep_map da db, hk] at p3; rw [hk] at p2; refine ⟨by rw [runTo_step, List.length_append, r.len]; simp; omega, fun j t hj => ?_⟩; rw [runTo_step] at hj
  rcases Nat.lt_or_ge j (runTo k p n ts op ss i).length with hlt | hge
  · rw [List.getElem?_append_left hlt] at hj; have := r.ten j t hj; rw [hs1, step_lab (by rw [hl, ← r.len]; exact hlt)]; exact this
  · rw [List.getElem?_append_right hge] at hj; have e0 : j - (runTo k p n ts op ss i).length = 0 := by
      rcases Nat.eq_zero_or_pos (j - (runTo k p n ts op ss i).length) with h0 | h0
      · exact h0
      · rw [List.getElem?_eq_none (by simp; omega)] at hj; cases hj
    rw [e0] at hj
    simp at hj
    subst hj; refine ⟨p1, ?_, ?_⟩
    · rw [p2, hs1, show j = (runS ts op ss i).all.length by rw [hl, ← r.len]; omega, step_lab_new]; rfl
    · rw [p2, p3]
theorem run_ok (h : orderL k p n ts op ss) : ∀ i, i ≤ ss.length → (∀ j, j < i → runFit k p n ts op ss j) → RunOK k p n ts op ss i
  | 0, _, _ => by
    refine ⟨rfl, fun j t hj => ?_⟩; have hj' : ts[j]? = some t := hj; have hm := List.mem_of_getElem? hj'; exact ⟨h.1.2.2.1 t hm, by simp [runS, shTo, Sh.lab, sh0, List.getD, hj'], net_dmap h.1 t hm⟩
  | i + 1, hi, hf => (run_ok h i (by omega) fun j hj => hf j (by omega)).step h (by omega) (hf i (by omega))
/-- The rows of m cells but those at p and q, of the first k. -/
def dropK {α : Type} (m : Nat) (cs : List α) (p q : Nat) : Nat → List α
  | 0 => []
  | k + 1 => if k ≠ p ∧ k ≠ q then dropK m cs p q k ++ (cs.drop (k * m)).take m else dropK m cs p q k
theorem dropK_yes {α : Type} {m : Nat} {cs : List α} {p q k : Nat} (h : k ≠ p ∧ k ≠ q) : dropK m cs p q (k + 1) = dropK m cs p q k ++ (cs.drop (k * m)).take m := by rw [dropK, if_pos h]
theorem dropK_no {α : Type} {m : Nat} {cs : List α} {p q k : Nat} (h : ¬ (k ≠ p ∧ k ≠ q)) : dropK m cs p q (k + 1) = dropK m cs p q k := by rw [dropK, if_neg h]
theorem one_drop {α : Type} {l : List α} {k : Nat} {x : α} (h : l[k]? = some x) : (l.drop (k * 1)).take 1 = [x] := by
  obtain ⟨hk, rfl⟩ := List.getElem?_eq_some_iff.1 h; rw [Nat.mul_one, List.drop_eq_getElem_cons hk]; rfl
theorem dropK_len {α : Type} {m : Nat} {cs : List α} {p q : Nat} : ∀ k, (dropK m cs p q k).length ≤ k * m
  | 0 => by simp [dropK]
  | k + 1 => by
    have ih := dropK_len (m := m) (cs := cs) (p := p) (q := q) k; have e : (k + 1) * m = k * m + m := by rw [Nat.add_mul, Nat.one_mul]
    by_cases h : k ≠ p ∧ k ≠ q
    · rw [dropK_yes h, List.length_append, List.length_take]; omega
    · rw [dropK_no h]; omega
theorem dropK_ixs {β : Type} (g : Nat → β) {s : Sh} {p q a b : Nat} (hp : s.ixs[p]? = some a) (hq : s.ixs[q]? = some b) : ∀ k, k ≤ s.ixs.length → dropK 1 (s.ixs.map g) p q k = ((s.ixs.take k).filter fun i => decide (i ≠ a ∧ i ≠ b)).map g
  | 0, _ => by simp [dropK]
  | k + 1, hk => by
    have ih := dropK_ixs g hp hq k (by omega); have hi : s.ixs[k]? = some s.ixs[k] := List.getElem?_eq_getElem (by omega); have e1 : k = p ↔ s.ixs[k] = a := ⟨fun e => by subst e; rw [hi] at hp; exact Option.some.inj hp, fun e => ixs_inj (e ▸ hi) hp⟩
    have e2 : k = q ↔ s.ixs[k] = b := ⟨fun e => by subst e; rw [hi] at hq; exact Option.some.inj hq, fun e => ixs_inj (e ▸ hi) hq⟩
    have hl : (s.ixs.map g)[k]? = some (g s.ixs[k]) := by rw [List.getElem?_map, hi]; rfl
    rw [List.take_succ_eq_append_getElem (by omega), List.filter_append, List.map_append]
    by_cases hc : k ≠ p ∧ k ≠ q
    · have : s.ixs[k] ≠ a ∧ s.ixs[k] ≠ b := ⟨fun e => hc.1 (e1.2 e), fun e => hc.2 (e2.2 e)⟩
      rw [dropK_yes hc, ih, one_drop hl]
      simp [this]
    · have : ¬ (s.ixs[k] ≠ a ∧ s.ixs[k] ≠ b) := fun e => hc ⟨fun e' => e.1 (e1.1 e'), fun e' => e.2 (e2.1 e')⟩; rw [dropK_no hc, ih]
      simp [this]
noncomputable def outTo (k p n : Int) (ts : List Ten) (op : List Int) (ss : List Stp) (i : Nat) : List Ten := (runS ts op ss i).ixs.map fun j => (runTo k p n ts op ss i).getD j noTen
theorem out_len (i : Nat) : (outTo k p n ts op ss i).length = (runS ts op ss i).ixs.length := by simp [outTo]
theorem out_get {i j a : Nat} (h : (runS ts op ss i).ixs[j]? = some a) : (outTo k p n ts op ss i)[j]? = some ((runTo k p n ts op ss i).getD a noTen) := by
  rw [outTo, List.getElem?_map, h]; rfl
theorem out_zero : outTo k p n ts op ss 0 = ts := by
  have e : (runS ts op ss 0).ixs = List.range ts.length := by rw [← sh0_ixs ts]; rfl
  rw [outTo, e]
  apply List.ext_getElem?
  intro j; rw [List.getElem?_map]
  rcases Nat.lt_or_ge j ts.length with h | h
  · rw [List.getElem?_range h]
    simp [runTo, List.getD, h]
  · rw [List.getElem?_eq_none (by simpa using h), List.getElem?_eq_none h]; rfl
theorem out_step (h : orderL k p n ts op ss) {i : Nat} (hi : i < ss.length) (r : RunOK k p n ts op ss i) {pa pb : Nat} (ha : (runS ts op ss i).ixs[pa]? = some (stpAt ss i).a.toNat) (hb : (runS ts op ss i).ixs[pb]? = some (stpAt ss i).b.toNat) :
    outTo k p n ts op ss (i + 1) = dropK 1 (outTo k p n ts op ss i) pa pb (outTo k p n ts op ss i).length ++ [pairR k p n (runA k p n ts op ss i) (runB k p n ts op ss i) (runK ts op ss i)] := by
  obtain ⟨hst, hs1, hl⟩ := run_step h hi; rw [out_len]
  unfold outTo
  rw [dropK_ixs _ ha hb _ (Nat.le_refl _), List.take_length, hs1, step_ixs (run_fine h.1 i).1, List.map_append]
  congr 1
  · refine List.map_congr_left fun j hj => ?_; have := (mem_ixs.1 (List.mem_filter.1 hj).1).1; rw [runTo_step]; simp only [List.getD]; rw [List.getElem?_append_left (by rw [r.len, ← hl]; exact this)]
  · rw [List.map_singleton, runTo_step, hl, ← r.len]
    simp [List.getD]
theorem dimOf_mem {ts : List Ten} {x : Int} (h : dimOf ts x ≠ 0) : ∃ t ∈ ts, x ∈ t.l := by
  induction ts with
  | nil => simp [dimOf] at h
  | cons t ts ih =>
    rw [dimOf] at h
    by_cases hx : x ∈ t.l
    · exact ⟨t, by simp, hx⟩
    · rw [if_neg hx] at h; obtain ⟨u, hu, hxu⟩ := ih h; exact ⟨u, by simp [hu], hxu⟩
theorem run_open (h : orderL k p n ts op ss) {x : Int} (hx : x ∈ op) : ∀ i, i ≤ ss.length → ∃ j ∈ (runS ts op ss i).ixs, x ∈ (runS ts op ss i).lab j
  | 0, _ => by
    obtain ⟨j, hj, e⟩ := getD_of_mem hx; have ho := (open_at h.1.2.2.2.2 hj).2; rw [e] at ho; obtain ⟨t, ht, hxt⟩ := dimOf_mem (ts := ts) (x := x) (by omega); obtain ⟨m, hm⟩ := List.getElem?_of_mem ht; have hml := (List.getElem?_eq_some_iff.1 hm).1; have e0 : runS ts op ss 0 = sh0 ts := rfl; refine ⟨m, by rw [e0, sh0_ixs]; simpa using hml, ?_⟩; rw [e0]
    simpa [Sh.lab, sh0, List.getD, hm] using hxt
  | i + 1, hi => by
    obtain ⟨j, hj, hxj⟩ := run_open h hx i (by omega); obtain ⟨hst, hs1, hl⟩ := run_step h (i := i) (by omega); have hok := (run_fine (ss := ss) h.1 i).1; rw [hs1]
    by_cases hc : j ≠ (stpAt ss i).a.toNat ∧ j ≠ (stpAt ss i).b.toNat
    · refine ⟨j, by rw [step_ixs hok]; simp [hj, hc], ?_⟩; rw [step_lab (mem_ixs.1 hj).1]; exact hxj
    · refine ⟨(runS ts op ss i).all.length, by rw [step_ixs hok]; simp, ?_⟩; rw [step_lab_new]; refine List.mem_filter.2 ⟨mem_joinI.2 ?_, by simpa using .inl hx⟩
      by_cases ea : j = (stpAt ss i).a.toNat
      · exact .inl (ea ▸ hxj)
      · exact .inr ((show j = (stpAt ss i).b.toNat by omega) ▸ hxj)
theorem run_left (h : orderL k p n ts op ss) (hn : ts ≠ []) : (runS ts op ss ss.length).ixs = [ts.length + ss.length - 1] := by
  have hlen : ts.length ≠ 0 := fun e => hn (List.eq_nil_of_length_eq_zero e); have hc := steps_count (op := op) (sh0_fine (net_axes h.1)) h.2.2 ss.length (Nat.le_refl _); rw [show (sh0 ts).ixs.length = ts.length by rw [sh0_ixs]; simp] at hc; have h1 : (runS ts op ss ss.length).ixs.length = 1 := by
    have := h.2.1
    show (shTo op (sh0 ts) (ss.take ss.length)).ixs.length = 1
    omega
  have hm : ts.length + ss.length - 1 ∈ (runS ts op ss ss.length).ixs := by
    rcases Nat.eq_zero_or_pos ss.length with h0 | h0
    · have e0 : runS ts op ss ss.length = sh0 ts := by rw [h0]; rfl
      rw [e0, sh0_ixs, h0]; simp; omega
    · obtain ⟨hst, hs1, hl⟩ := run_step h (i := ss.length - 1) (by omega); rw [show ss.length - 1 + 1 = ss.length by omega] at hs1; rw [hs1, step_ixs (run_fine (ss := ss) h.1 _).1, hl]
      simp; omega
  obtain ⟨y, hy⟩ := List.length_eq_one_iff.1 h1; rw [hy] at hm ⊢
  simp at hm
  rw [hm]
end
end Go.Proofs.YtiefkcaplhnnmaaGreat
