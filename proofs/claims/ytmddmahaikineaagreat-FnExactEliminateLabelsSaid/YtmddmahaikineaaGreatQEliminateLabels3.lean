/-
  Parts of the proof of FnExactEliminateLabels: laws of heaps, contracts of functions.
  Conditions: none.
-/
import Derived.Test.YtmddmahaikineaaGreatQEliminateLabels2
namespace Go.Proofs.YtmddmahaikineaaGreat
set_option maxRecDepth 100000
open Go.RowKit

theorem szV_add {l a b : Int} (h : ¬ szV l a < 0) : szV (szV l a) b = szV l (a + b) := by
  rw [(szV_ge h).1]
  unfold szV
  by_cases h1 : l - a - b < 0
  · rw [if_pos h1, if_pos (by omega)]
  · rw [if_neg h1, if_neg (by omega)]; omega
theorem szV_neg {l a b : Int} (h : szV l a < 0) (hb : 0 ≤ b) : szV l (a + b) = -1 := by
  have := szV_lt h
  unfold szV
  rw [if_pos (by omega)]
def tenSize (t : Ten) : Int := t.l.length + t.d.length + t.x.length
theorem tenSize_nn (t : Ten) : 0 ≤ tenSize t := by unfold tenSize; omega
def tensSize : List Ten → Int
  | [] => 0
  | t :: r => tenSize t + tensSize r
theorem tensSize_nn : ∀ ts, 0 ≤ tensSize ts
  | [] => by simp [tensSize]
  | t :: r => by have := tenSize_nn t; have := tensSize_nn r; simp only [tensSize]; omega
theorem tensSize_append : ∀ a b, tensSize (a ++ b) = tensSize a + tensSize b
  | [], b => by simp [tensSize]
  | t :: r, b => by simp only [List.cons_append, tensSize, tensSize_append r b]; omega
theorem tensSize_take (ts : List Ten) (i : Nat) : tensSize ts = tensSize (ts.take i) + tensSize (ts.drop i) := by
  rw [← tensSize_append, List.take_append_drop]
theorem take_ten {ts : List Ten} {i : Nat} {t : Ten} (h : ts[i]? = some t) : ts.take (i + 1) = ts.take i ++ [t] := by
  obtain ⟨hi, e⟩ := List.getElem?_eq_some_iff.1 h; rw [List.take_succ_eq_append_getElem hi, e]
theorem tensSize_step {ts : List Ten} {i : Nat} {t : Ten} (h : ts[i]? = some t) : tensSize (ts.take (i + 1)) = tensSize (ts.take i) + tenSize t := by
  rw [take_ten h, tensSize_append]
  simp [tensSize]
theorem ct_l_szTensor (t : Ten) (a b c : Value) (left : Int) (w : World) (r1 : IntsR t.l a (hp w)) (r2 : IntsR t.d b (hp w)) (r3 : IntsR t.x c (hp w)) (hl : 0 ≤ left ∧ left ≤ 1048576) :
    Calls Tryz.prog 32 [tenV a b c, num left].toArray w (RetV w (num (szV left (tenSize t)))) := by
  refine calls_in Tryz.func32 rfl Tryz.ntmps32 rfl (Sat.start w) (wp_sc (wp_sq ?_)); refine sq_x rfl (x_box rfl rfl) rfl ?_; rintro _ _ ⟨b2, rfl, rfl⟩; refine sq_v rfl (v_assign rfl) rfl (sq_end (qs_n (wp_sc (wp_sq (sq_v rfl (v_fieldAddr fd_58_0 ty_25 (by decide) rfl) rfl (sq_v rfl (v_loadB 0 ty_25 rfl rfl rfl) rfl (sq_v rfl (v_move rfl) rfl (sq_u rfl (x_callv rfl en_51 (fun w s => ct_l_szIntS _ _ _ w (r1.mono (s.get 1 rfl)) hl)) rfl (sq_v rfl (v_assign rfl) rfl (sq_end (qs_n (wp_sc (wp_sc (wp_sq (sq_v rfl (v_move rfl) rfl (sq_v rfl (v_lss rfl rfl) rfl (sq_end (qs_n ?_)))))))))))))))))); refine wp_cd rfl (fun c10 => ?_) (fun c10 => ?_)
  · refine wp_sc (wp_sq (sq_v rfl (v_assign rfl) rfl (sq_end (qs_n (wp_rt (qs_r ?_)))))); exact qs_ret1 rfl rfl (fin_q (i := 1) rfl (by rw [tenSize, Int.add_assoc, szV_neg c10 (by omega)]))
  · refine wp_sk (qs_n (wp_sc (wp_sq (sq_v rfl (v_fieldAddr fd_58_1 ty_25 (by decide) rfl) rfl (sq_v rfl (v_loadB 0 ty_25 rfl rfl rfl) rfl (sq_v rfl (v_move rfl) rfl ?_)))))); have h1 := szV_ge c10; refine sq_u rfl (x_callv rfl en_51 (fun w s => ct_l_szIntS _ _ _ w (r2.mono (s.get 1 rfl)) (by omega))) rfl (sq_v rfl (v_assign rfl) rfl (sq_end (qs_n (wp_sc (wp_sc (wp_sq (sq_v rfl (v_move rfl) rfl (sq_v rfl (v_lss rfl rfl) rfl (sq_end (qs_n ?_)))))))))); refine wp_cd rfl (fun c16 => ?_) (fun c16 => ?_)
    · refine wp_sc (wp_sq (sq_v rfl (v_assign rfl) rfl (sq_end (qs_n (wp_rt (qs_r ?_)))))); exact qs_ret1 rfl rfl (fin_q (i := 1) rfl (by rw [szV_add c10] at c16; rw [tenSize, szV_neg c16 (by omega)]))
    · refine wp_sk (qs_n (wp_sc (wp_sq (sq_v rfl (v_fieldAddr fd_58_2 ty_25 (by decide) rfl) rfl (sq_v rfl (v_loadB 0 ty_25 rfl rfl rfl) rfl (sq_v rfl (v_move rfl) rfl ?_)))))); have h2 := szV_ge c16; refine sq_u rfl (x_callv rfl en_51 (fun w s => ct_l_szIntS _ _ _ w (r3.mono (s.get 1 rfl)) (by omega))) rfl (sq_v rfl (v_assign rfl) rfl (sq_end (qs_n (wp_sc (wp_sc (wp_sq (sq_v rfl (v_move rfl) rfl (sq_v rfl (v_lss rfl rfl) rfl (sq_end (qs_n ?_)))))))))); refine wp_cd rfl (fun c22 => ?_) (fun c22 => ?_)
      · refine wp_sc (wp_sq (sq_v rfl (v_assign rfl) rfl (sq_end (qs_n (wp_rt (qs_r ?_)))))); exact qs_ret1 rfl rfl (fin_q (i := 1) rfl (by rw [szV_add c16, szV_add c10] at c22; rw [tenSize, Int.add_assoc]; have := szV_lt c22; rw [szV, if_pos this]))
      · refine wp_sk (qs_n (wp_sc (wp_sq (sq_v rfl (v_move rfl) rfl (sq_v rfl (v_assign rfl) rfl (sq_end (qs_n (wp_rt ?_)))))))); exact qs_ret1 rfl rfl (fin_q (i := 1) rfl (by rw [szV_add c16, szV_add c10, tenSize, Int.add_assoc]))
theorem ct_l_szTensorS (ts : List Ten) (v : Value) (left : Int) (w : World) (r : TensR ts v (hp w)) (hl : 0 ≤ left ∧ left ≤ 1048576) :
    Calls Tryz.prog 50 [v, num left].toArray w (RetV w (num (szV left (ts.length + tensSize ts)))) := by
  have hx := r.le; obtain ⟨cells, rr, hc⟩ := r.at; refine calls_in Tryz.func50 rfl Tryz.ntmps50 rfl (Sat.start w) (wp_sc (wp_sq (sq_v rfl (v_assign rfl) rfl (sq_end (qs_n (wp_sc (wp_sq (sq_v rfl (v_move rfl) rfl (sq_v rfl (v_move rfl) rfl (sq_v rfl (v_len Tryz.underlying24 rfl r.sl) rfl ?_)))))))))); refine sq_v rfl (v_sub rfl rfl ((by unfold I64; omega))) rfl ?_; refine sq_v rfl (v_assign rfl) rfl (sq_end (qs_n (wp_sc (wp_sc (wp_sq (sq_v rfl (v_move rfl) rfl (sq_v rfl (v_lss rfl rfl) rfl (sq_end (qs_n ?_))))))))); refine wp_cd rfl (fun c11 => ?_) (fun c11 => ?_)
  · refine wp_sc (wp_sq (sq_v rfl (v_assign rfl) rfl (sq_end (qs_n (wp_rt (qs_r ?_)))))); exact qs_ret1 rfl rfl (fin_q (i := 0) rfl (by have := tensSize_nn ts; rw [szV, if_pos (by omega)]))
  · refine wp_sk (qs_n (wp_sc (wp_sc (wp_sq (sq_v rfl (v_assign rfl) rfl (sq_end (qs_n (wp_bl ?_)))))))); refine wp_lp (fun s : Nat × Int => [(0, v), (1, num s.2), (5, num s.1)]) (fun _ => [hp w]) (fun s => s.1 ≤ ts.length ∧ s.2 = left - ts.length - tensSize (ts.take s.1) ∧ 0 ≤ s.2) (fun s => ts.length - s.1) (0, left - ts.length) ⟨by omega, by simp [tensSize], by simp only; omega⟩ ⟨rfl, rfl, rfl, trivial⟩ (fun _ s => s) ?_; rintro ⟨i, q⟩ ⟨hi, hq, hq0⟩; dsimp only at hi hq hq0 ⊢; refine wp_sc (wp_sc (wp_sq (sq_v rfl (v_move rfl) rfl (sq_v rfl (v_move rfl) rfl (sq_v rfl (v_len Tryz.underlying24 rfl r.sl) rfl (sq_v rfl (v_lss rfl rfl) rfl (sq_end (qs_n ?_)))))))); refine wp_cd rfl (fun c15 => ?_) (fun c15 => ?_)
    · refine wp_sk (qs_n (wp_sc (wp_bl (wp_sc (wp_sq (sq_v rfl (v_move rfl) rfl (sq_v rfl (v_move rfl) rfl ?_))))))); obtain ⟨t, a, b, c, ht, hcs, r1, r2, r3⟩ := hc i (by omega); have hst := tensSize_step ht; have hnn := tensSize_nn (ts.take i); have htk := tensSize_take ts (i + 1); have hnd := tensSize_nn (ts.drop (i + 1)); have htn := tenSize_nn t; refine sq_v rfl (v_indexAddr Tryz.underlying24 ty_58 rfl rfl rr (by decide) (by omega) (by omega)) rfl ?_; refine sq_v rfl (v_loadNE 0 ty_58 rfl rfl rr (by have := rr.1; omega) rfl hcs) rfl ?_; refine sq_v rfl (v_move rfl) rfl (sq_u rfl (x_callv rfl en_32 (fun w s => ct_l_szTensor t _ _ _ _ w (r1.mono (s.get 0 rfl)) (r2.mono (s.get 0 rfl)) (r3.mono (s.get 0 rfl)) (by omega))) rfl (sq_v rfl (v_assign rfl) rfl (sq_end (qs_n (wp_sc (wp_sq (sq_v rfl (v_move rfl) rfl (sq_v rfl (v_lss rfl rfl) rfl (sq_end (qs_n ?_)))))))))); refine wp_cd rfl (fun c25 => ?_) (fun c25 => ?_)
      · refine wp_sc (wp_sq (sq_v rfl (v_assign rfl) rfl (sq_end (qs_n (wp_rt (qs_br (qs_r (qs_r (qs_br (qs_r ?_)))))))))); exact qs_ret1 rfl rfl (fin_q (i := 0) rfl (by have := szV_lt c25; rw [szV, if_pos (by omega)]))
      · refine wp_sk (qs_bn (qs_n (wp_sq (sq_v rfl (v_move rfl) rfl ?_)))); refine sq_v rfl (v_add rfl rfl ((by unfold I64; omega))) rfl ?_; refine sq_v rfl (v_assign rfl) rfl (sq_end ?_); have hge := szV_ge c25; exact qs_bk (i + 1, szV q (tenSize t)) ⟨by simp only; omega, by simp only; omega, by simp only; omega⟩ (by simp only; omega) ⟨rfl, rfl, rfl, trivial⟩ (fun _ s => s)
    · refine wp_ex (qs_x (qs_x (qs_bx (qs_n (wp_sc (wp_sq (sq_v rfl (v_move rfl) rfl (sq_v rfl (v_assign rfl) rfl (sq_end (qs_n (wp_rt ?_))))))))))); exact qs_ret1 rfl rfl (fin_q (i := 0) rfl (by rw [List.take_of_length_le (by omega)] at hq; rw [szV, if_neg (by omega)]; congr 1; omega))
theorem ct_l_szNetwork (k p n : Int) (ts : List Ten) (op : List Int) (vt vo : Value) (left : Int) (w : World) (r : TensR ts vt (hp w)) (r' : IntsR op vo (hp w)) (hl : 0 ≤ left ∧ left ≤ 1048576) :
    Calls Tryz.prog 11 [netV k p n vt vo, num left].toArray w (RetV w (num (szV left (ts.length + tensSize ts + op.length)))) := by
  refine calls_in Tryz.func11 rfl Tryz.ntmps11 rfl (Sat.start w) (wp_sc (wp_sq ?_)); refine sq_x rfl (x_box rfl rfl) rfl ?_; rintro _ _ ⟨b2, rfl, rfl⟩; refine sq_v rfl (v_assign rfl) rfl (sq_end (qs_n (wp_sc (wp_sq (sq_v rfl (v_fieldAddr fd_27_1 ty_24 (by decide) rfl) rfl (sq_v rfl (v_loadB 0 ty_24 rfl rfl rfl) rfl (sq_v rfl (v_move rfl) rfl (sq_u rfl (x_callv rfl en_50 (fun w s => ct_l_szTensorS _ _ _ w (r.mono (s.get 1 rfl)) hl)) rfl (sq_v rfl (v_assign rfl) rfl (sq_end (qs_n (wp_sc (wp_sc (wp_sq (sq_v rfl (v_move rfl) rfl (sq_v rfl (v_lss rfl rfl) rfl (sq_end (qs_n ?_)))))))))))))))))); refine wp_cd rfl (fun c10 => ?_) (fun c10 => ?_)
  · refine wp_sc (wp_sq (sq_v rfl (v_assign rfl) rfl (sq_end (qs_n (wp_rt (qs_r ?_)))))); exact qs_ret1 rfl rfl (fin_q (i := 1) rfl (by rw [szV_neg c10 (by omega)]))
  · refine wp_sk (qs_n (wp_sc (wp_sq (sq_v rfl (v_fieldAddr fd_27_2 ty_25 (by decide) rfl) rfl (sq_v rfl (v_loadB 0 ty_25 rfl rfl rfl) rfl (sq_v rfl (v_move rfl) rfl ?_)))))); have h1 := szV_ge c10; have hnn := tensSize_nn ts; refine sq_u rfl (x_callv rfl en_51 (fun w s => ct_l_szIntS _ _ _ w (r'.mono (s.get 1 rfl)) (by omega))) rfl (sq_v rfl (v_assign rfl) rfl (sq_end (qs_n (wp_sc (wp_sc (wp_sq (sq_v rfl (v_move rfl) rfl (sq_v rfl (v_lss rfl rfl) rfl (sq_end (qs_n ?_)))))))))); refine wp_cd rfl (fun c16 => ?_) (fun c16 => ?_)
    · refine wp_sc (wp_sq (sq_v rfl (v_assign rfl) rfl (sq_end (qs_n (wp_rt (qs_r ?_)))))); exact qs_ret1 rfl rfl (fin_q (i := 1) rfl (by rw [szV_add c10] at c16; have := szV_lt c16; rw [szV, if_pos this]))
    · refine wp_sk (qs_n (wp_sc (wp_sq (sq_v rfl (v_move rfl) rfl (sq_v rfl (v_assign rfl) rfl (sq_end (qs_n (wp_rt ?_)))))))); exact qs_ret1 rfl rfl (fin_q (i := 1) rfl (by rw [szV_add c10]))
theorem ct_l_eqRing (k p n : Int) (w : World) : Calls Tryz.prog 66 [ringV k p n, ringV k p n].toArray w (RetV w (.bool true)) := by
  refine calls_in Tryz.func66 rfl Tryz.ntmps66 rfl (Sat.start w) (wp_sc (wp_sq ?_)); refine sq_x rfl (x_box rfl rfl) rfl ?_; rintro _ _ ⟨b2, rfl, rfl⟩; refine sq_x rfl (x_box rfl rfl) rfl ?_; rintro _ _ ⟨b3, rfl, rfl⟩; refine sq_v rfl (v_assign rfl) rfl (sq_end (qs_n (wp_sc (wp_sc (wp_sq (sq_v rfl (v_fieldAddr fd_29_0 ty_3 (by decide) rfl) rfl (sq_v rfl (v_loadB 1 ty_3 rfl rfl rfl) rfl (sq_v rfl (v_fieldAddr fd_29_0 ty_3 (by decide) rfl) rfl (sq_v rfl (v_loadB 0 ty_3 rfl rfl rfl) rfl (sq_v rfl (v_neq rfl rfl) rfl (sq_end (qs_n ?_)))))))))))); refine wp_cd rfl (fun c9 => ?_) (fun c9 => ?_)
  · refine wp_sc (wp_sq (sq_v rfl (v_assign rfl) rfl (sq_end (qs_n (wp_rt (qs_r ?_)))))); exact absurd rfl c9
  · refine wp_sk (qs_n (wp_sc (wp_sc (wp_sq (sq_v rfl (v_fieldAddr fd_29_1 ty_3 (by decide) rfl) rfl (sq_v rfl (v_loadB 1 ty_3 rfl rfl rfl) rfl (sq_v rfl (v_fieldAddr fd_29_1 ty_3 (by decide) rfl) rfl (sq_v rfl (v_loadB 0 ty_3 rfl rfl rfl) rfl (sq_v rfl (v_neq rfl rfl) rfl (sq_end (qs_n ?_))))))))))); refine wp_cd rfl (fun c14 => ?_) (fun c14 => ?_)
    · refine wp_sc (wp_sq (sq_v rfl (v_assign rfl) rfl (sq_end (qs_n (wp_rt (qs_r ?_)))))); exact absurd rfl c14
    · refine wp_sk (qs_n (wp_sc (wp_sc (wp_sq (sq_v rfl (v_fieldAddr fd_29_2 ty_3 (by decide) rfl) rfl (sq_v rfl (v_loadB 1 ty_3 rfl rfl rfl) rfl (sq_v rfl (v_fieldAddr fd_29_2 ty_3 (by decide) rfl) rfl (sq_v rfl (v_loadB 0 ty_3 rfl rfl rfl) rfl (sq_v rfl (v_neq rfl rfl) rfl (sq_end (qs_n ?_))))))))))); refine wp_cd rfl (fun c19 => ?_) (fun c19 => ?_)
      · refine wp_sc (wp_sq (sq_v rfl (v_assign rfl) rfl (sq_end (qs_n (wp_rt (qs_r ?_)))))); exact absurd rfl c19
      · refine wp_sk (qs_n (wp_sc (wp_sq (sq_v rfl (v_assign rfl) rfl (sq_end (qs_n (wp_rt ?_))))))); exact qs_ret1 rfl rfl (fin_q (i := 2) rfl rfl)
theorem ct_l_eqTensor (t : Ten) (a b c a' b' c' : Value) (w : World) (r1 : IntsR t.l a (hp w)) (r2 : IntsR t.d b (hp w)) (r3 : IntsR t.x c (hp w)) (r1' : IntsR t.l a' (hp w)) (r2' : IntsR t.d b' (hp w)) (r3' : IntsR t.x c' (hp w)) :
    Calls Tryz.prog 21 [tenV a b c, tenV a' b' c'].toArray w (RetV w (.bool true)) := by
  refine calls_in Tryz.func21 rfl Tryz.ntmps21 rfl (Sat.start w) (wp_sc (wp_sq ?_)); refine sq_x rfl (x_box rfl rfl) rfl ?_; rintro _ _ ⟨b2, rfl, rfl⟩; refine sq_x rfl (x_box rfl rfl) rfl ?_; rintro _ _ ⟨b3, rfl, rfl⟩; refine sq_v rfl (v_assign rfl) rfl (sq_end (qs_n (wp_sc (wp_sc (wp_sq (sq_v rfl (v_fieldAddr fd_39_0 ty_25 (by decide) rfl) rfl (sq_v rfl (v_loadB 1 ty_25 rfl rfl rfl) rfl (sq_v rfl (v_fieldAddr fd_39_0 ty_25 (by decide) rfl) rfl (sq_v rfl (v_loadB 0 ty_25 rfl rfl rfl) rfl (sq_u rfl (x_callv rfl en_22 (fun w s => ct_l_eqIntS _ _ _ _ w (r1.mono (s.get 2 rfl)) (r1'.mono (s.get 2 rfl)) rfl)) rfl (sq_v rfl (v_not rfl) rfl (sq_end (qs_n ?_))))))))))))); refine wp_cn _ rfl (fun c10 => ?_) (fun c10 => ?_)
  · refine wp_sc (wp_sq (sq_v rfl (v_assign rfl) rfl (sq_end (qs_n (wp_rt (qs_r ?_))))))
    cases c10
  · refine wp_sk (qs_n (wp_sc (wp_sc (wp_sq (sq_v rfl (v_fieldAddr fd_39_1 ty_25 (by decide) rfl) rfl (sq_v rfl (v_loadB 1 ty_25 rfl rfl rfl) rfl (sq_v rfl (v_fieldAddr fd_39_1 ty_25 (by decide) rfl) rfl (sq_v rfl (v_loadB 0 ty_25 rfl rfl rfl) rfl (sq_u rfl (x_callv rfl en_22 (fun w s => ct_l_eqIntS _ _ _ _ w (r2.mono (s.get 2 rfl)) (r2'.mono (s.get 2 rfl)) rfl)) rfl (sq_v rfl (v_not rfl) rfl (sq_end (qs_n ?_)))))))))))); refine wp_cn _ rfl (fun c16 => ?_) (fun c16 => ?_)
    · refine wp_sc (wp_sq (sq_v rfl (v_assign rfl) rfl (sq_end (qs_n (wp_rt (qs_r ?_))))))
      cases c16
    · refine wp_sk (qs_n (wp_sc (wp_sc (wp_sq (sq_v rfl (v_fieldAddr fd_39_2 ty_25 (by decide) rfl) rfl (sq_v rfl (v_loadB 1 ty_25 rfl rfl rfl) rfl (sq_v rfl (v_fieldAddr fd_39_2 ty_25 (by decide) rfl) rfl (sq_v rfl (v_loadB 0 ty_25 rfl rfl rfl) rfl (sq_u rfl (x_callv rfl en_22 (fun w s => ct_l_eqIntS _ _ _ _ w (r3.mono (s.get 2 rfl)) (r3'.mono (s.get 2 rfl)) rfl)) rfl (sq_v rfl (v_not rfl) rfl (sq_end (qs_n ?_)))))))))))); refine wp_cn _ rfl (fun c22 => ?_) (fun c22 => ?_)
      · refine wp_sc (wp_sq (sq_v rfl (v_assign rfl) rfl (sq_end (qs_n (wp_rt (qs_r ?_))))))
        cases c22
      · refine wp_sk (qs_n (wp_sc (wp_sq (sq_v rfl (v_assign rfl) rfl (sq_end (qs_n (wp_rt ?_))))))); exact qs_ret1 rfl rfl (fin_q (i := 2) rfl rfl)
theorem ct_l_eqTensorS (ts : List Ten) (v u : Value) (w : World) (r : TensR ts v (hp w)) (r' : TensR ts u (hp w)) : Calls Tryz.prog 67 [v, u].toArray w (RetV w (.bool true)) := by
  have hx := r.le; obtain ⟨cells, rr, hc⟩ := r.at; obtain ⟨cells', rr', hc'⟩ := r'.at; refine calls_in Tryz.func67 rfl Tryz.ntmps67 rfl (Sat.start w) (wp_sc (wp_sq (sq_v rfl (v_assign rfl) rfl (sq_end (qs_n (wp_sc (wp_sc (wp_sq (sq_v rfl (v_move rfl) rfl (sq_v rfl (v_len Tryz.underlying30 rfl r.sl) rfl (sq_v rfl (v_move rfl) rfl (sq_v rfl (v_len Tryz.underlying30 rfl r'.sl) rfl (sq_v rfl (v_neq rfl rfl) rfl (sq_end (qs_n ?_))))))))))))))); refine wp_cd rfl (fun c10 => ?_) (fun c10 => ?_)
  · refine wp_sc (wp_sq (sq_v rfl (v_assign rfl) rfl (sq_end (qs_n (wp_rt (qs_r ?_)))))); exact absurd rfl c10
  · refine wp_sk (qs_n (wp_sc (wp_sc (wp_sq (sq_v rfl (v_assign rfl) rfl (sq_end (qs_n (wp_bl (wp_lp (fun i : Nat => [(0, v), (1, u), (5, num i)]) (fun _ => [hp w]) (fun i => i ≤ ts.length) (fun i => ts.length - i) 0 (by omega) ⟨rfl, rfl, rfl, trivial⟩ (fun _ s => s) ?_))))))))); intro i hi; refine wp_sc (wp_sc (wp_sq (sq_v rfl (v_move rfl) rfl (sq_v rfl (v_move rfl) rfl (sq_v rfl (v_len Tryz.underlying30 rfl r.sl) rfl (sq_v rfl (v_lss rfl rfl) rfl (sq_end (qs_n ?_)))))))); refine wp_cd rfl (fun c14 => ?_) (fun c14 => ?_)
    · refine wp_sk (qs_n (wp_sc (wp_bl (wp_sc (wp_rj 10 [(0, true), (1, true), (2, true), (3, true), (4, true), (5, true), (6, true), (7, true), (8, false), (9, true)] mixed_ok (by kernel_rfl) (rj_v rfl rfl (v_move rfl) rfl (rj_v rfl rfl (v_move rfl) rfl ?_))))))); obtain ⟨t, a, b, c, ht, hcs, r1, r2, r3⟩ := hc i (by omega); obtain ⟨t', a', b', c', ht', hcs', r1', r2', r3'⟩ := hc' i (by omega); obtain rfl : t = t' := (by rw [ht] at ht'; exact Option.some.inj ht')
      refine rj_v rfl rfl (v_indexAddr Tryz.underlying30 ty_39 rfl rfl rr (by decide) (by omega) (by omega)) rfl ?_; refine rj_v rfl rfl (v_loadNE 0 ty_39 rfl rfl rr (by have := rr.1; omega) rfl hcs) rfl ?_; refine rj_v rfl rfl (v_move rfl) rfl (rj_v rfl rfl (v_move rfl) rfl (rj_v rfl rfl (v_indexAddr Tryz.underlying30 ty_39 rfl rfl rr' (by decide) (by omega) (by omega)) rfl ?_)); refine rj_v rfl rfl (v_loadNE 0 ty_39 rfl rfl rr' (by have := rr'.1; omega) rfl hcs') rfl ?_; refine rj_u rfl rfl (x_callv rfl en_21 (fun w s => ct_l_eqTensor _ _ _ _ _ _ _ w (r1.mono (s.get 0 rfl)) (r2.mono (s.get 0 rfl)) (r3.mono (s.get 0 rfl)) (r1'.mono (s.get 0 rfl)) (r2'.mono (s.get 0 rfl)) (r3'.mono (s.get 0 rfl)))) rfl (rj_v rfl rfl (v_not rfl) rfl (rj_end (qs_n ?_))); refine wp_cn _ rfl (fun c26 => ?_) (fun c26 => ?_)
      · refine wp_sc (wp_sq (sq_v rfl (v_assign rfl) rfl (sq_end (qs_n (wp_rt (qs_br (qs_r (qs_r (qs_br (qs_r ?_))))))))))
        cases c26
      · refine wp_sk (qs_bn (qs_n (wp_sq (sq_v rfl (v_move rfl) rfl ?_)))); refine sq_v rfl (v_add rfl rfl ((by unfold I64; omega))) rfl ?_; refine sq_v rfl (v_assign rfl) rfl (sq_end ?_); exact qs_bk (i + 1) (by omega) (by omega) ⟨rfl, rfl, rfl, trivial⟩ (fun _ s => s)
    · refine wp_ex (qs_x (qs_x (qs_bx (qs_n (wp_sc (wp_sq (sq_v rfl (v_assign rfl) rfl (sq_end (qs_n (wp_rt ?_)))))))))); exact qs_ret1 rfl rfl (fin_q (i := 0) rfl rfl)
theorem ct_l_eqNetwork (k p n : Int) (ts : List Ten) (op : List Int) (vt vo ut uo : Value) (w : World) (r : TensR ts vt (hp w)) (ro : IntsR op vo (hp w)) (r' : TensR ts ut (hp w)) (ro' : IntsR op uo (hp w)) :
    Calls Tryz.prog 15 [netV k p n vt vo, netV k p n ut uo].toArray w (RetV w (.bool true)) := by
  refine calls_in Tryz.func15 rfl Tryz.ntmps15 rfl (Sat.start w) (wp_sc (wp_sq ?_)); refine sq_x rfl (x_box rfl rfl) rfl ?_; rintro _ _ ⟨b2, rfl, rfl⟩; refine sq_x rfl (x_box rfl rfl) rfl ?_; rintro _ _ ⟨b3, rfl, rfl⟩; refine sq_v rfl (v_assign rfl) rfl (sq_end (qs_n (wp_sc (wp_sc (wp_sq (sq_v rfl (v_fieldAddr fd_32_0 ty_29 (by decide) rfl) rfl (sq_v rfl (v_loadNB 1 ty_29 rfl rfl rfl rfl) rfl (sq_v rfl (v_fieldAddr fd_32_0 ty_29 (by decide) rfl) rfl (sq_v rfl (v_loadNB 0 ty_29 rfl rfl rfl rfl) rfl (sq_u rfl (x_callv rfl en_66 (fun w s => ct_l_eqRing _ _ _ w)) rfl (sq_v rfl (v_not rfl) rfl (sq_end (qs_n ?_))))))))))))); refine wp_cn _ rfl (fun c10 => ?_) (fun c10 => ?_)
  · refine wp_sc (wp_sq (sq_v rfl (v_assign rfl) rfl (sq_end (qs_n (wp_rt (qs_r ?_))))))
    cases c10
  · refine wp_sk (qs_n (wp_sc (wp_sc (wp_sq (sq_v rfl (v_fieldAddr fd_32_1 ty_30 (by decide) rfl) rfl (sq_v rfl (v_loadB 1 ty_30 rfl rfl rfl) rfl (sq_v rfl (v_fieldAddr fd_32_1 ty_30 (by decide) rfl) rfl (sq_v rfl (v_loadB 0 ty_30 rfl rfl rfl) rfl (sq_u rfl (x_callv rfl en_67 (fun w s => ct_l_eqTensorS _ _ _ w (r.mono (s.get 2 rfl)) (r'.mono (s.get 2 rfl)))) rfl (sq_v rfl (v_not rfl) rfl (sq_end (qs_n ?_)))))))))))); refine wp_cn _ rfl (fun c16 => ?_) (fun c16 => ?_)
    · refine wp_sc (wp_sq (sq_v rfl (v_assign rfl) rfl (sq_end (qs_n (wp_rt (qs_r ?_))))))
      cases c16
    · refine wp_sk (qs_n (wp_sc (wp_sc (wp_sq (sq_v rfl (v_fieldAddr fd_32_2 ty_25 (by decide) rfl) rfl (sq_v rfl (v_loadB 1 ty_25 rfl rfl rfl) rfl (sq_v rfl (v_fieldAddr fd_32_2 ty_25 (by decide) rfl) rfl (sq_v rfl (v_loadB 0 ty_25 rfl rfl rfl) rfl (sq_u rfl (x_callv rfl en_22 (fun w s => ct_l_eqIntS _ _ _ _ w (ro.mono (s.get 2 rfl)) (ro'.mono (s.get 2 rfl)) rfl)) rfl (sq_v rfl (v_not rfl) rfl (sq_end (qs_n ?_)))))))))))); refine wp_cn _ rfl (fun c22 => ?_) (fun c22 => ?_)
      · refine wp_sc (wp_sq (sq_v rfl (v_assign rfl) rfl (sq_end (qs_n (wp_rt (qs_r ?_))))))
        cases c22
      · refine wp_sk (qs_n (wp_sc (wp_sq (sq_v rfl (v_assign rfl) rfl (sq_end (qs_n (wp_rt ?_))))))); exact qs_ret1 rfl rfl (fin_q (i := 2) rfl rfl)
def iota (k : Int) (m : Nat) : List Int := (List.range m).map fun (j : Nat) => k + j
theorem iota_len (k : Int) (m : Nat) : (iota k m).length = m := by simp [iota]
theorem iota_get {k : Int} {m j : Nat} (h : j < m) : (iota k m).getD j 0 = k + j := by simp [iota, List.getD, h]
theorem iota_step (k : Int) (m : Nat) : iota k (m + 1) = iota k m ++ [k + m] := by simp [iota, List.range_succ]
theorem iota_set {k : Int} {xs : List Int} {i : Nat} (h : i < xs.length) : (iota k i ++ xs.drop i).set i (k + i) = iota k (i + 1) ++ xs.drop (i + 1) := by
  rw [List.set_append_right _ _ (by rw [iota_len]; exact Nat.le_refl _), iota_len, Nat.sub_self, iota_step, List.drop_eq_getElem_cons h, List.append_assoc]
  rfl
theorem ct_l_markIntS (xs : List Int) (v : Value) (k : Int) (w : World) (h : PH) (hle : PLe h (hp w)) (r : IntsO xs v h) (hk : 0 ≤ k ∧ k + xs.length ≤ 4611686018427387904) :
    Calls Tryz.prog 23 [v, num k].toArray w (Ret w h (fun u h' => u = num (k + xs.length) ∧ IntsO (iota k xs.length) v h')) := by
  refine calls_in Tryz.func23 rfl Tryz.ntmps23 rfl (Sat.start2 hle) (wp_sc (wp_sq (sq_v rfl (v_assign rfl) rfl (sq_end (qs_n (wp_sc (wp_sc (wp_sq (sq_v rfl (v_assign rfl) rfl (sq_end (qs_n (wp_bl ?_)))))))))))); refine wp_lp (fun s : Nat × PH => [(0, v), (1, num (k + s.1)), (5, num s.1)]) (fun s => [s.2, restP w h]) (fun s => s.1 ≤ xs.length ∧ IntsO (iota k s.1 ++ xs.drop s.1) v s.2) (fun s => xs.length - s.1) (0, h) ⟨by omega, by simpa [iota] using r⟩ ⟨rfl, by show _ = some (num (k + ((0 : Nat) : Int))); rw [show k + ((0 : Nat) : Int) = k by omega]; rfl, rfl, trivial⟩ (fun _ s => s) ?_; rintro ⟨i, hh⟩ ⟨hi, ro⟩; dsimp only at hi ro ⊢; have hl : (iota k i ++ xs.drop i).length = xs.length := by rw [List.length_append, iota_len, List.length_drop]; omega
  refine wp_sc (wp_sc (wp_sq (sq_v rfl (v_move rfl) rfl (sq_v rfl (v_move rfl) rfl ?_)))); refine sq_v rfl (v_len Tryz.underlying25 rfl (by have := ro.toR.sl; rwa [hl] at this)) rfl ?_; refine sq_v rfl (v_lss rfl rfl) rfl (sq_end (qs_n ?_)); refine wp_cd rfl (fun c9 => ?_) (fun c9 => ?_)
  · refine wp_sk (qs_n (wp_sc (wp_bl (wp_sc (wp_sq (sq_v rfl (v_move rfl) rfl (sq_v rfl (v_move rfl) rfl (sq_v rfl (v_move rfl) rfl (sq_v rfl (v_idxI Tryz.underlying25 ty_3 rfl rfl ro.toR (by omega) (by omega)) rfl ?_))))))))); refine sq_m 0 rfl rfl (m_storeI 0 ty_3 rfl rfl rfl ro (by omega)) rfl ?_; rintro _ h_ro8 ⟨rfl, ro8⟩; refine sq_end (qs_n (wp_sq (sq_v rfl (v_move rfl) rfl ?_))); refine sq_v rfl (v_add rfl rfl ((by unfold I64; omega))) rfl ?_; refine sq_v rfl (v_assign rfl) rfl (sq_end (qs_bn (qs_n (wp_sq (sq_v rfl (v_move rfl) rfl ?_))))); refine sq_v rfl (v_add rfl rfl ((by unfold I64; omega))) rfl ?_; refine sq_v rfl (v_assign rfl) rfl (sq_end ?_); exact qs_bk (i + 1, h_ro8) ⟨by simp only; omega, by simp only; rw [← iota_set (by omega)]; exact ro8⟩ (by simp only; omega) ⟨rfl, by simp only [Int.natCast_add, Int.natCast_one, ← Int.add_assoc]; rfl, rfl, trivial⟩ (fun _ s => s)
  · refine wp_ex (qs_x (qs_x (qs_bx (qs_n (wp_sc (wp_sq (sq_v rfl (v_move rfl) rfl (sq_v rfl (v_assign rfl) rfl (sq_end (qs_n (wp_rt ?_))))))))))); refine qs_ret1 rfl rfl (fin_m (i := 1) 0 rfl rfl rfl ?_); have e : i = xs.length := by omega
    subst e; rw [List.drop_length, List.append_nil] at ro; exact ⟨rfl, ro⟩
theorem ct_l_heldIntS (xs : List Int) (v : Value) (k : Int) (w : World) (r : IntsR xs v (hp w)) (he : xs = iota k xs.length) (hk : 0 ≤ k ∧ k + xs.length ≤ 4611686018427387904) :
    Calls Tryz.prog 40 [v, num k].toArray w (RetV w (num (k + xs.length))) := by
  refine calls_in Tryz.func40 rfl Tryz.ntmps40 rfl (Sat.start w) (wp_sc (wp_sq (sq_v rfl (v_assign rfl) rfl (sq_end (qs_n (wp_sc (wp_sc (wp_sq (sq_v rfl (v_assign rfl) rfl (sq_end (qs_n (wp_bl ?_)))))))))))); refine wp_lp (fun i : Nat => [(0, v), (1, num (k + i)), (5, num i)]) (fun _ => [hp w]) (fun i => i ≤ xs.length) (fun i => xs.length - i) 0 (by omega) ⟨rfl, by show _ = some (num (k + ((0 : Nat) : Int))); rw [show k + ((0 : Nat) : Int) = k by omega]; rfl, rfl, trivial⟩ (fun _ s => s) ?_; intro i hi; refine wp_sc (wp_sc (wp_sq (sq_v rfl (v_move rfl) rfl (sq_v rfl (v_move rfl) rfl (sq_v rfl (v_len Tryz.underlying25 rfl r.sl) rfl (sq_v rfl (v_lss rfl rfl) rfl (sq_end (qs_n ?_)))))))); refine wp_cd rfl (fun c9 => ?_) (fun c9 => ?_)
  · refine wp_sk (qs_n (wp_sc (wp_bl (wp_sc (wp_sc (wp_sq (sq_v rfl (v_move rfl) rfl (sq_v rfl (v_move rfl) rfl (sq_v rfl (v_idxI Tryz.underlying25 ty_3 rfl rfl r (by omega) (by omega)) rfl (sq_v rfl (v_loadI (k := i) 0 ty_3 rfl rfl r (by omega)) rfl (sq_v rfl (v_move rfl) rfl (sq_v rfl (v_neq rfl rfl) rfl (sq_end (qs_n ?_)))))))))))))); refine wp_cd rfl (fun c17 => ?_) (fun c17 => ?_)
    · refine wp_sc (wp_sq (sq_v rfl (v_assign rfl) rfl (sq_end (qs_n (wp_rt (qs_r (qs_br (qs_r (qs_r (qs_br (qs_r ?_))))))))))); exact absurd (by rw [he]; exact iota_get (by omega)) c17
    · refine wp_sk (qs_n (wp_sq (sq_v rfl (v_move rfl) rfl ?_))); refine sq_v rfl (v_add rfl rfl ((by unfold I64; omega))) rfl ?_; refine sq_v rfl (v_assign rfl) rfl (sq_end (qs_bn (qs_n (wp_sq (sq_v rfl (v_move rfl) rfl ?_))))); refine sq_v rfl (v_add rfl rfl ((by unfold I64; omega))) rfl ?_; refine sq_v rfl (v_assign rfl) rfl (sq_end ?_); exact qs_bk (i + 1) (by omega) (by omega) ⟨rfl, by simp only [Int.natCast_add, Int.natCast_one, ← Int.add_assoc]; rfl, rfl, trivial⟩ (fun _ s => s)
  · refine wp_ex (qs_x (qs_x (qs_bx (qs_n (wp_sc (wp_sq (sq_v rfl (v_move rfl) rfl (sq_v rfl (v_assign rfl) rfl (sq_end (qs_n (wp_rt ?_))))))))))); exact qs_ret1 rfl rfl (fin_q (i := 0) rfl (by congr 1; omega))
end Go.Proofs.YtmddmahaikineaaGreat
namespace Go.Proofs.YtmddmahaikineaaGreat
set_option maxRecDepth 100000
open Go.RowKit

theorem qs_close {n : Nat} {w0 : World} {K : Env} {HS : List PH} {Q : Exit → Act → World → Prop} {e : Exit} (A l : List PH) (hs : ∀ w, Sat w0 HS w → Sat w0 (A ++ l) w) (k : Made (joinP l) l → QS n w0 Q e K (joinP l :: A)) : QS n w0 Q e K HS :=
  fun a w en s => k (hs w s).close.2 a w en (hs w s).close.1
structure OwnL (xss : List (List Int)) (vs : List Value) (hs : List PH) : Prop where
  l1 : vs.length = xss.length
  l2 : hs.length = xss.length
  own : ∀ (i : Nat) (xs : List Int), xss[i]? = some xs → ∃ v h, vs[i]? = some v ∧ hs[i]? = some h ∧ IntsO xs v h
theorem OwnL.nil : OwnL [] [] [] := ⟨rfl, rfl, fun i xs h => by simp at h⟩
theorem OwnL.append {xss yss : List (List Int)} {vs us : List Value} {hs gs : List PH} (a : OwnL xss vs hs) (b : OwnL yss us gs) : OwnL (xss ++ yss) (vs ++ us) (hs ++ gs) := by
  refine ⟨by simp [a.l1, b.l1], by simp [a.l2, b.l2], fun i xs h => ?_⟩
  by_cases hi : i < xss.length
  · rw [List.getElem?_append_left hi] at h; rw [List.getElem?_append_left (by rw [a.l1]; exact hi), List.getElem?_append_left (by rw [a.l2]; exact hi)]; exact a.own i xs h
  · rw [List.getElem?_append_right (by omega)] at h; rw [List.getElem?_append_right (by rw [a.l1]; omega), List.getElem?_append_right (by rw [a.l2]; omega), a.l1, a.l2]; exact b.own _ xs h
theorem OwnL.three {l d x : List Int} {a b c : Value} {h1 h2 h3 : PH} (r1 : IntsO l a h1) (r2 : IntsO d b h2) (r3 : IntsO x c h3) : OwnL [l, d, x] [a, b, c] [h1, h2, h3] := by
  refine ⟨rfl, rfl, fun i xs h => ?_⟩
  match i, h with
  | 0, h => cases h; exact ⟨a, h1, rfl, rfl, r1⟩
  | 1, h => cases h; exact ⟨b, h2, rfl, rfl, r2⟩
  | 2, h => cases h; exact ⟨c, h3, rfl, rfl, r3⟩
  | i + 3, h => simp at h
theorem OwnL.set {xss : List (List Int)} {vs : List Value} {hs : List PH} (a : OwnL xss vs hs) {i : Nat} {v : Value} {ys : List Int} {h' : PH} (hv : vs[i]? = some v) (r : IntsO ys v h') : OwnL (xss.set i ys) vs (hs.set i h') := by
  have hi : i < vs.length := (List.getElem?_eq_some_iff.1 hv).1; refine ⟨by simp [a.l1], by simp [a.l2], fun j xs h => ?_⟩
  by_cases e : j = i
  · subst e; rw [List.getElem?_set_self (by rw [← a.l1]; exact hi)] at h
    cases h
    exact ⟨v, h', hv, List.getElem?_set_self (by rw [a.l2, ← a.l1]; exact hi), r⟩
  · rw [List.getElem?_set_ne (Ne.symm e)] at h; rw [List.getElem?_set_ne (Ne.symm e)]; exact a.own j xs h
def flat (ts : List Ten) : List (List Int) := ts.flatMap fun t => [t.l, t.d, t.x]
theorem flat_append (a b : List Ten) : flat (a ++ b) = flat a ++ flat b := by simp [flat]
theorem flat_len : ∀ ts : List Ten, (flat ts).length = ts.length * 3
  | [] => rfl
  | t :: r => by
    have := flat_len r; simp only [flat, List.flatMap_cons, List.length_append, List.length_cons, List.length_nil] at *
    omega
theorem tens_get : ∀ {ts : List Ten} {i : Nat} {t : Ten}, ts[i]? = some t → (flat ts)[i * 3]? = some t.l ∧ (flat ts)[i * 3 + 1]? = some t.d ∧ (flat ts)[i * 3 + 2]? = some t.x
  | [], i, t, h => by simp at h
  | u :: r, 0, t, h => by cases h; exact ⟨rfl, rfl, rfl⟩
  | u :: r, i + 1, t, h => by
    have := tens_get (ts := r) (i := i) (t := t) (by simpa using h); have e : ∀ j, (flat (u :: r))[(i + 1) * 3 + j]? = (flat r)[i * 3 + j]? := fun j => by
      show (u.l :: u.d :: u.x :: flat r)[(i + 1) * 3 + j]? = _
      rw [show (i + 1) * 3 + j = i * 3 + j + 1 + 1 + 1 by omega]
      simp
    exact ⟨by have := e 0; simp only [Nat.add_zero] at this; rw [this]; simp_all, by rw [e 1]; exact this.2.1, by rw [e 2]; exact this.2.2⟩
/-- Tensors that own their parts. -/
def TensO (ts : List Ten) (v : Value) (h : PH) : Prop := ∃ vs h0 hs, RowO 39 vs ts.length 3 v h0 ∧ OwnL (flat ts) vs hs ∧ Made h (h0 :: hs)
theorem three_at {vs : List Value} {i : Nat} {a b c : Value} (h0 : vs[i * 3]? = some a) (h1 : vs[i * 3 + 1]? = some b) (h2 : vs[i * 3 + 2]? = some c) : (vs.drop (i * 3)).take 3 = [a, b, c] := by
  apply List.ext_getElem?
  intro j; rw [List.getElem?_take]
  match j with
  | 0 => simpa using h0
  | 1 => simpa using h1
  | 2 => simpa using h2
  | j + 3 => rw [if_neg (by omega)]; simp
theorem OwnL.tens {ts : List Ten} {vs : List Value} {v : Value} {h : PH} {hs : List PH} (r0 : RowR vs ts.length 3 v h) (o : OwnL (flat ts) vs hs) (hle : ∀ x ∈ hs, PLe x h) : TensR ts v h := by
  refine ⟨vs, r0, fun i t ht => ?_⟩; obtain ⟨f1, f2, f3⟩ := tens_get ht; obtain ⟨a, h1, e1, g1, r1⟩ := o.own _ _ f1; obtain ⟨b, h2, e2, g2, r2⟩ := o.own _ _ f2; obtain ⟨c, h3, e3, g3, r3⟩ := o.own _ _ f3; exact ⟨a, b, c, three_at e1 e2 e3, r1.toR.mono (hle _ (List.mem_of_getElem? g1)), r2.toR.mono (hle _ (List.mem_of_getElem? g2)), r3.toR.mono (hle _ (List.mem_of_getElem? g3))⟩
theorem TensO.toR {ts : List Ten} {v : Value} {h : PH} (r : TensO ts v h) : TensR ts v h := by
  obtain ⟨vs, h0, hs, r0, o, m⟩ := r; exact OwnL.tens (r0.toR.mono (m.le h0 (by simp))) o (fun x hx => m.le x (by simp [hx]))
/-- A network that owns its parts. -/
def NetO (ts : List Ten) (op : List Int) (vt vo : Value) (h : PH) : Prop := ∃ vs h0 ho hs, RowO 39 vs ts.length 3 vt h0 ∧ IntsO op vo ho ∧ OwnL (flat ts) vs hs ∧ Made h (h0 :: ho :: hs)
theorem NetO.toR {ts : List Ten} {op : List Int} {vt vo : Value} {h : PH} (r : NetO ts op vt vo h) : TensR ts vt h ∧ IntsR op vo h := by
  obtain ⟨vs, h0, ho, hs, r0, r1, o, m⟩ := r; exact ⟨OwnL.tens (r0.toR.mono (m.le h0 (by simp))) o (fun x hx => m.le x (by simp [hx])), r1.toR.mono (m.le ho (by simp))⟩
def TenO (t : Ten) (u : Value) (h : PH) : Prop := ∃ a b c h1 h2 h3, u = tenV a b c ∧ IntsO t.l a h1 ∧ IntsO t.d b h2 ∧ IntsO t.x c h3 ∧ Made h [h1, h2, h3]
theorem ct_l_toTensor (t : Ten) (a b c : Value) (w : World) (r1 : IntsR t.l a (hp w)) (r2 : IntsR t.d b (hp w)) (r3 : IntsR t.x c (hp w)) (hs : tenSize t ≤ 1048576) :
    Calls Tryz.prog 34 [tenV a b c].toArray w (Ret w emp (TenO t)) := by
  unfold tenSize at hs
  refine calls_in Tryz.func34 rfl Tryz.ntmps34 rfl (Sat.start w) (wp_sc (wp_sq ?_)); refine sq_x rfl (x_box rfl rfl) rfl ?_; rintro _ _ ⟨b1, rfl, rfl⟩; refine sq_x rfl (x_alloc ty_39 rfl) rfl ?_; rintro _ _ ⟨b2, rfl, rfl⟩; refine sq_end (qs_n (wp_sc (wp_sq ?_))); refine sq_x rfl (x_alloc ty_39 rfl) rfl ?_; rintro _ _ ⟨b3, rfl, rfl⟩; refine sq_end (qs_n (wp_sc (wp_sq (sq_v rfl (v_fieldAddr fd_58_0 ty_25 (by decide) rfl) rfl (sq_v rfl (v_loadB 2 ty_25 rfl rfl rfl) rfl ?_))))); refine sq_x rfl (x_call rfl en_19 (fun w s => ct_l_toIntS _ _ w (r1.mono (s.get 3 rfl)) (by omega))) rfl ?_; rintro v6 h6 r6; refine sq_v rfl (v_fieldAddr fd_39_0 ty_25 (by decide) rfl) rfl ?_; refine sq_m 1 rfl rfl (m_store1 1 ty_25 rfl rfl r6.toR.sl.one rfl (Nat.le_of_ble_eq_true rfl)) rfl ?_; rintro _ _ ⟨rfl, rfl⟩; refine sq_end (qs_n (wp_sc (wp_sq (sq_v rfl (v_fieldAddr fd_58_1 ty_25 (by decide) rfl) rfl (sq_v rfl (v_loadB 3 ty_25 rfl rfl rfl) rfl ?_))))); refine sq_x rfl (x_call rfl en_19 (fun w s => ct_l_toIntS _ _ w (r2.mono (s.get 4 rfl)) (by omega))) rfl ?_; rintro v10 h10 r10; refine sq_v rfl (v_fieldAddr fd_39_1 ty_25 (by decide) rfl) rfl ?_; refine sq_m 2 rfl rfl (m_store1 2 ty_25 rfl rfl r10.toR.sl.one rfl (Nat.le_of_ble_eq_true rfl)) rfl ?_; rintro _ _ ⟨rfl, rfl⟩; refine sq_end (qs_n (wp_sc (wp_sq (sq_v rfl (v_fieldAddr fd_58_2 ty_25 (by decide) rfl) rfl (sq_v rfl (v_loadB 4 ty_25 rfl rfl rfl) rfl ?_))))); refine sq_x rfl (x_call rfl en_19 (fun w s => ct_l_toIntS _ _ w (r3.mono (s.get 5 rfl)) (by omega))) rfl ?_; rintro v14 h14 r14; refine sq_v rfl (v_fieldAddr fd_39_2 ty_25 (by decide) rfl) rfl ?_; refine sq_m 3 rfl rfl (m_store1 3 ty_25 rfl rfl r14.toR.sl.one rfl (Nat.le_of_ble_eq_true rfl)) rfl ?_; rintro _ _ ⟨rfl, rfl⟩; refine sq_end (qs_n (wp_sc (wp_sq (sq_v rfl (v_loadNB 3 ty_39 rfl rfl rfl rfl) rfl ?_)))); refine sq_m 4 rfl rfl (m_store 4 ty_39 rfl rfl rfl rfl (by simp [r6.toR.sl.one, r10.toR.sl.one, r14.toR.sl.one]) rfl (Nat.le_of_ble_eq_true rfl)) rfl ?_; rintro _ _ ⟨rfl, rfl⟩; refine sq_end (qs_n (wp_rt ?_)); refine qs_close [box b2 _ _, hp w] [h6, h10, h14] (fun _ s => s.pick [4, 6, 2, 1, 0] (by decide) rfl) (fun md => ?_); exact qs_retc 1 rfl ty_39 rfl rfl rfl (fin_t 0 (i := 2) rfl rfl rfl ⟨v6, v10, v14, h6, h10, h14, rfl, r6, r10, r14, md⟩)
def nil3 : List Value := [.slice none 0 0, .slice none 0 0, .slice none 0 0]
theorem row_step {vs : List Value} {i m : Nat} {a b c : Value} (hv : vs.length = i * 3) : (vs ++ (List.replicate (m + 1) nil3).flatten).take (i * 3) ++ [a, b, c] ++ (vs ++ (List.replicate (m + 1) nil3).flatten).drop (i * 3 + 3) = (vs ++ [a, b, c]) ++ (List.replicate m nil3).flatten := by
  rw [← hv, List.take_left, List.drop_append, List.drop_of_length_le (by omega), List.nil_append, List.replicate_succ, List.flatten_cons]; have : vs.length + 3 - vs.length = nil3.length := by simp [nil3]
  rw [this, List.drop_left]
theorem ct_l_toTensorS (ts : List Ten) (v : Value) (w : World) (r : TensR ts v (hp w)) (hs : ts.length + tensSize ts ≤ 1048576) :
    Calls Tryz.prog 59 [v].toArray w (Ret w emp (TensO ts)) := by
  have hx := r.le; have hn := tensSize_nn ts; obtain ⟨cells, rr, hc⟩ := r.at; refine calls_in Tryz.func59 rfl Tryz.ntmps59 rfl (Sat.start w) (wp_sc (wp_sq (sq_v rfl (v_assign rfl) rfl (sq_end (qs_n (wp_sc (wp_sq (sq_v rfl (v_move rfl) rfl (sq_v rfl (v_len Tryz.underlying24 rfl r.sl) rfl ?_))))))))); refine sq_x rfl (x_make Tryz.underlying30 ty_39 rfl rfl rfl rfl (by omega) (by omega) (by omega)) rfl ?_; intro v7 h7 r7; refine sq_v rfl (v_assign rfl) rfl (sq_end (qs_n (wp_sc (wp_sc (wp_sq (sq_v rfl (v_assign rfl) rfl (sq_end (qs_n (wp_bl (wp_lp (fun s : Nat × PH × List Value × List PH => [(0, v), (3, v7), (4, num s.1)]) (fun s => s.2.1 :: hp w :: s.2.2.2) (fun s => s.1 ≤ ts.length ∧ RowO 39 (s.2.2.1 ++ (List.replicate (ts.length - s.1) nil3).flatten) ts.length 3 v7 s.2.1 ∧ OwnL (flat (ts.take s.1)) s.2.2.1 s.2.2.2) (fun s => ts.length - s.1) (0, h7, [], []) ⟨by omega, by simpa [nil3] using r7, OwnL.nil⟩ ⟨rfl, rfl, rfl, trivial⟩ (fun _ s => s) ?_)))))))))); rintro ⟨i, h0, vs, hs'⟩ ⟨hi, r0, ow⟩; dsimp only at hi r0 ow ⊢; have hvl : vs.length = i * 3 := by rw [ow.l1, flat_len, List.length_take, Nat.min_eq_left hi]
  refine wp_sc (wp_sc (wp_sq (sq_v rfl (v_move rfl) rfl (sq_v rfl (v_move rfl) rfl (sq_v rfl (v_len Tryz.underlying24 rfl r.sl) rfl (sq_v rfl (v_lss rfl rfl) rfl (sq_end (qs_n ?_)))))))); refine wp_cd rfl (fun c11 => ?_) (fun c11 => ?_)
  · refine wp_sk (qs_n (wp_sc (wp_bl (wp_sq (sq_v rfl (v_move rfl) rfl (sq_v rfl (v_move rfl) rfl (sq_v rfl (v_move rfl) rfl (sq_v rfl (v_move rfl) rfl ?_)))))))); obtain ⟨t, a, b, c, ht, hcs, r1, r2, r3⟩ := hc i (by omega); have hst := tensSize_step ht; have htk := tensSize_take ts (i + 1); have hnd := tensSize_nn (ts.drop (i + 1)); have hnn := tensSize_nn (ts.take i); refine sq_v rfl (v_indexAddr Tryz.underlying24 ty_58 rfl rfl rr (by decide) (by omega) (by omega)) rfl ?_; refine sq_v rfl (v_loadNE 1 ty_58 rfl rfl rr (by have := rr.1; omega) rfl hcs) rfl ?_; refine sq_x rfl (x_call rfl en_34 (fun w s => ct_l_toTensor t _ _ _ w (r1.mono (s.get 1 rfl)) (r2.mono (s.get 1 rfl)) (r3.mono (s.get 1 rfl)) (by omega))) rfl ?_; rintro _ h20 ⟨a', b', c', h1, h2, h3, rfl, o1, o2, o3, md⟩; refine sq_v rfl (v_indexAddr Tryz.underlying30 ty_39 rfl rfl r0.toR (by decide) (by omega) (by omega)) rfl ?_; refine sq_m 1 rfl rfl (m_storeE 1 ty_39 rfl rfl (us := [a', b', c']) rfl rfl (by simp [o1.toR.sl.one, o2.toR.sl.one, o3.toR.sl.one]) rfl r0 (by decide) (by have := r0.1; simp only [Int.toNat_natCast]; omega)) rfl ?_; rintro _ h8 ⟨rfl, r8⟩; refine sq_end (qs_bn (qs_n (wp_sq (sq_v rfl (v_move rfl) rfl ?_)))); refine sq_v rfl (v_add rfl rfl ((by unfold I64; omega))) rfl ?_; refine sq_v rfl (v_assign rfl) rfl (sq_end ?_); obtain ⟨m, hm⟩ : ∃ m, ts.length - i = m + 1 := ⟨ts.length - i - 1, by omega⟩
    have hm' : ts.length - (i + 1) = m := by omega
    simp only [Int.toNat_natCast] at r8; rw [hm, row_step hvl] at r8; exact qs_bk (i + 1, h8, vs ++ [a', b', c'], hs' ++ [h1, h2, h3]) ⟨by simp only; omega, by simp only [hm']; exact r8, by simp only; rw [take_ten ht, flat_append]; exact ow.append (OwnL.three o1 o2 o3)⟩ (by simp only; omega) ⟨rfl, rfl, rfl, trivial⟩ (fun _ s => Sat.open md s)
  · refine wp_ex (qs_x (qs_x (qs_bx (qs_n (wp_sc (wp_sq (sq_v rfl (v_move rfl) rfl (sq_v rfl (v_assign rfl) rfl (sq_end (qs_n (wp_rt ?_))))))))))); have e : i = ts.length := by omega
    subst e; rw [Nat.sub_self, List.replicate_zero, List.flatten_nil, List.append_nil] at r0; rw [List.take_length] at ow; refine qs_close [hp w] (h0 :: hs') (fun _ s => Sat.pickT (A := [h0, hp w]) (A' := [hp w, h0]) s [1, 0] (by decide) rfl) (fun md => ?_); exact qs_ret1 rfl rfl (fin_t 0 (i := 1) rfl rfl rfl ⟨vs, h0, hs', r0, ow, md⟩)
theorem ct_l_toNetwork (k p n : Int) (ts : List Ten) (op : List Int) (vt vo : Value) (w : World) (r : TensR ts vt (hp w)) (r' : IntsR op vo (hp w)) (hs : ts.length + tensSize ts + op.length ≤ 1048576) :
    Calls Tryz.prog 13 [netV k p n vt vo].toArray w (Ret w emp (fun u h => ∃ vt' vo', u = netV k p n vt' vo' ∧ NetO ts op vt' vo' h)) := by
  have hn := tensSize_nn ts; refine calls_in Tryz.func13 rfl Tryz.ntmps13 rfl (Sat.start w) (wp_sc (wp_sq ?_)); refine sq_x rfl (x_box rfl rfl) rfl ?_; rintro _ _ ⟨b1, rfl, rfl⟩; refine sq_x rfl (x_alloc ty_32 rfl) rfl ?_; rintro _ _ ⟨b2, rfl, rfl⟩; refine sq_end (qs_n (wp_sc (wp_sq ?_))); refine sq_x rfl (x_alloc ty_32 rfl) rfl ?_; rintro _ _ ⟨b3, rfl, rfl⟩; refine sq_end (qs_n (wp_sc (wp_sq (sq_v rfl (v_fieldAddr fd_27_0 ty_23 (by decide) rfl) rfl (sq_v rfl (v_loadNB 2 ty_23 rfl rfl rfl rfl) rfl (sq_u rfl (x_callv rfl en_58 (fun w s => ct_l_toRing _ _ _ w)) rfl (sq_v rfl (v_fieldAddr fd_32_0 ty_29 (by decide) rfl) rfl ?_))))))); refine sq_m 0 rfl rfl (m_store 0 ty_29 rfl rfl rfl rfl (by simp [Value.oneCell']) rfl (Nat.le_of_ble_eq_true rfl)) rfl ?_; rintro _ _ ⟨rfl, rfl⟩; refine sq_end (qs_n (wp_sc (wp_sq (sq_v rfl (v_fieldAddr fd_27_1 ty_24 (by decide) rfl) rfl (sq_v rfl (v_loadB 2 ty_24 rfl rfl rfl) rfl ?_))))); refine sq_x rfl (x_call rfl en_59 (fun w s => ct_l_toTensorS _ _ w (r.mono (s.get 3 rfl)) (by omega))) rfl ?_; rintro v10 h10 r10; refine sq_v rfl (v_fieldAddr fd_32_1 ty_30 (by decide) rfl) rfl ?_; refine sq_m 1 rfl rfl (m_store1 1 ty_30 rfl rfl r10.toR.sl.one rfl (Nat.le_of_ble_eq_true rfl)) rfl ?_; rintro _ _ ⟨rfl, rfl⟩; refine sq_end (qs_n (wp_sc (wp_sq (sq_v rfl (v_fieldAddr fd_27_2 ty_25 (by decide) rfl) rfl (sq_v rfl (v_loadB 3 ty_25 rfl rfl rfl) rfl ?_))))); refine sq_x rfl (x_call rfl en_19 (fun w s => ct_l_toIntS _ _ w (r'.mono (s.get 4 rfl)) (by omega))) rfl ?_; rintro v14 h14 r14; refine sq_v rfl (v_fieldAddr fd_32_2 ty_25 (by decide) rfl) rfl ?_; refine sq_m 2 rfl rfl (m_store1 2 ty_25 rfl rfl r14.toR.sl.one rfl (Nat.le_of_ble_eq_true rfl)) rfl ?_; rintro _ _ ⟨rfl, rfl⟩; refine sq_end (qs_n (wp_sc (wp_sq (sq_v rfl (v_loadNB 2 ty_32 rfl rfl rfl rfl) rfl ?_)))); refine sq_m 3 rfl rfl (m_store 3 ty_32 rfl rfl rfl rfl (by simp [one_int, r10.toR.sl.one, r14.toR.sl.one]) rfl (Nat.le_of_ble_eq_true rfl)) rfl ?_; rintro _ _ ⟨rfl, rfl⟩; refine sq_end (qs_n (wp_rt ?_)); obtain ⟨vs, h0, hs', r0, ow, md0⟩ := id r10; refine qs_close [box b2 _ _, hp w] (h0 :: h14 :: hs') (fun _ s => Sat.pickT (A := [h14, box b2 _ _, hp w, h0]) (A' := [box b2 _ _, hp w, h0, h14]) (Sat.open (A := [h14, box b2 _ _, hp w]) md0 (s.pick [1, 0, 3, 5] (by decide) rfl)) [1, 2, 3, 0] (by decide) rfl) (fun md => ?_); exact qs_retc 1 rfl ty_32 rfl rfl rfl (fin_t 0 (i := 2) rfl rfl rfl ⟨_, _, rfl, vs, h0, h14, hs', r0, r14, ow, md⟩)
end Go.Proofs.YtmddmahaikineaaGreat
namespace Go.Proofs.YtmddmahaikineaaGreat
set_option maxRecDepth 100000
open Go.RowKit

/-- From k on, each number of the lists is one more than the number before it; the next would be k'. -/
def HeldL : Int → List (List Int) → Int → Prop
  | k, [], k' => k = k'
  | k, xs :: r, k' => xs = iota k xs.length ∧ HeldL (k + xs.length) r k'
theorem HeldL.le : ∀ {xss : List (List Int)} {k k' : Int}, HeldL k xss k' → k ≤ k'
  | [], k, k', h => by have : k = k' := h; omega
  | xs :: r, k, k', h => by have := HeldL.le h.2; omega
theorem HeldL.append : ∀ {xss yss : List (List Int)} {k k1 k' : Int}, HeldL k xss k1 → HeldL k1 yss k' → HeldL k (xss ++ yss) k'
  | [], yss, k, k1, k', h, g => by have : k = k1 := h; subst this; exact g
  | xs :: r, yss, k, k1, k', h, g => ⟨h.1, HeldL.append h.2 g⟩
theorem iota_held (k : Int) (m : Nat) : iota k m = iota k (iota k m).length := by rw [iota_len]
theorem held_three (q : Int) (m1 m2 m3 : Nat) {e : Int} (he : e = q + m1 + m2 + m3) : HeldL q [iota q m1, iota (q + m1) m2, iota (q + m1 + m2) m3] e := by
  refine ⟨iota_held _ _, by simp only [iota_len], by simp only [iota_len], ?_⟩; simp only [iota_len]
  show _ = _
  exact he.symm
theorem flat_cons (t : Ten) (r : List Ten) : flat (t :: r) = t.l :: t.d :: t.x :: flat r := rfl
theorem flat_set3 {A B : List Ten} {t : Ten} {i : Nat} (hA : A.length = i) (l d x : List Int) : (((flat (A ++ t :: B)).set (i * 3) l).set (i * 3 + 1) d).set (i * 3 + 2) x = flat (A ++ ⟨l, d, x⟩ :: B) := by
  have hl : (flat A).length = i * 3 := by rw [flat_len, hA]
  rw [flat_append, flat_append, flat_cons, flat_cons, List.set_append_right _ _ (by omega), List.set_append_right _ _ (by omega), List.set_append_right _ _ (by omega), hl]; have e1 : i * 3 - i * 3 = 0 := by omega
  have e2 : i * 3 + 1 - i * 3 = 1 := by omega
  have e3 : i * 3 + 2 - i * 3 = 2 := by omega
  rw [e1, e2, e3]
  rfl
theorem ct_l_markTensorS (ts : List Ten) (v : Value) (k : Int) (w : World) (h : PH) (hle : PLe h (hp w)) (r : TensO ts v h) (hk : 0 ≤ k ∧ k + tensSize ts ≤ 4611686018427387904) :
    Calls Tryz.prog 68 [v, num k].toArray w (Ret w h (fun u h' => u = num (k + tensSize ts) ∧ ∃ ts', TensO ts' v h' ∧ HeldL k (flat ts') (k + tensSize ts))) := by
  obtain ⟨vs, h0, hs, r0, ow, md⟩ := r; have hx : (ts.length : Int) ≤ 9223372036854775807 := by obtain ⟨_, _, _, _, ⟨h, _⟩, _⟩ := r0.toR; unfold maxLen at h; omega
  refine calls_in Tryz.func68 rfl Tryz.ntmps68 rfl (Sat.start2 hle) (wp_sc (wp_sq (sq_v rfl (v_assign rfl) rfl (sq_end (qs_n (wp_sc (wp_sc (wp_sq (sq_v rfl (v_assign rfl) rfl (sq_end (qs_n (wp_bl ?_)))))))))))); refine wp_lp (fun s : Nat × List Ten × List PH => [(0, v), (1, num (k + tensSize (ts.take s.1))), (5, num s.1)]) (fun s => restP w h :: h0 :: s.2.2) (fun s => s.1 ≤ ts.length ∧ s.2.1.length = s.1 ∧ OwnL (flat (s.2.1 ++ ts.drop s.1)) vs s.2.2 ∧ HeldL k (flat s.2.1) (k + tensSize (ts.take s.1))) (fun s => ts.length - s.1) (0, [], hs) ⟨by omega, rfl, ow, by simp [flat, HeldL, tensSize]⟩ ⟨rfl, by show _ = some (num (k + 0)); rw [Int.add_zero]; rfl, rfl, trivial⟩ (fun _ s => Sat.open (A := [restP w h]) md s) ?_; rintro ⟨i, A, hs'⟩ ⟨hi, hA, ow', hh⟩; dsimp only at hi hA ow' hh ⊢; refine wp_sc (wp_sc (wp_sq (sq_v rfl (v_move rfl) rfl (sq_v rfl (v_move rfl) rfl (sq_v rfl (v_len Tryz.underlying30 rfl r0.toR.sl) rfl (sq_v rfl (v_lss rfl rfl) rfl (sq_end (qs_n ?_)))))))); refine wp_cd rfl (fun c9 => ?_) (fun c9 => ?_)
  · refine wp_sk (qs_n (wp_sc (wp_bl (wp_sc (wp_sq (sq_v rfl (v_move rfl) rfl (sq_v rfl (v_move rfl) rfl ?_))))))); obtain ⟨t, ht⟩ : ∃ t, ts[i]? = some t := ⟨_, List.getElem?_eq_getElem (by omega)⟩; rw [drop_at ht] at ow'; obtain ⟨f1, f2, f3⟩ := tens_get (ts := A ++ t :: ts.drop (i + 1)) (i := i) (t := t) (by rw [← hA]; simp); obtain ⟨a, h1, e1, g1, o1⟩ := ow'.own _ _ f1; obtain ⟨b, h2, e2, g2, o2⟩ := ow'.own _ _ f2; obtain ⟨c, h3, e3, g3, o3⟩ := ow'.own _ _ f3; have hst := tensSize_step ht; have htk := tensSize_take ts (i + 1); have hnd := tensSize_nn (ts.drop (i + 1)); have hnn := tensSize_nn (ts.take i); have hts : tenSize t = t.l.length + t.d.length + t.x.length := rfl; have hvl := r0.1; refine sq_v rfl (v_indexAddr Tryz.underlying30 ty_39 rfl rfl r0.toR (by decide) (by omega) (by omega)) rfl ?_; refine sq_v rfl (v_fieldAddrE fd_39_0 ty_25 (by decide) rfl r0.toR (by simp only [Int.toNat_natCast]; omega)) rfl ?_; refine sq_v rfl (v_loadE 1 ty_25 rfl rfl r0.toR e1) rfl (sq_v rfl (v_move rfl) rfl ?_); refine sq_mT (A := [restP w h, h0]) (i * 3) (2 + i * 3) rfl rfl g1 (fun hp' => x_call rfl en_23 (fun w' s => ct_l_markIntS _ _ _ w' _ (s.get _ hp') o1 (by omega))) rfl ?_; rintro _ h18 ⟨rfl, o18⟩; refine sq_v rfl (v_assign rfl) rfl (sq_end (qs_n (wp_sc (wp_sq (sq_v rfl (v_move rfl) rfl (sq_v rfl (v_move rfl) rfl (sq_v rfl (v_indexAddr Tryz.underlying30 ty_39 rfl rfl r0.toR (by decide) (by omega) (by omega)) rfl ?_))))))); refine sq_v rfl (v_fieldAddrE fd_39_1 ty_25 (by decide) rfl r0.toR (by simp only [Int.toNat_natCast]; omega)) rfl ?_; refine sq_v rfl (v_loadE 1 ty_25 rfl rfl r0.toR e2) rfl (sq_v rfl (v_move rfl) rfl ?_); refine sq_mT (A := [restP w h, h0]) (i * 3 + 1) (2 + (i * 3 + 1)) rfl rfl (by rw [List.getElem?_set_ne (by omega)]; exact g2) (fun hp' => x_call rfl en_23 (fun w' s => ct_l_markIntS _ _ _ w' _ (s.get _ hp') o2 (by omega))) rfl ?_; rintro _ h25 ⟨rfl, o25⟩; refine sq_v rfl (v_assign rfl) rfl (sq_end (qs_n (wp_sq (sq_v rfl (v_move rfl) rfl (sq_v rfl (v_move rfl) rfl (sq_v rfl (v_indexAddr Tryz.underlying30 ty_39 rfl rfl r0.toR (by decide) (by omega) (by omega)) rfl ?_)))))); refine sq_v rfl (v_fieldAddrE fd_39_2 ty_25 (by decide) rfl r0.toR (by simp only [Int.toNat_natCast]; omega)) rfl ?_; refine sq_v rfl (v_loadE 1 ty_25 rfl rfl r0.toR e3) rfl (sq_v rfl (v_move rfl) rfl ?_); refine sq_mT (A := [restP w h, h0]) (i * 3 + 2) (2 + (i * 3 + 2)) rfl rfl (by rw [List.getElem?_set_ne (by omega), List.getElem?_set_ne (by omega)]; exact g3) (fun hp' => x_call rfl en_23 (fun w' s => ct_l_markIntS _ _ _ w' _ (s.get _ hp') o3 (by omega))) rfl ?_; rintro _ h32 ⟨rfl, o32⟩; refine sq_v rfl (v_assign rfl) rfl (sq_end (qs_bn (qs_n (wp_sq (sq_v rfl (v_move rfl) rfl ?_))))); refine sq_v rfl (v_add rfl rfl ((by unfold I64; omega))) rfl ?_; refine sq_v rfl (v_assign rfl) rfl (sq_end ?_); have ow3 := ((ow'.set e1 o18).set e2 o25).set e3 o32; rw [flat_set3 hA] at ow3; refine qs_bk (i + 1, A ++ [_], ((hs'.set (i * 3) h18).set (i * 3 + 1) h25).set (i * 3 + 2) h32) ⟨by simp only; omega, by simp [hA], by simp only; rw [List.append_assoc]; exact ow3, ?_⟩ (by simp only; omega) ⟨rfl, by rw [hst, hts, ← Int.add_assoc, ← Int.add_assoc, ← Int.add_assoc]; rfl, rfl, trivial⟩ (fun _ s => s)
    simp only
    rw [flat_append, hst, hts]; exact hh.append (held_three _ _ _ _ (by omega))
  · refine wp_ex (qs_x (qs_x (qs_bx (qs_n (wp_sc (wp_sq (sq_v rfl (v_move rfl) rfl (sq_v rfl (v_assign rfl) rfl (sq_end (qs_n (wp_rt ?_))))))))))); have e : i = ts.length := by omega
    subst e; rw [List.drop_length, List.append_nil] at ow'; rw [List.take_length] at hh; refine qs_close [restP w h] (h0 :: hs') (fun _ s => s) (fun md' => ?_); exact qs_ret1 rfl rfl (fin_m (i := 1) 0 rfl rfl rfl ⟨by rw [List.take_length], A, ⟨vs, h0, hs', by rw [hA]; exact r0, ow', md'⟩, hh⟩)
theorem ct_l_markNetwork (kd p n : Int) (ts : List Ten) (op : List Int) (vt vo : Value) (k : Int) (w : World) (h : PH) (hle : PLe h (hp w)) (r : NetO ts op vt vo h) (hk : 0 ≤ k ∧ k + tensSize ts + op.length ≤ 4611686018427387904) :
    Calls Tryz.prog 16 [netV kd p n vt vo, num k].toArray w (Ret w h (fun u h' => u = num (k + tensSize ts + op.length) ∧ ∃ ts' op', NetO ts' op' vt vo h' ∧ HeldL k (flat ts' ++ [op']) (k + tensSize ts + op.length))) := by
  obtain ⟨vs, h0, ho, hs, r0, r1, ow, md⟩ := r; have hnn := tensSize_nn ts; have md0 : Made (joinP (h0 :: hs)) (h0 :: hs) := Made.join ⟨fun x hx => md.sep.1 x (by simp [hx]), md.sep.2.2⟩; have hent : Sat w [joinP (h0 :: hs), ho, restP w h] w := by
    have s1 := Sat.open (A := [restP w h]) md (Sat.start2 hle); have s2 := Sat.pickT (A := [restP w h, h0, ho]) (A' := [ho, restP w h, h0]) s1 [2, 0, 1] (by decide) rfl; exact (Sat.close (A := [ho, restP w h]) (l := h0 :: hs) s2).1
  refine calls_in Tryz.func16 rfl Tryz.ntmps16 rfl hent (wp_sc (wp_sq ?_)); refine sq_x rfl (x_box rfl rfl) rfl ?_; rintro _ _ ⟨b2, rfl, rfl⟩; refine sq_v rfl (v_assign rfl) rfl (sq_end (qs_n (wp_sc (wp_sq (sq_v rfl (v_fieldAddr fd_32_1 ty_30 (by decide) rfl) rfl (sq_v rfl (v_loadB 0 ty_30 rfl rfl rfl) rfl (sq_v rfl (v_move rfl) rfl ?_))))))); refine sq_m 1 rfl rfl (x_call rfl en_68 (fun w s => ct_l_markTensorS ts _ _ w _ (s.get 1 rfl) ⟨vs, h0, hs, r0, ow, md0⟩ (by omega))) rfl ?_; rintro _ h8 ⟨rfl, ts', r8, hl8⟩; refine sq_v rfl (v_assign rfl) rfl (sq_end (qs_n (wp_sc (wp_sq (sq_v rfl (v_fieldAddr fd_32_2 ty_25 (by decide) rfl) rfl (sq_v rfl (v_loadB 0 ty_25 rfl rfl rfl) rfl (sq_v rfl (v_move rfl) rfl ?_))))))); refine sq_m 2 rfl rfl (x_call rfl en_23 (fun w s => ct_l_markIntS op _ _ w _ (s.get 2 rfl) r1 (by omega))) rfl ?_; rintro _ h12 ⟨rfl, r12⟩; refine sq_v rfl (v_assign rfl) rfl (sq_end (qs_n (wp_sc (wp_sq (sq_v rfl (v_move rfl) rfl (sq_v rfl (v_assign rfl) rfl (sq_end (qs_n (wp_rt ?_))))))))); obtain ⟨vs', g0, gs, q0, ow8, md8⟩ := id r8; refine qs_close [box b2 _ _, restP w h] (g0 :: h12 :: gs) (fun _ s => Sat.pickT (A := [box b2 _ _, h12, restP w h, g0]) (A' := [box b2 _ _, restP w h, g0, h12]) (Sat.open (A := [box b2 _ _, h12, restP w h]) md8 (s.pick [1, 0, 2, 3] (by decide) rfl)) [0, 2, 3, 1] (by decide) rfl) (fun md' => ?_); exact qs_ret1 rfl rfl (fin_m (i := 2) 0 rfl rfl rfl ⟨rfl, ts', _, ⟨vs', g0, h12, gs, q0, r12, ow8, md'⟩, hl8.append ⟨iota_held _ _, by rw [iota_len]; exact rfl⟩⟩)
theorem HeldL.part : ∀ {xss yss : List (List Int)} {k k' : Int}, HeldL k (xss ++ yss) k' → ∃ k1, HeldL k xss k1 ∧ HeldL k1 yss k'
  | [], yss, k, k', h => ⟨k, rfl, h⟩
  | xs :: r, yss, k, k', h => by
    obtain ⟨k1, h1, h2⟩ := HeldL.part (xss := r) (yss := yss) h.2; exact ⟨k1, ⟨h.1, h1⟩, h2⟩
end Go.Proofs.YtmddmahaikineaaGreat
namespace Go.Proofs.YtmddmahaikineaaGreat
set_option maxRecDepth 100000
open Go.RowKit
theorem IntsR.subL {xs : List Int} {v : Value} {h : PH} (r : IntsR xs v h) {lo : Nat} (h1 : lo ≤ xs.length) : IntsR (xs.drop lo) (subV v lo xs.length 1) h := by
  have := r.sub (lo := lo) (hi := xs.length) h1 (Nat.le_refl _)
  rwa [List.take_of_length_le (by simp)] at this
theorem eltP_sub {cs : List Value} {m : Nat} {v : Value} {h : PH} (r : RowR cs m 1 v h) {lo hi k : Nat} (h1 : lo + k < hi) (h2 : hi ≤ m) : eltP (subV v lo hi 1) k = eltP v (lo + k) := by
  obtain ⟨hl, a, c, rfl, ⟨_, h3⟩, h4⟩ := r; obtain ⟨b, o, rfl, _⟩ := h4 (by omega); have e : ¬ c = lo := by omega
  simp [subV, sliced, e, eltP, add_at, Nat.add_assoc]
section
variable {P : Program} {n : Nat} {w0 : World} {K : Env} {HS : List PH} {d : Option Tmp} {ty : TypeId} {ps : String} {af : Array Edge} {g : Option (Nat × Bool)}
/-- A store of an integer into a part of a slice of the call's own. -/
theorem m_storeSub {t : TypeId} {x y : Operand} {z : Value} {bytes : Nat} {agg : Bool} {lo hi k : Nat} {sv : Value} {a : Int} {xs : List Int} {h : PH} (p : Nat) (ht : TyF P t z 1 bytes agg) (hx : ev K x = some (eltP (subV sv lo hi 1) k)) (hy : ev K y = some (num a))
    (hp' : HS[p]? = some h) (r : IntsO xs sv h) (h1 : lo + k < hi) (h2 : hi ≤ xs.length) :
    StepX P n w0 K HS ⟨d, .store t x y, ty, ps, af, g⟩ h (fun v' h' => v' = undef ∧ IntsO (xs.set (lo + k) a) sv h') :=
  m_storeI p ht (by rw [hx, eltP_sub r.toR h1 h2]) hy hp' r (by omega)
/-- 'clear(s)' on a slice of integers of the call's own. -/
theorem m_clearI {t : TypeId} {x : Operand} {xs : List Int} {bytes : Nat} {v : Value} {h : PH} (p : Nat) (ht : P.underlying t = some (.slice 3)) (he : TyF P 3 (num 0) 1 bytes false) (hx : ev K x = some v) (hp' : HS[p]? = some h) (r : IntsO xs v h) :
    StepX P n w0 K HS ⟨d, .call ⟨.builtin .clear, #[x], #[t]⟩, ty, ps, af, g⟩ h (fun _ h' => IntsO (List.replicate xs.length 0) v h') :=
  stepx_run fun a w e s => by
    obtain ⟨i, hi, hz', hsz, hb⟩ := he.get; have hle := s.get p hp'; obtain ⟨hcl, hr⟩ := r; have ex : ∀ v' w', (Builtin.clear_ #[t] ty #[v]).run P w = .ok v' w' → (execOp a.eval ⟨d, .call ⟨.builtin .clear, #[x], #[t]⟩, ty, ps, af, g⟩).run P w = .ok (.value v') w' := fun v' w' hr => by
      simp [execOp, resolve, invoke, builtin, e.ev hx, hr]
    rcases hr with ⟨rfl, h0, rfl⟩ | ⟨gb, cap, cur, rfl, rfl, h3, h4, h5, h6⟩
    · have hx0 : xs = [] := List.eq_nil_of_length_eq_zero (by simpa using h0); subst hx0; exact ⟨.tuple #[], w, emp, ex _ _ (by simp [Builtin.clear_, run_underlying ht]), Upd.refl w, IntsO.nil⟩
    · by_cases h0 : xs.length = 0
      · have hx0 : xs = [] := List.eq_nil_of_length_eq_zero h0; subst hx0; exact ⟨.tuple #[], w, _, ex _ _ (by simp [Builtin.clear_, run_underlying ht]), ⟨rfl, rfl, rfl, Nat.le_refl _, fun _ _ _ => rfl, hle, fun j o ho => .inl (by rw [ho]; simp)⟩, rfl, .inr ⟨gb, cap, cur, rfl, rfl, h3, h4, h5, h6⟩⟩
      · have hgb : w.heap[gb]? = some (.cells cur.toArray 3 (0, 0)) := hle gb _ (by simp [box]); have hz : (Builtin.zeroCells (num 0).cells xs.length).toList = ints (List.replicate xs.length 0) := by
          have := madeCells_toList [num 0] xs.length; have e1 : (List.replicate xs.length [num 0]).flatten = ints (List.replicate xs.length 0) := by
            rw [List.flatten_replicate_singleton]; simp [ints]
          rw [← e1, ← this]
          rfl
        have hst := run_storeCells_at P gb 0 3 (ints (List.replicate xs.length 0)) 0 cur.toArray w hgb (by simp [ints]; omega) (ints_one _); simp only [Nat.add_zero] at hst; refine ⟨.tuple #[], w.setRow gb (cur.take 0 ++ ints (List.replicate xs.length 0) ++ cur.drop (0 + (ints (List.replicate xs.length 0)).length)).toArray, _, ex _ _ ?_, upd_setRow hle _, by simp [ints], .inr ⟨gb, cap, _, by rw [List.length_replicate], rfl, by simpa using h3, h4, ?_, ?_⟩⟩
        · rw [show Builtin.clear_ #[t] ty #[.slice (some ⟨gb, 0, none⟩) xs.length cap] = (do
              match ← underlying t, (Value.slice (some ⟨gb, 0, none⟩) xs.length cap) with
              | _, .map none | _, .slice none _ _ | _, .slice _ 0 _ => pure ()
              | _, .map (some r) =>
                let .map _ clock ← getObj r | stuck "clear: map expected"
                setObj r (.map #[] clock)
              | .slice elem, .slice (some a) n _ => storeCells a (Builtin.zeroCells (← zeroValue elem).cells n).toList
              | _, _ => stuck "clear: map or slice expected"
              pure (.tuple #[])) from rfl]
          obtain ⟨m, hm⟩ : ∃ m, xs.length = m + 1 := ⟨xs.length - 1, by omega⟩
          rw [hm] at hz hst ⊢; simp only [Sem.run_bind, run_underlying ht, Result.andThen_ok, run_zero he, hz, hst, Sem.run_pure]
        · simp only [ints_length, List.length_replicate, List.length_append, List.length_take, List.length_drop]; omega
        · simp only [ints_length, List.length_replicate, Nat.mul_one, List.take_zero, List.nil_append]; rw [List.take_append_of_le_length (by simp [ints])]; exact List.take_of_length_le (by simp [ints])
end
theorem ksub {K : Env} {t : Nat} {a b : Int} (h : K.lookup t = some (num a)) (e : a = b) : K.lookup t = some (num b) := e ▸ h
/-- A part beside another. -/
theorem Sat.getR {w0 w : World} {HS : List PH} (s : Sat w0 HS w) (i j : Nat) {h q : PH} (hi : HS[i]? = some h) (hj : HS[j]? = some q) (hne : decide (i ≠ j) = true) : PLe q (restP w h) := fun k o e => by
  have h1 := s.get j hj k o e
  rcases sepL_get s.sep hi hj (of_decide_eq_true hne) k with h2 | h2
  · simp only [restP, h2]; exact h1
  · rw [h2] at e; cases e
def bools (xs : List Bool) : List Value := xs.map Value.bool
def BoolsR (xs : List Bool) (v : Value) (h : PH) : Prop := RowR (bools xs) xs.length 1 v h
def BoolsO (xs : List Bool) (v : Value) (h : PH) : Prop := RowO 4 (bools xs) xs.length 1 v h
theorem BoolsR.mono {xs : List Bool} {v : Value} {h h' : PH} (r : BoolsR xs v h) (l : PLe h h') : BoolsR xs v h' := RowR.mono r l
theorem BoolsO.toR {xs : List Bool} {v : Value} {h : PH} (r : BoolsO xs v h) : BoolsR xs v h := RowO.toR r
theorem BoolsR.sl {xs : List Bool} {v : Value} {h : PH} (r : BoolsR xs v h) : SlL v xs.length := RowR.sl r
theorem BoolsR.le {xs : List Bool} {v : Value} {h : PH} (r : BoolsR xs v h) : (xs.length : Int) ≤ 9223372036854775807 := by
  obtain ⟨_, a, c, _, ⟨h, _⟩, _⟩ := r
  unfold maxLen at h
  omega
theorem BoolsO.nil : BoolsO [] (.slice none 0 0) emp := ⟨rfl, .inl ⟨rfl, rfl, rfl⟩⟩
section
variable {P : Program} {n : Nat} {w0 : World} {K : Env} {HS : List PH} {d : Option Tmp} {ty : TypeId} {ps : String} {af : Array Edge} {g : Option (Nat × Bool)}
theorem x_make0I {t : TypeId} {x y : Operand} {bytes : Nat} {m : Int} (ht : P.underlying t = some (.slice 3)) (he : TyF P 3 (num 0) 1 bytes false)
    (hx : ev K x = some (.int .i64 0)) (hy : ev K y = some (.int .i64 m)) (h0 : 0 ≤ m) (h1 : bytes * m ≤ 281474976710656) (h2 : m ≤ 9223372036854775807) :
    StepX P n w0 K HS ⟨d, .makeSlice t x y, ty, ps, af, g⟩ emp (IntsO []) :=
  x_make0 ht he (zs := [num 0]) rfl rfl hx hy h0 h1 h2
end
section
variable {P : Program} {n : Nat} {w0 : World} {K : Env} {HS : List PH} {Q : Exit → Act → World → Prop}
end
end Go.Proofs.YtmddmahaikineaaGreat
namespace Go.Proofs.YtmddmahaikineaaGreat
set_option maxRecDepth 100000
open Go.RowKit
section
variable {P : Program} {n : Nat} {w0 : World} {K : Env} {HS : List PH} {d : Option Tmp} {ty : TypeId} {ps : String} {af : Array Edge} {g : Option (Nat × Bool)}
theorem v_neqs {t t' : TypeId} {x y : Operand} {k : IntKind} {a : Int} (hx : ev K x = some (.int k a)) (hy : ev K y = some (.int k a)) : StepV P n w0 K HS ⟨d, .binOp .neq t x y t', ty, ps, af, g⟩ (.bool false) := by
  have := v_neq (P := P) (n := n) (w0 := w0) (HS := HS) (d := d) (t := t) (t' := t') (ty := ty) (ps := ps) (af := af) (g := g) hx hy
  simpa using this
theorem v_neqsb {t t' : TypeId} {x y : Operand} {a : Bool} (ht : P.underlying t = some .bool) (hx : ev K x = some (.bool a)) (hy : ev K y = some (.bool a)) : StepV P n w0 K HS ⟨d, .binOp .neq t x y t', ty, ps, af, g⟩ (.bool false) := by
  have := v_neqb (P := P) (n := n) (w0 := w0) (HS := HS) (d := d) (t := t) (t' := t') (ty := ty) (ps := ps) (af := af) (g := g) ht hx hy
  simpa using this
end
/-- A network that owns its parts, as a call returns it. -/
def NetT (k p n : Int) (ts : List Ten) (op : List Int) (u : Value) (h : PH) : Prop := ∃ vt vo, u = netV k p n vt vo ∧ NetO ts op vt vo h
theorem ct_L_toNetwork (k p n : Int) (ts : List Ten) (op : List Int) (vt vo : Value) (w : World) (r : TensR ts vt (hp w)) (r' : IntsR op vo (hp w)) (hs : ts.length + tensSize ts + op.length ≤ 1048576) :
    Calls Tryz.prog 13 [netV k p n vt vo].toArray w (Ret w emp (NetT k p n ts op)) := ct_l_toNetwork k p n ts op vt vo w r r' hs
/-- The marks of a network. -/
def NetM (vt vo : Value) (k e : Int) (u : Value) (h : PH) : Prop := u = num e ∧ ∃ ts op, NetO ts op vt vo h ∧ HeldL k (flat ts ++ [op]) e
theorem ct_L_markNetwork (kd p n : Int) (ts : List Ten) (op : List Int) (vt vo : Value) (k : Int) (w : World) (h : PH) (hle : PLe h (hp w)) (r : NetO ts op vt vo h) (hk : 0 ≤ k ∧ k + tensSize ts + op.length ≤ 4611686018427387904) :
    Calls Tryz.prog 16 [netV kd p n vt vo, num k].toArray w (Ret w h (NetM vt vo k (k + tensSize ts + op.length))) := ct_l_markNetwork kd p n ts op vt vo k w h hle r hk
def TriO (t : Ten) (a b c : Value) (h : PH) : Prop := ∃ h1 h2 h3, IntsO t.l a h1 ∧ IntsO t.d b h2 ∧ IntsO t.x c h3 ∧ Made h [h1, h2, h3]
theorem TriO.toR {t : Ten} {a b c : Value} {h : PH} (r : TriO t a b c h) : IntsR t.l a h ∧ IntsR t.d b h ∧ IntsR t.x c h := by
  obtain ⟨h1, h2, h3, r1, r2, r3, m⟩ := r; exact ⟨r1.toR.mono (m.le h1 (by simp)), r2.toR.mono (m.le h2 (by simp)), r3.toR.mono (m.le h3 (by simp))⟩
def TenT (t : Ten) (u : Value) (h : PH) : Prop := ∃ a b c, u = tenV a b c ∧ TriO t a b c h
def TenM (a b c : Value) (k e : Int) (u : Value) (h : PH) : Prop := u = num e ∧ ∃ t, TriO t a b c h ∧ HeldL k [t.l, t.d, t.x] e
end Go.Proofs.YtmddmahaikineaaGreat
namespace Go.Proofs.YtmddmahaikineaaGreat
set_option maxRecDepth 100000
open Go.RowKit
/-- An element of a ring. -/
def InR (k p n : Int) (xs : List Int) : Prop := xs.length = (widthI k n).toNat ∧ ∀ a ∈ xs, 0 ≤ a ∧ a ≤ topI k p n
theorem InR.at {k p n : Int} {xs : List Int} (h : InR k p n xs) (_ : ringL k p n) (i : Nat) (hi : i < xs.length) : 0 ≤ xs.getD i 0 ∧ xs.getD i 0 ≤ topI k p n := h.2 _ (mem_getD hi)
theorem InR.len {k p n : Int} {xs : List Int} (h : InR k p n xs) (hr : ringL k p n) : 1 ≤ xs.length ∧ xs.length ≤ 6 ∧ (xs.length : Int) = widthI k n := by
  have := width_range hr; have := h.1
  omega
theorem top_poly {k p n : Int} (h : ringL k p n) (hk : k = 2 ∨ k = 7 ∨ k = 8) : topI k p n = p - 1 ∧ 2 ≤ p ∧ p ≤ 1000003 := by
  have hp2 : ∀ {m : Int}, primeB m = true → 2 ≤ m ∧ m ≤ 1000003 := fun h => ⟨(primeB_iff.1 h).1, (primeB_iff.1 h).2.1⟩
  unfold ringL at h
  refine ⟨?_, ?_⟩
  · unfold topI
    rw [if_neg (by omega), if_neg (by omega), if_neg (by omega)]
  · rcases h with h | h | h | h | h | h
    · omega
    · exact hp2 h.2.1
    · omega
    · omega
    · exact hp2 h.2.1
    · exact hp2 h.2.1
theorem top_cap {k p n : Int} (h : ringL k p n) (hk : k = 3 ∨ k = 4 ∨ k = 5) : topI k p n = p ∧ 1 ≤ p ∧ p ≤ 1000000 := by
  unfold ringL at h
  refine ⟨?_, by omega⟩
  unfold topI
  rw [if_neg (by omega), if_pos (by omega)]
theorem kind_rest {k p n : Int} (h : ringL k p n) (h1 : k ≠ 1) (h2 : k ≠ 2) (h3 : k ≠ 3) (h4 : k ≠ 4) (h5 : k ≠ 5) (h6 : k ≠ 6) : k = 7 ∨ k = 8 := by
  unfold ringL at h; omega
theorem kind_rest' {k p n : Int} (h : ringL k p n) (h1 : k ≠ 1) (h3 : k ≠ 3) (h4 : k ≠ 4) (h5 : k ≠ 5) (h6 : k ≠ 6) : k = 2 ∨ k = 7 ∨ k = 8 := by
  unfold ringL at h; omega
theorem mul_in {a b t u : Int} (ha : 0 ≤ a ∧ a ≤ t) (hb : 0 ≤ b ∧ b ≤ u) : 0 ≤ a * b ∧ a * b ≤ t * u :=
  ⟨Int.mul_nonneg ha.1 hb.1, Int.mul_le_mul ha.2 hb.2 hb.1 (by omega)⟩
theorem mul_in6 {a b t u : Int} (ha : 0 ≤ a ∧ a ≤ t) (hb : 0 ≤ b ∧ b ≤ u) (ht : t ≤ 1048576) (hu : u ≤ 1048576) : 0 ≤ a * b ∧ a * b ≤ 1099511627776 := by
  have h := mul_in ha hb; have : t * u ≤ 1048576 * 1048576 := Int.mul_le_mul ht hu (by omega) (by omega)
  omega
theorem tmod_in {a p : Int} (ha : 0 ≤ a) (hp : 1 ≤ p) : 0 ≤ a.tmod p ∧ a.tmod p ≤ p - 1 := by
  rw [Int.tmod_eq_emod_of_nonneg ha]; have h1 := Int.emod_nonneg a (show p ≠ 0 by omega); have h2 := Int.emod_lt_of_pos a (show 0 < p by omega)
  omega
def mulStep (k p : Int) (x y out : List Int) (i j : Nat) : List Int :=
  if i + j < out.length then out.set (i + j) ((out.getD (i + j) 0 + x.getD i 0 * y.getD j 0).tmod p)
  else if k = 8 then out.set (i + j - 4) ((out.getD (i + j - 4) 0 + (p - x.getD i 0) * y.getD j 0).tmod p) else out
def mulRow (k p : Int) (x y : List Int) (i : Nat) (out : List Int) (m : Nat) : List Int := (List.range m).foldl (fun o j => mulStep k p x y o i j) out
def mulTo (k p : Int) (x y out : List Int) (m : Nat) : List Int := (List.range m).foldl (fun o i => mulRow k p x y i o y.length) out
theorem mulRow_step (k p : Int) (x y : List Int) (i : Nat) (out : List Int) (m : Nat) : mulRow k p x y i out (m + 1) = mulStep k p x y (mulRow k p x y i out m) i m := by simp [mulRow, List.range_succ]
theorem mulTo_step (k p : Int) (x y out : List Int) (m : Nat) : mulTo k p x y out (m + 1) = mulRow k p x y m (mulTo k p x y out m) y.length := by simp [mulTo, List.range_succ]
/-- Numbers below p, as many as the width says. -/
def PolyIn (k p n : Int) (xs : List Int) : Prop := xs.length = (widthI k n).toNat ∧ ∀ a ∈ xs, 0 ≤ a ∧ a ≤ p - 1
theorem PolyIn.set {k p n : Int} {xs : List Int} (h : PolyIn k p n xs) (i : Nat) {a : Int} (ha : 0 ≤ a ∧ a ≤ p - 1) : PolyIn k p n (xs.set i a) :=
  ⟨by rw [List.length_set]; exact h.1, fun b hb => by
    rcases List.mem_or_eq_of_mem_set hb with hb | rfl
    · exact h.2 b hb
    · exact ha⟩
theorem PolyIn.at {k p n : Int} {xs : List Int} (h : PolyIn k p n xs) (hp : 1 ≤ p) (i : Nat) : 0 ≤ xs.getD i 0 ∧ xs.getD i 0 ≤ p - 1 := by
  by_cases hi : i < xs.length
  · exact h.2 _ (mem_getD hi)
  · simp only [List.getD, List.getElem?_eq_none (Nat.le_of_not_lt hi)]
    show (0:Int) ≤ 0 ∧ (0:Int) ≤ p - 1
    omega
theorem InR.poly {k p n : Int} {xs : List Int} (h : InR k p n xs) (hr : ringL k p n) (hk : k = 2 ∨ k = 7 ∨ k = 8) : PolyIn k p n xs := by
  have := (top_poly hr hk).1; refine ⟨h.1, fun a ha => ?_⟩; rw [← this]; exact h.2 a ha
theorem PolyIn.inR {k p n : Int} {xs : List Int} (h : PolyIn k p n xs) (hr : ringL k p n) (hk : k = 2 ∨ k = 7 ∨ k = 8) : InR k p n xs := by
  have := (top_poly hr hk).1; refine ⟨h.1, fun a ha => ?_⟩; rw [this]; exact h.2 a ha
theorem poly_zero {k p n : Int} (hp : 1 ≤ p) (m : Nat) (hm : m = (widthI k n).toNat) : PolyIn k p n (List.replicate m 0) := by
  subst hm; refine ⟨by simp, fun a ha => ?_⟩; have := List.eq_of_mem_replicate ha
  omega
theorem mulStep_in {k p n : Int} {x y out : List Int} {i j : Nat} (hp : 1 ≤ p) (hx : PolyIn k p n x) (hy : PolyIn k p n y) (ho : PolyIn k p n out) : PolyIn k p n (mulStep k p x y out i j) := by
  have hxi := hx.at hp i; have hyj := hy.at hp j
  unfold mulStep
  split
  · refine ho.set _ (tmod_in ?_ hp); have := (mul_in hxi hyj).1; have := (ho.at hp (i + j)).1
    omega
  · split
    · refine ho.set _ (tmod_in ?_ hp); have := (mul_in (a := p - x.getD i 0) (t := p) ⟨by omega, by omega⟩ hyj).1; have := (ho.at hp (i + j - 4)).1
      omega
    · exact ho
theorem mulRow_in {k p n : Int} {x y out : List Int} {i : Nat} (hp : 1 ≤ p) (hx : PolyIn k p n x) (hy : PolyIn k p n y) (ho : PolyIn k p n out) : ∀ m, PolyIn k p n (mulRow k p x y i out m)
  | 0 => by simpa [mulRow] using ho
  | m + 1 => by rw [mulRow_step]; exact mulStep_in hp hx hy (mulRow_in hp hx hy ho m)
theorem mulTo_in {k p n : Int} {x y out : List Int} (hp : 1 ≤ p) (hx : PolyIn k p n x) (hy : PolyIn k p n y) (ho : PolyIn k p n out) : ∀ m, PolyIn k p n (mulTo k p x y out m)
  | 0 => by simpa [mulTo] using ho
  | m + 1 => by rw [mulTo_step]; exact mulRow_in hp hx hy (mulTo_in hp hx hy ho m) _
open Classical in
noncomputable def mulL (k p n : Int) (x y : List Int) : List Int :=
  if k = 1 ∨ k = 5 then [min (x.getD 0 0) (y.getD 0 0)]
  else if k = 2 then [(x.getD 0 0 * y.getD 0 0).tmod p]
  else if k = 3 then [min (x.getD 0 0 * y.getD 0 0) p]
  else if k = 4 then [min (x.getD 0 0 + y.getD 0 0) p]
  else if k = 6 then [(((x.getD 0 0).toNat &&& (y.getD 0 0).toNat : Nat) : Int)]
  else mulTo k p x y (List.replicate (widthI k n).toNat 0) x.length
theorem one_R {k p n a : Int} (h7 : k ≠ 7) (h8 : k ≠ 8) (h : 0 ≤ a ∧ a ≤ topI k p n) : InR k p n [a] := ⟨by rw [width_1 h7 h8]; rfl, fun b hb => by simp at hb; subst hb; exact h⟩
theorem and_le (a b : Int) (ha : 0 ≤ a) : 0 ≤ ((a.toNat &&& b.toNat : Nat) : Int) ∧ ((a.toNat &&& b.toNat : Nat) : Int) ≤ a := by
  have : a.toNat &&& b.toNat ≤ a.toNat := Nat.and_le_left
  omega
theorem mulL_in {k p n : Int} {x y : List Int} (hr : ringL k p n) (hx : InR k p n x) (hy : InR k p n y) : InR k p n (mulL k p n x y) := by
  have h1 := hx.len hr; have h2 := hy.len hr; have hx0 := hx.at hr 0 (by omega); have hy0 := hy.at hr 0 (by omega); have hw := width_range hr; have hm := (mul_in hx0 hy0).1
  unfold mulL
  split
  · exact one_R (by omega) (by omega) (by omega)
  · split
    · have ht := top_poly hr (by omega); refine one_R (by omega) (by omega) ?_; have := tmod_in hm (show 1 ≤ p by omega)
      omega
    · split
      · have ht := top_cap hr (by omega); exact one_R (by omega) (by omega) (by omega)
      · split
        · have ht := top_cap hr (by omega); exact one_R (by omega) (by omega) (by omega)
        · split
          · have := and_le (x.getD 0 0) (y.getD 0 0) hx0.1; exact one_R (by omega) (by omega) (by omega)
          · have hk := kind_rest hr (by omega) (by omega) (by omega) (by omega) (by omega) (by omega); have ht := top_poly hr (by omega); exact (mulTo_in (by omega) (hx.poly hr (by omega)) (hy.poly hr (by omega)) (poly_zero (by omega) _ rfl) _).inR hr (by omega)
theorem and_bool {a b : Int} (ha : 0 ≤ a ∧ a ≤ 1) (hb : 0 ≤ b ∧ b ≤ 1) : ((a.toNat &&& b.toNat : Nat) : Int) = min a b := by
  have e1 : a = 0 ∨ a = 1 := by omega
  have e2 : b = 0 ∨ b = 1 := by omega
  rcases e1 with rfl | rfl <;> rcases e2 with rfl | rfl <;> decide
theorem rep_set1 {m : Nat} (hm : m = 1) (a : Int) : (List.replicate m (0 : Int)).set 0 a = [a] := by subst hm; rfl
theorem top_1 {k p n : Int} (h : k = 1) : topI k p n = 1 := by simp [topI, h]
theorem fin1 {k p n a : Int} {x y : List Int} {v : Value} {h : PH} {m : Nat} (q : IntsO ((List.replicate m 0).set 0 a) v h) (hm : m = 1) (e : mulL k p n x y = [a]) : IntsO (mulL k p n x y) v h := by
  rw [e]; rwa [rep_set1 hm] at q
theorem mulL_poly {k p n : Int} {x y : List Int} (hk : k = 7 ∨ k = 8) : mulL k p n x y = mulTo k p x y (List.replicate (widthI k n).toNat 0) x.length := by
  unfold mulL
  rw [if_neg (by omega), if_neg (by omega), if_neg (by omega), if_neg (by omega), if_neg (by omega)]
set_option maxHeartbeats 1000000 in
theorem ct_s_l02Mul (k p n : Int) (x y : List Int) (v u : Value) (w : World) (h : ringL k p n) (r : IntsR x v (hp w)) (r' : IntsR y u (hp w)) (hx : InR k p n x) (hy : InR k p n y) :
    Calls Tryz.prog 180 [ringV k p n, v, u].toArray w (Ret w emp (IntsO (mulL k p n x y))) := by
  have h1 := hx.len h; have h2 := hy.len h; have hx0 := hx.at h 0 (by omega); have hy0 := hy.at h 0 (by omega); have hw := width_range h; have htr := top_range h; have hrp := ring_p h; have hm := mul_in6 hx0 hy0 htr.2 htr.2; refine calls_in Tryz.func180 rfl Tryz.ntmps180 rfl (Sat.start w) ?_; have hle0 := r.le; have hle1 := r'.le; refine wp_sc (wp_sq ?_); refine sq_x rfl (x_box rfl rfl) rfl ?_; rintro _ _ ⟨b3, rfl, rfl⟩; refine sq_v rfl (v_assign rfl) rfl (sq_end (qs_n (wp_sc (wp_sq (sq_v rfl (v_move rfl) rfl (sq_v rfl (v_len Tryz.underlying25 rfl r.sl) rfl ?_)))))); refine sq_x rfl (x_makeI Tryz.underlying25 ty_3 rfl rfl (by omega) (by omega) (by omega)) rfl ?_; intro v14 h14 r14; refine sq_v rfl (v_assign rfl) rfl (sq_end (qs_n (wp_sc (wp_sc (wp_sq (sq_v rfl (v_fieldAddr fd_29_0 ty_3 (by decide) rfl) rfl (sq_v rfl (v_loadB 1 ty_3 rfl rfl rfl) rfl (sq_end (qs_n (wp_bl (wp_sc (wp_sc (wp_sq (sq_v rfl (v_eql rfl rfl) rfl (sq_v rfl (v_assign rfl) rfl (sq_end (qs_n ?_))))))))))))))))); refine wp_cSd rfl (fun c85 => ?_) (fun c85 => ?_)
  · refine wp_sk (qs_n (wp_ct rfl (wp_rj 9 [(0, true), (1, true), (2, true), (3, true), (4, true), (5, true), (6, true), (7, true), (8, true), (9, false)] mixed_ok (by kernel_rfl) (rj_v rfl rfl (v_move rfl) rfl (rj_v rfl rfl (v_move rfl) rfl (rj_v rfl rfl (v_idxI Tryz.underlying25 ty_3 rfl rfl r (by omega) (by omega)) rfl (rj_v rfl rfl (v_loadI (k := 0) 2 ty_3 rfl rfl r (by omega)) rfl (rj_v rfl rfl (v_move rfl) rfl (rj_v rfl rfl (v_idxI Tryz.underlying25 ty_3 rfl rfl r' (by omega) (by omega)) rfl (rj_v rfl rfl (v_loadI (k := 0) 2 ty_3 rfl rfl r' (by omega)) rfl (rj_v rfl rfl (v_and rfl rfl ⟨by omega, by omega⟩ ⟨by omega, by omega⟩) rfl ?_))))))))))); refine rj_v rfl rfl (v_idxI Tryz.underlying25 ty_3 rfl rfl r14.toR (by omega) (by first | omega | (simp; omega) | (simp only [List.length_append, List.length_cons, List.length_nil]; omega) | (rw [List.length_set]; omega))) rfl ?_; refine rj_m 0 rfl rfl rfl rfl (m_storeI (k := 0) 0 ty_3 rfl rfl rfl r14 (by first | omega | (simp; omega) | (simp only [List.length_append, List.length_cons, List.length_nil]; omega) | (rw [List.length_set]; omega))) rfl ?_; rintro _ h_q17_9 ⟨rfl, q17_9⟩; refine rj_end (qs_bn (qs_n (wp_sc (wp_sq (sq_v rfl (v_move rfl) rfl (sq_v rfl (v_assign rfl) rfl (sq_end (qs_n (wp_rt ?_))))))))); exact qs_ret1 rfl rfl (fin_t 0 (i := 2) rfl rfl rfl (fin1 q17_9 (by have := width_1 (k := k) (n := n) (by omega) (by omega); omega) (by have := top_1 (p := p) (n := n) c85; rw [and_bool (by omega) (by omega)]; simp [mulL, c85])))
  · refine wp_sq (sq_v rfl (v_eql rfl rfl) rfl (sq_v rfl (v_assign rfl) rfl (sq_end (qs_n ?_)))); refine wp_cSd rfl (fun c85 => ?_) (fun c85 => ?_)
    · refine wp_rj 9 [(0, true), (1, true), (2, true), (3, true), (4, true), (5, true), (6, true), (7, true), (8, true), (9, false)] mixed_ok (by kernel_rfl) (rj_v rfl rfl (v_move rfl) rfl (rj_v rfl rfl (v_move rfl) rfl (rj_v rfl rfl (v_idxI Tryz.underlying25 ty_3 rfl rfl r (by omega) (by omega)) rfl (rj_v rfl rfl (v_loadI (k := 0) 2 ty_3 rfl rfl r (by omega)) rfl (rj_v rfl rfl (v_move rfl) rfl (rj_v rfl rfl (v_idxI Tryz.underlying25 ty_3 rfl rfl r' (by omega) (by omega)) rfl (rj_v rfl rfl (v_loadI (k := 0) 2 ty_3 rfl rfl r' (by omega)) rfl (rj_v rfl rfl (v_and rfl rfl ⟨by omega, by omega⟩ ⟨by omega, by omega⟩) rfl ?_)))))))); refine rj_v rfl rfl (v_idxI Tryz.underlying25 ty_3 rfl rfl r14.toR (by omega) (by first | omega | (simp; omega) | (simp only [List.length_append, List.length_cons, List.length_nil]; omega) | (rw [List.length_set]; omega))) rfl ?_; refine rj_m 0 rfl rfl rfl rfl (m_storeI (k := 0) 0 ty_3 rfl rfl rfl r14 (by first | omega | (simp; omega) | (simp only [List.length_append, List.length_cons, List.length_nil]; omega) | (rw [List.length_set]; omega))) rfl ?_; rintro _ h_q17_9 ⟨rfl, q17_9⟩; refine rj_end (qs_bn (qs_n (wp_sc (wp_sq (sq_v rfl (v_move rfl) rfl (sq_v rfl (v_assign rfl) rfl (sq_end (qs_n (wp_rt ?_))))))))); exact qs_ret1 rfl rfl (fin_t 0 (i := 2) rfl rfl rfl (fin1 q17_9 (by have := width_1 (k := k) (n := n) (by omega) (by omega); omega) (by simp [mulL, c85])))
    · refine wp_sc (wp_sq (sq_v rfl (v_eql rfl rfl) rfl (sq_v rfl (v_assign rfl) rfl (sq_end (qs_n ?_))))); refine wp_cd rfl (fun c97 => ?_) (fun c97 => ?_)
      · refine wp_rj 12 [(0, true), (1, true), (2, true), (3, true), (4, true), (5, true), (6, true), (7, true), (8, true), (9, true), (10, true), (11, true), (12, false)] mixed_ok (by kernel_rfl) (rj_v rfl rfl (v_move rfl) rfl (rj_v rfl rfl (v_move rfl) rfl (rj_v rfl rfl (v_idxI Tryz.underlying25 ty_3 rfl rfl r (by omega) (by omega)) rfl (rj_v rfl rfl (v_loadI (k := 0) 2 ty_3 rfl rfl r (by omega)) rfl (rj_v rfl rfl (v_move rfl) rfl (rj_v rfl rfl (v_idxI Tryz.underlying25 ty_3 rfl rfl r' (by omega) (by omega)) rfl (rj_v rfl rfl (v_loadI (k := 0) 2 ty_3 rfl rfl r' (by omega)) rfl ?_))))))); refine rj_v rfl rfl (v_mul rfl rfl ((by unfold I64; omega))) rfl ?_; refine rj_v rfl rfl (v_fieldAddr fd_29_1 ty_3 (by decide) rfl) rfl (rj_v rfl rfl (v_loadB 1 ty_3 rfl rfl rfl) rfl ?_); refine rj_v rfl rfl (v_rem rfl rfl (by have := top_poly h (.inl c97); omega)) rfl ?_; refine rj_v rfl rfl (v_idxI Tryz.underlying25 ty_3 rfl rfl r14.toR (by omega) (by first | omega | (simp; omega) | (simp only [List.length_append, List.length_cons, List.length_nil]; omega) | (rw [List.length_set]; omega))) rfl ?_; refine rj_m 0 rfl rfl rfl rfl (m_storeI (k := 0) 0 ty_3 rfl rfl rfl r14 (by first | omega | (simp; omega) | (simp only [List.length_append, List.length_cons, List.length_nil]; omega) | (rw [List.length_set]; omega))) rfl ?_; rintro _ h_q19_12 ⟨rfl, q19_12⟩; refine rj_end (qs_bn (qs_n (wp_sc (wp_sq (sq_v rfl (v_move rfl) rfl (sq_v rfl (v_assign rfl) rfl (sq_end (qs_n (wp_rt ?_))))))))); exact qs_ret1 rfl rfl (fin_t 0 (i := 2) rfl rfl rfl (fin1 q19_12 (by have := width_1 (k := k) (n := n) (by omega) (by omega); omega) (by simp [mulL, c97])))
      · refine wp_sc (wp_sq (sq_v rfl (v_eql rfl rfl) rfl (sq_v rfl (v_assign rfl) rfl (sq_end (qs_n ?_))))); refine wp_cd rfl (fun c111 => ?_) (fun c111 => ?_)
        · refine wp_rj 12 [(0, true), (1, true), (2, true), (3, true), (4, true), (5, true), (6, true), (7, true), (8, true), (9, true), (10, true), (11, true), (12, false)] mixed_ok (by kernel_rfl) (rj_v rfl rfl (v_move rfl) rfl (rj_v rfl rfl (v_move rfl) rfl (rj_v rfl rfl (v_idxI Tryz.underlying25 ty_3 rfl rfl r (by omega) (by omega)) rfl (rj_v rfl rfl (v_loadI (k := 0) 2 ty_3 rfl rfl r (by omega)) rfl (rj_v rfl rfl (v_move rfl) rfl (rj_v rfl rfl (v_idxI Tryz.underlying25 ty_3 rfl rfl r' (by omega) (by omega)) rfl (rj_v rfl rfl (v_loadI (k := 0) 2 ty_3 rfl rfl r' (by omega)) rfl ?_))))))); refine rj_v rfl rfl (v_mul rfl rfl ((by unfold I64; omega))) rfl ?_; refine rj_v rfl rfl (v_fieldAddr fd_29_1 ty_3 (by decide) rfl) rfl (rj_v rfl rfl (v_loadB 1 ty_3 rfl rfl rfl) rfl (rj_v rfl rfl (v_min rfl rfl) rfl ?_)); refine rj_v rfl rfl (v_idxI Tryz.underlying25 ty_3 rfl rfl r14.toR (by omega) (by first | omega | (simp; omega) | (simp only [List.length_append, List.length_cons, List.length_nil]; omega) | (rw [List.length_set]; omega))) rfl ?_; refine rj_m 0 rfl rfl rfl rfl (m_storeI (k := 0) 0 ty_3 rfl rfl rfl r14 (by first | omega | (simp; omega) | (simp only [List.length_append, List.length_cons, List.length_nil]; omega) | (rw [List.length_set]; omega))) rfl ?_; rintro _ h_q21_12 ⟨rfl, q21_12⟩; refine rj_end (qs_bn (qs_n (wp_sc (wp_sq (sq_v rfl (v_move rfl) rfl (sq_v rfl (v_assign rfl) rfl (sq_end (qs_n (wp_rt ?_))))))))); exact qs_ret1 rfl rfl (fin_t 0 (i := 2) rfl rfl rfl (fin1 q21_12 (by have := width_1 (k := k) (n := n) (by omega) (by omega); omega) (by simp [mulL, c111])))
        · refine wp_sc (wp_sq (sq_v rfl (v_eql rfl rfl) rfl (sq_v rfl (v_assign rfl) rfl (sq_end (qs_n ?_))))); refine wp_cd rfl (fun c125 => ?_) (fun c125 => ?_)
          · refine wp_rj 12 [(0, true), (1, true), (2, true), (3, true), (4, true), (5, true), (6, true), (7, true), (8, true), (9, true), (10, true), (11, true), (12, false)] mixed_ok (by kernel_rfl) (rj_v rfl rfl (v_move rfl) rfl (rj_v rfl rfl (v_move rfl) rfl (rj_v rfl rfl (v_idxI Tryz.underlying25 ty_3 rfl rfl r (by omega) (by omega)) rfl (rj_v rfl rfl (v_loadI (k := 0) 2 ty_3 rfl rfl r (by omega)) rfl (rj_v rfl rfl (v_move rfl) rfl (rj_v rfl rfl (v_idxI Tryz.underlying25 ty_3 rfl rfl r' (by omega) (by omega)) rfl (rj_v rfl rfl (v_loadI (k := 0) 2 ty_3 rfl rfl r' (by omega)) rfl ?_))))))); refine rj_v rfl rfl (v_add rfl rfl ((by unfold I64; omega))) rfl ?_; refine rj_v rfl rfl (v_fieldAddr fd_29_1 ty_3 (by decide) rfl) rfl (rj_v rfl rfl (v_loadB 1 ty_3 rfl rfl rfl) rfl (rj_v rfl rfl (v_min rfl rfl) rfl ?_)); refine rj_v rfl rfl (v_idxI Tryz.underlying25 ty_3 rfl rfl r14.toR (by omega) (by first | omega | (simp; omega) | (simp only [List.length_append, List.length_cons, List.length_nil]; omega) | (rw [List.length_set]; omega))) rfl ?_; refine rj_m 0 rfl rfl rfl rfl (m_storeI (k := 0) 0 ty_3 rfl rfl rfl r14 (by first | omega | (simp; omega) | (simp only [List.length_append, List.length_cons, List.length_nil]; omega) | (rw [List.length_set]; omega))) rfl ?_; rintro _ h_q23_12 ⟨rfl, q23_12⟩; refine rj_end (qs_bn (qs_n (wp_sc (wp_sq (sq_v rfl (v_move rfl) rfl (sq_v rfl (v_assign rfl) rfl (sq_end (qs_n (wp_rt ?_))))))))); exact qs_ret1 rfl rfl (fin_t 0 (i := 2) rfl rfl rfl (fin1 q23_12 (by have := width_1 (k := k) (n := n) (by omega) (by omega); omega) (by simp [mulL, c125])))
          · refine wp_sc (wp_sq (sq_v rfl (v_eql rfl rfl) rfl (sq_v rfl (v_assign rfl) rfl (sq_end (qs_n ?_))))); refine wp_cd rfl (fun c139 => ?_) (fun c139 => ?_)
            · refine wp_rj 9 [(0, true), (1, true), (2, true), (3, true), (4, true), (5, true), (6, true), (7, true), (8, true), (9, false)] mixed_ok (by kernel_rfl) (rj_v rfl rfl (v_move rfl) rfl (rj_v rfl rfl (v_move rfl) rfl (rj_v rfl rfl (v_idxI Tryz.underlying25 ty_3 rfl rfl r (by omega) (by omega)) rfl (rj_v rfl rfl (v_loadI (k := 0) 2 ty_3 rfl rfl r (by omega)) rfl (rj_v rfl rfl (v_move rfl) rfl (rj_v rfl rfl (v_idxI Tryz.underlying25 ty_3 rfl rfl r' (by omega) (by omega)) rfl (rj_v rfl rfl (v_loadI (k := 0) 2 ty_3 rfl rfl r' (by omega)) rfl (rj_v rfl rfl (v_min rfl rfl) rfl ?_)))))))); refine rj_v rfl rfl (v_idxI Tryz.underlying25 ty_3 rfl rfl r14.toR (by omega) (by first | omega | (simp; omega) | (simp only [List.length_append, List.length_cons, List.length_nil]; omega) | (rw [List.length_set]; omega))) rfl ?_; refine rj_m 0 rfl rfl rfl rfl (m_storeI (k := 0) 0 ty_3 rfl rfl rfl r14 (by first | omega | (simp; omega) | (simp only [List.length_append, List.length_cons, List.length_nil]; omega) | (rw [List.length_set]; omega))) rfl ?_; rintro _ h_q25_9 ⟨rfl, q25_9⟩; refine rj_end (qs_bn (qs_n (wp_sc (wp_sq (sq_v rfl (v_move rfl) rfl (sq_v rfl (v_assign rfl) rfl (sq_end (qs_n (wp_rt ?_))))))))); exact qs_ret1 rfl rfl (fin_t 0 (i := 2) rfl rfl rfl (fin1 q25_9 (by have := width_1 (k := k) (n := n) (by omega) (by omega); omega) (by simp [mulL, c139])))
            · refine wp_sc (wp_sq (sq_v rfl (v_move rfl) rfl (sq_v rfl (v_len Tryz.underlying25 rfl r.sl) rfl (sq_v rfl (v_move rfl) rfl (sq_end ?_))))); have hk := kind_rest h (by omega) (by omega) (by omega) (by omega) (by omega) (by omega); have ht := top_poly h (by omega); have px := hx.poly h (by omega); have py := hy.poly h (by omega); have pz := poly_zero (k := k) (n := n) (p := p) (by omega) _ rfl; have ez : (x.length : Int).toNat = (widthI k n).toNat := by omega
              refine qs_n (wp_bl ?_); refine wp_lp (σ := Nat × PH) (fun z_ => [(2, u), (3, .pointer (some ⟨b3, 0, none⟩)), (6, .slice none 0 0), (7, v14), (17, v), (18, num x.length), (19, num z_.1)]) (fun z_ => [z_.2, box b3 [num k, num p, num n] 29, hp w]) (fun z_ => z_.1 ≤ x.length ∧ IntsO (mulTo k p x y (List.replicate (widthI k n).toNat 0) z_.1) v14 z_.2) (fun z_ => x.length - z_.1) (0, h14) (⟨by (try dsimp only); omega, by (try dsimp only); rw [ez] at r14; simpa [mulTo] using r14⟩) ⟨rfl, rfl, rfl, rfl, rfl, rfl, rfl, trivial⟩ (fun _ s => s) ?_; rintro ⟨i, g⟩ ⟨hi, q⟩; dsimp only at hi q ⊢; have hle_q := q.toR.le; have po := mulTo_in (by omega) px py pz i; refine wp_sc (wp_sq (sq_v rfl (v_lss rfl rfl) rfl (sq_end (qs_n (wp_sc ?_))))); refine wp_cd rfl (fun c20 => ?_) (fun c20 => ?_)
              · refine wp_sk (qs_n (wp_sc (wp_bl (wp_sc (wp_sq (sq_v rfl (v_move rfl) rfl (sq_v rfl (v_idxI Tryz.underlying25 ty_3 rfl rfl r (by omega) (by omega)) rfl (sq_v rfl (v_loadI (k := i) 2 ty_3 rfl rfl r (by omega)) rfl (sq_v rfl (v_assign rfl) rfl (sq_v rfl (v_assign rfl) rfl (sq_end (qs_n (wp_sc (wp_sq (sq_v rfl (v_move rfl) rfl (sq_v rfl (v_len Tryz.underlying25 rfl r'.sl) rfl (sq_v rfl (v_move rfl) rfl (sq_end (qs_n (wp_bl ?_)))))))))))))))))))); refine wp_lp (σ := Nat × PH) (fun z_ => [(2, u), (3, .pointer (some ⟨b3, 0, none⟩)), (6, .slice none 0 0), (7, v14), (8, num i), (9, num (x.getD i 0)), (17, v), (18, num x.length), (19, num i), (20, .bool (decide ((i : Int) < x.length))), (21, num i), (23, num (x.getD i 0)), (24, u), (25, num y.length), (26, num z_.1)]) (fun z_ => [z_.2, box b3 [num k, num p, num n] 29, hp w]) (fun z_ => z_.1 ≤ y.length ∧ IntsO (mulRow k p x y i (mulTo k p x y (List.replicate (widthI k n).toNat 0) i) z_.1) v14 z_.2) (fun z_ => y.length - z_.1) (0, g) (⟨by (try dsimp only); omega, by (try dsimp only); simpa [mulRow] using q⟩) ⟨rfl, rfl, rfl, rfl, rfl, rfl, rfl, rfl, rfl, rfl, rfl, rfl, rfl, rfl, rfl, trivial⟩ (fun _ s => s) ?_; rintro ⟨j, g⟩ ⟨hj, q⟩; dsimp only at hj q ⊢; have hle_q := q.toR.le; have pr := mulRow_in (by omega) px py po (i := i) j; have pl := pr.1; have hxi := px.at (by omega) i; have hyj := py.at (by omega) j; have hm2 := mul_in6 hxi hyj (by omega) (by omega); have hm3 := mul_in6 (a := p - x.getD i 0) (t := p) ⟨by omega, by omega⟩ hyj (by omega) (by omega); have hoij := pr.at (by omega) (i + j); have hoij4 := pr.at (by omega) ((i : Int) + j - 4).toNat; have hw7 : k = 8 → widthI k n = 4 := fun e => by simp [widthI, e]
                refine wp_sc (wp_sq (sq_v rfl (v_lss rfl rfl) rfl (sq_end (qs_n (wp_sc ?_))))); refine wp_cd rfl (fun c27 => ?_) (fun c27 => ?_)
                · refine wp_sk (qs_n (wp_sc (wp_bl (wp_sc (wp_sq (sq_v rfl (v_move rfl) rfl (sq_v rfl (v_idxI Tryz.underlying25 ty_3 rfl rfl r' (by omega) (by omega)) rfl (sq_v rfl (v_loadI (k := j) 2 ty_3 rfl rfl r' (by omega)) rfl (sq_v rfl (v_assign rfl) rfl (sq_v rfl (v_assign rfl) rfl (sq_end (qs_n (wp_bl (wp_sc (wp_sq (sq_v rfl (v_move rfl) rfl (sq_v rfl (v_move rfl) rfl ?_))))))))))))))))); refine sq_v rfl (v_add rfl rfl ((by unfold I64; omega))) rfl ?_; refine sq_v rfl (v_move rfl) rfl (sq_v rfl (v_len Tryz.underlying25 rfl q.toR.sl) rfl (sq_v rfl (v_lss rfl rfl) rfl (sq_v rfl (v_assign rfl) rfl (sq_end (qs_n ?_))))); refine wp_cd rfl (fun c31 => ?_) (fun c31 => ?_)
                  · refine wp_rj 18 [(0, true), (1, true), (2, true), (3, true), (4, true), (5, true), (6, true), (7, true), (8, true), (9, true), (10, true), (11, true), (12, true), (13, true), (14, true), (15, true), (16, true), (17, true), (18, false)] mixed_ok (by kernel_rfl) (rj_v rfl rfl (v_move rfl) rfl (rj_v rfl rfl (v_move rfl) rfl (rj_v rfl rfl (v_move rfl) rfl ?_))); refine rj_v rfl rfl (v_add rfl rfl ((by unfold I64; omega))) rfl ?_; refine rj_v rfl rfl (v_move rfl) rfl (rj_v rfl rfl (v_move rfl) rfl (rj_v rfl rfl (v_move rfl) rfl ?_)); refine rj_v rfl rfl (v_add rfl rfl ((by unfold I64; omega))) rfl ?_; refine rj_v rfl rfl (v_idxI Tryz.underlying25 ty_3 rfl rfl q.toR (by omega) (by omega)) rfl (rj_v rfl rfl (v_loadI (k := (i+j)) 0 ty_3 rfl rfl q.toR (by omega)) rfl (rj_v rfl rfl (v_move rfl) rfl (rj_v rfl rfl (v_move rfl) rfl ?_))); refine rj_v rfl rfl (v_mul rfl rfl ((by unfold I64; omega))) rfl ?_; refine rj_v rfl rfl (v_add rfl rfl ((by unfold I64; omega))) rfl ?_; refine rj_v rfl rfl (v_fieldAddr fd_29_1 ty_3 (by decide) rfl) rfl (rj_v rfl rfl (v_loadB 1 ty_3 rfl rfl rfl) rfl (rj_v rfl rfl (v_rem rfl rfl (by omega)) rfl (rj_v rfl rfl (v_idxI Tryz.underlying25 ty_3 rfl rfl q.toR (by omega) (by omega)) rfl ?_))); refine rj_m 0 rfl rfl rfl rfl (m_storeI (k := (i + j)) 0 ty_3 rfl rfl rfl q (by omega)) rfl ?_; rintro _ h_q10_18 ⟨rfl, q10_18⟩; refine rj_end (qs_bn (qs_bn (qs_n (wp_sq ?_)))); refine sq_v rfl (v_add rfl rfl ((by unfold I64; omega))) rfl ?_; refine sq_v rfl (v_move rfl) rfl (sq_end ?_); exact qs_bk (j + 1, h_q10_18) ⟨by (try dsimp only); omega, by (try dsimp only); rw [mulRow_step, mulStep, if_pos (by omega)]; exact q10_18⟩ (by simp only; omega) ⟨rfl, rfl, rfl, rfl, rfl, rfl, rfl, rfl, rfl, rfl, rfl, rfl, rfl, rfl, rfl, trivial⟩ (fun _ s => s)
                  · refine wp_sc (wp_sq (sq_v rfl (v_fieldAddr fd_29_0 ty_3 (by decide) rfl) rfl (sq_v rfl (v_loadB 1 ty_3 rfl rfl rfl) rfl (sq_v rfl (v_eql rfl rfl) rfl (sq_v rfl (v_assign rfl) rfl (sq_end (qs_n ?_))))))); refine wp_cd rfl (fun c56 => ?_) (fun c56 => ?_)
                    · refine wp_rj 23 [(0, true), (1, true), (2, true), (3, true), (4, true), (5, true), (6, true), (7, true), (8, true), (9, true), (10, true), (11, true), (12, true), (13, true), (14, true), (15, true), (16, true), (17, true), (18, true), (19, true), (20, true), (21, true), (22, true), (23, false)] mixed_ok (by kernel_rfl) (rj_v rfl rfl (v_move rfl) rfl (rj_v rfl rfl (v_move rfl) rfl (rj_v rfl rfl (v_move rfl) rfl ?_))); refine rj_v rfl rfl (v_add rfl rfl ((by unfold I64; omega))) rfl ?_; refine rj_v rfl rfl (v_sub rfl rfl ((by unfold I64; omega))) rfl ?_; refine rj_v rfl rfl (v_move rfl) rfl (rj_v rfl rfl (v_move rfl) rfl (rj_v rfl rfl (v_move rfl) rfl ?_)); refine rj_v rfl rfl (v_add rfl rfl ((by unfold I64; omega))) rfl ?_; refine rj_v rfl rfl (v_sub rfl rfl ((by unfold I64; omega))) rfl ?_; refine rj_v rfl rfl (v_idxI Tryz.underlying25 ty_3 rfl rfl q.toR (by omega) (by omega)) rfl (rj_v rfl rfl (v_loadI  0 ty_3 rfl rfl q.toR (by omega)) rfl (rj_v rfl rfl (v_fieldAddr fd_29_1 ty_3 (by decide) rfl) rfl (rj_v rfl rfl (v_loadB 1 ty_3 rfl rfl rfl) rfl (rj_v rfl rfl (v_move rfl) rfl ?_)))); refine rj_v rfl rfl (v_sub rfl rfl ((by unfold I64; omega))) rfl ?_; refine rj_v rfl rfl (v_move rfl) rfl ?_; refine rj_v rfl rfl (v_mul rfl rfl ((by unfold I64; omega))) rfl ?_; refine rj_v rfl rfl (v_add rfl rfl ((by unfold I64; omega))) rfl ?_; refine rj_v rfl rfl (v_fieldAddr fd_29_1 ty_3 (by decide) rfl) rfl (rj_v rfl rfl (v_loadB 1 ty_3 rfl rfl rfl) rfl (rj_v rfl rfl (v_rem rfl rfl (by omega)) rfl (rj_v rfl rfl (v_idxI Tryz.underlying25 ty_3 rfl rfl q.toR (by omega) (by omega)) rfl ?_))); refine rj_m 0 rfl rfl rfl rfl (m_storeI 0 ty_3 rfl rfl rfl q (by omega)) rfl ?_; rintro _ h_q12_23 ⟨rfl, q12_23⟩; refine rj_end (qs_bn (qs_bn (qs_n (wp_sq ?_)))); refine sq_v rfl (v_add rfl rfl ((by unfold I64; omega))) rfl ?_; refine sq_v rfl (v_move rfl) rfl (sq_end ?_); exact qs_bk (j + 1, h_q12_23) ⟨by (try dsimp only); omega, by (try dsimp only); rw [mulRow_step, mulStep, if_neg (by omega), if_pos c56]; rw [show ((i : Int) + j - 4).toNat = i + j - 4 by omega] at q12_23; exact q12_23⟩ (by simp only; omega) ⟨rfl, rfl, rfl, rfl, rfl, rfl, rfl, rfl, rfl, rfl, rfl, rfl, rfl, rfl, rfl, trivial⟩ (fun _ s => s)
                    · refine wp_sk (qs_bn (qs_bn (qs_n (wp_sq ?_)))); refine sq_v rfl (v_add rfl rfl ((by unfold I64; omega))) rfl ?_; refine sq_v rfl (v_move rfl) rfl (sq_end ?_); exact qs_bk (j + 1, g) ⟨by (try dsimp only); omega, by (try dsimp only); rw [mulRow_step, mulStep, if_neg (by omega), if_neg c56]; exact q⟩ (by simp only; omega) ⟨rfl, rfl, rfl, rfl, rfl, rfl, rfl, rfl, rfl, rfl, rfl, rfl, rfl, rfl, rfl, trivial⟩ (fun _ s => s)
                · refine wp_ex (qs_x (qs_x (qs_bx (qs_bn (qs_n (wp_sq ?_)))))); refine sq_v rfl (v_add rfl rfl ((by unfold I64; omega))) rfl ?_; refine sq_v rfl (v_move rfl) rfl (sq_end ?_); exact qs_bk (i + 1, g) ⟨by (try dsimp only); omega, by (try dsimp only); rw [mulTo_step, show y.length = j by omega]; exact q⟩ (by simp only; omega) ⟨rfl, rfl, rfl, rfl, rfl, rfl, rfl, trivial⟩ (fun _ s => s)
              · refine wp_ex (qs_x (qs_x (qs_bx (qs_bn (qs_n (wp_sc (wp_sq (sq_v rfl (v_move rfl) rfl (sq_v rfl (v_assign rfl) rfl (sq_end (qs_n (wp_rt ?_)))))))))))); exact qs_ret1 rfl rfl (fin_t 0 (i := 2) rfl rfl rfl (by rw [mulL_poly hk, show x.length = i by omega]; exact q))
theorem mulStep_same {p a b o : Int} (hp : 1 ≤ p) (ha : 0 ≤ a ∧ a ≤ p - 1) (hb : 0 ≤ b ∧ b ≤ p - 1) (ho : 0 ≤ o) : (o + (a * b).tmod p).tmod p = (o + a * b).tmod p := by
  have hm := (mul_in ha hb).1; have ht := tmod_in hm hp; rw [Int.tmod_eq_emod_of_nonneg (a := o + (a * b).tmod p) (by omega), Int.tmod_eq_emod_of_nonneg (a := o + a * b) (by omega), Int.tmod_eq_emod_of_nonneg hm]
  simp [Int.add_emod]
theorem mulStep_neg {p a b o : Int} (hp : 1 ≤ p) (ha : 0 ≤ a ∧ a ≤ p - 1) (hb : 0 ≤ b ∧ b ≤ p - 1) (ho : 0 ≤ o) : (o + p - (a * b).tmod p).tmod p = (o + (p - a) * b).tmod p := by
  have hm := (mul_in ha hb).1; have ht := tmod_in hm hp; have hm2 := (mul_in (a := p - a) (t := p) ⟨by omega, by omega⟩ hb).1; rw [Int.tmod_eq_emod_of_nonneg (a := o + p - (a * b).tmod p) (by omega), Int.tmod_eq_emod_of_nonneg (a := o + (p - a) * b) (by omega), Int.tmod_eq_emod_of_nonneg hm]; have e1 := Int.emod_add_mul_ediv (a * b) p; have e2 : o + (p - a) * b = (o + p - a * b % p) + p * (b - 1 - a * b / p) := by
    rw [Int.sub_mul, Int.mul_sub, Int.mul_sub]
    omega
  rw [e2, Int.add_mul_emod_self_left]
theorem ct_i_mulCoefficients (k p n : Int) (z x y : List Int) (zv v u : Value) (w : World) (h : PH) (hr : ringL k p n) (hk : k = 7 ∨ k = 8) (hle : PLe h (hp w)) (rz : IntsO z zv h) (r : IntsR x v (restP w h)) (r' : IntsR y u (restP w h)) (hz : z.length = (widthI k n).toNat) (hx : InR k p n x) (hy : InR k p n y) :
    Calls Tryz.prog 225 [ringV k p n, zv, v, u].toArray w (Ret w h (fun _ h' => IntsO (mulL k p n x y) zv h')) := by
  have ht := top_poly hr (by omega); have hw := width_range hr; have px := hx.poly hr (by omega); have py := hy.poly hr (by omega); have pz := poly_zero (k := k) (n := n) (p := p) (by omega) _ rfl; have hxl := hx.1; have hyl := hy.1; refine calls_in Tryz.func225 rfl Tryz.ntmps225 rfl (Sat.start2 hle) ?_; have hle0 := rz.toR.le; have hle1 := r.le; have hle2 := r'.le; refine wp_sc (wp_sq ?_); refine sq_x rfl (x_box rfl rfl) rfl ?_; rintro _ _ ⟨b4, rfl, rfl⟩; refine sq_end (qs_n (wp_sc (wp_sq (sq_v rfl (v_move rfl) rfl ?_)))); refine sq_m 1 rfl rfl (m_clearI 1 Tryz.underlying25 ty_3 rfl rfl rz) rfl ?_; intro _ h_q1_1 q1_1; refine sq_end (qs_n (wp_sc (wp_sq (sq_v rfl (v_move rfl) rfl (sq_v rfl (v_len Tryz.underlying25 rfl r.sl) rfl (sq_v rfl (v_move rfl) rfl (sq_end (qs_n (wp_bl ?_))))))))); refine wp_lp (σ := Nat × PH) (fun z_ => [(1, zv), (2, v), (3, u), (4, .pointer (some ⟨b4, 0, none⟩)), (14, num x.length), (15, num z_.1)]) (fun z_ => [box b4 [num k, num p, num n] 29, z_.2, (restP w h)]) (fun z_ => z_.1 ≤ x.length ∧ IntsO (mulTo k p x y (List.replicate (widthI k n).toNat 0) z_.1) zv z_.2) (fun z_ => x.length - z_.1) (0, h_q1_1) (⟨by (try dsimp only); omega, by (try dsimp only); rw [hz] at q1_1; simpa [mulTo] using q1_1⟩) ⟨rfl, rfl, rfl, rfl, rfl, rfl, trivial⟩ (fun _ s => s) ?_; rintro ⟨i, g⟩ ⟨hi, q⟩; dsimp only at hi q ⊢; have hle_q := q.toR.le; have po := mulTo_in (by omega) px py pz i; refine wp_sc (wp_sq (sq_v rfl (v_lss rfl rfl) rfl (sq_end (qs_n (wp_sc ?_))))); refine wp_cd rfl (fun c16 => ?_) (fun c16 => ?_)
  · refine wp_sk (qs_n (wp_sc (wp_bl (wp_sc (wp_sq (sq_v rfl (v_move rfl) rfl (sq_v rfl (v_assign rfl) rfl (sq_end (qs_n (wp_sc (wp_sq (sq_v rfl (v_move rfl) rfl (sq_v rfl (v_len Tryz.underlying25 rfl r'.sl) rfl (sq_v rfl (v_move rfl) rfl (sq_end (qs_n (wp_bl ?_))))))))))))))))); refine wp_lp (σ := Nat × PH) (fun z_ => [(1, zv), (2, v), (3, u), (4, .pointer (some ⟨b4, 0, none⟩)), (8, num i), (14, num x.length), (15, num i), (16, .bool (decide ((i : Int) < x.length))), (17, num i), (18, u), (19, num y.length), (20, num z_.1)]) (fun z_ => [box b4 [num k, num p, num n] 29, z_.2, (restP w h)]) (fun z_ => z_.1 ≤ y.length ∧ IntsO (mulRow k p x y i (mulTo k p x y (List.replicate (widthI k n).toNat 0) i) z_.1) zv z_.2) (fun z_ => y.length - z_.1) (0, g) (⟨by (try dsimp only); omega, by (try dsimp only); simpa [mulRow] using q⟩) ⟨rfl, rfl, rfl, rfl, rfl, rfl, rfl, rfl, rfl, rfl, rfl, rfl, trivial⟩ (fun _ s => s) ?_; rintro ⟨j, g⟩ ⟨hj, q⟩; dsimp only at hj q ⊢; have hle_q := q.toR.le; have pr := mulRow_in (by omega) px py po (i := i) j; have pl := pr.1; have hxi := px.at (by omega) i; have hyj := py.at (by omega) j; have hm2 := mul_in6 hxi hyj (by omega) (by omega); have htm := tmod_in hm2.1 (show 1 ≤ p by omega); have hoij := pr.at (by omega) (i + j); have hoij4 := pr.at (by omega) ((i : Int) + j - 4).toNat; have hw7 : k = 8 → widthI k n = 4 := fun e => by simp [widthI, e]
    refine wp_sc (wp_sq (sq_v rfl (v_lss rfl rfl) rfl (sq_end (qs_n (wp_sc ?_))))); refine wp_cd rfl (fun c21 => ?_) (fun c21 => ?_)
    · refine wp_sk (qs_n (wp_sc (wp_bl (wp_sc (wp_sq (sq_v rfl (v_move rfl) rfl (sq_v rfl (v_assign rfl) rfl (sq_end (qs_n (wp_sc (wp_rj 13 [(0, true), (1, true), (2, true), (3, true), (4, true), (5, true), (6, true), (7, true), (8, true), (9, true), (10, true), (11, true), (12, true)] mixed_ok (by kernel_rfl) (rj_v rfl rfl (v_move rfl) rfl (rj_v rfl rfl (v_move rfl) rfl (rj_v rfl rfl (v_idxI Tryz.underlying25 ty_3 rfl rfl r (by omega) (by omega)) rfl (rj_v rfl rfl (v_loadI (k := i) 2 ty_3 rfl rfl r (by omega)) rfl (rj_v rfl rfl (v_move rfl) rfl (rj_v rfl rfl (v_move rfl) rfl (rj_v rfl rfl (v_idxI Tryz.underlying25 ty_3 rfl rfl r' (by omega) (by omega)) rfl ?_)))))))))))))))))); refine rj_v rfl rfl (v_loadI (k := j) 2 ty_3 rfl rfl r' (by omega)) rfl ?_; refine rj_v rfl rfl (v_mul rfl rfl ((by unfold I64; omega))) rfl ?_; refine rj_v rfl rfl (v_fieldAddr fd_29_1 ty_3 (by decide) rfl) rfl (rj_v rfl rfl (v_loadB 0 ty_3 rfl rfl rfl) rfl (rj_v rfl rfl (v_rem rfl rfl (by omega)) rfl (rj_v rfl rfl (v_assign rfl) rfl (rj_end (qs_n (wp_sc (wp_sq (sq_v rfl (v_move rfl) rfl (sq_v rfl (v_move rfl) rfl ?_))))))))); refine sq_v rfl (v_add rfl rfl ((by unfold I64; omega))) rfl ?_; refine sq_v rfl (v_assign rfl) rfl (sq_end (qs_n (wp_sc (wp_sq (sq_v rfl (v_move rfl) rfl (sq_v rfl (v_move rfl) rfl (sq_v rfl (v_len Tryz.underlying25 rfl q.toR.sl) rfl (sq_v rfl (v_lss rfl rfl) rfl (sq_end (qs_n ?_)))))))))); refine wp_cd rfl (fun c41 => ?_) (fun c41 => ?_)
      · refine wp_rj 12 [(0, true), (1, true), (2, true), (3, true), (4, true), (5, true), (6, true), (7, true), (8, true), (9, true), (10, true), (11, true), (12, false)] mixed_ok (by kernel_rfl) (rj_v rfl rfl (v_move rfl) rfl (rj_v rfl rfl (v_move rfl) rfl (rj_v rfl rfl (v_move rfl) rfl (rj_v rfl rfl (v_move rfl) rfl (rj_v rfl rfl (v_idxI Tryz.underlying25 ty_3 rfl rfl q.toR (by omega) (by omega)) rfl (rj_v rfl rfl (v_loadI (k := (i + j)) 1 ty_3 rfl rfl q.toR (by omega)) rfl (rj_v rfl rfl (v_move rfl) rfl ?_))))))); refine rj_v rfl rfl (v_add rfl rfl ((by unfold I64; omega))) rfl ?_; refine rj_v rfl rfl (v_fieldAddr fd_29_1 ty_3 (by decide) rfl) rfl (rj_v rfl rfl (v_loadB 0 ty_3 rfl rfl rfl) rfl (rj_v rfl rfl (v_rem rfl rfl (by omega)) rfl (rj_v rfl rfl (v_idxI Tryz.underlying25 ty_3 rfl rfl q.toR (by omega) (by omega)) rfl ?_))); refine rj_m 1 rfl rfl rfl rfl (m_storeI (k := (i + j)) 1 ty_3 rfl rfl rfl q (by omega)) rfl ?_; rintro _ h_q11_12 ⟨rfl, q11_12⟩; refine rj_end (qs_bn (qs_n (wp_sq ?_))); refine sq_v rfl (v_add rfl rfl ((by unfold I64; omega))) rfl ?_; refine sq_v rfl (v_move rfl) rfl (sq_end ?_); exact qs_bk (j + 1, h_q11_12) ⟨by (try dsimp only); omega, by (try dsimp only); rw [mulRow_step, mulStep, if_pos (by omega), ← mulStep_same (by omega) hxi hyj hoij.1]; exact q11_12⟩ (by simp only; omega) ⟨rfl, rfl, rfl, rfl, rfl, rfl, rfl, rfl, rfl, rfl, rfl, rfl, trivial⟩ (fun _ s => s)
      · refine wp_sc (wp_sq (sq_v rfl (v_fieldAddr fd_29_0 ty_3 (by decide) rfl) rfl (sq_v rfl (v_loadB 0 ty_3 rfl rfl rfl) rfl (sq_v rfl (v_eql rfl rfl) rfl (sq_end (qs_n ?_)))))); refine wp_cd rfl (fun c56 => ?_) (fun c56 => ?_)
        · refine wp_rj 17 [(0, true), (1, true), (2, true), (3, true), (4, true), (5, true), (6, true), (7, true), (8, true), (9, true), (10, true), (11, true), (12, true), (13, true), (14, true), (15, true), (16, true), (17, false)] mixed_ok (by kernel_rfl) (rj_v rfl rfl (v_move rfl) rfl (rj_v rfl rfl (v_move rfl) rfl ?_)); refine rj_v rfl rfl (v_sub rfl rfl ((by unfold I64; omega))) rfl ?_; refine rj_v rfl rfl (v_move rfl) rfl (rj_v rfl rfl (v_move rfl) rfl ?_); refine rj_v rfl rfl (v_sub rfl rfl ((by unfold I64; omega))) rfl ?_; refine rj_v rfl rfl (v_idxI Tryz.underlying25 ty_3 rfl rfl q.toR (by omega) (by omega)) rfl (rj_v rfl rfl (v_loadI  1 ty_3 rfl rfl q.toR (by omega)) rfl (rj_v rfl rfl (v_fieldAddr fd_29_1 ty_3 (by decide) rfl) rfl (rj_v rfl rfl (v_loadB 0 ty_3 rfl rfl rfl) rfl ?_))); refine rj_v rfl rfl (v_add rfl rfl ((by unfold I64; omega))) rfl ?_; refine rj_v rfl rfl (v_move rfl) rfl ?_; refine rj_v rfl rfl (v_sub rfl rfl ((by unfold I64; omega))) rfl ?_; refine rj_v rfl rfl (v_fieldAddr fd_29_1 ty_3 (by decide) rfl) rfl (rj_v rfl rfl (v_loadB 0 ty_3 rfl rfl rfl) rfl (rj_v rfl rfl (v_rem rfl rfl (by omega)) rfl (rj_v rfl rfl (v_idxI Tryz.underlying25 ty_3 rfl rfl q.toR (by omega) (by omega)) rfl ?_))); refine rj_m 1 rfl rfl rfl rfl (m_storeI 1 ty_3 rfl rfl rfl q (by omega)) rfl ?_; rintro _ h_q13_17 ⟨rfl, q13_17⟩; refine rj_end (qs_bn (qs_n (wp_sq ?_))); refine sq_v rfl (v_add rfl rfl ((by unfold I64; omega))) rfl ?_; refine sq_v rfl (v_move rfl) rfl (sq_end ?_); exact qs_bk (j + 1, h_q13_17) ⟨by (try dsimp only); omega, by (try dsimp only); rw [mulRow_step, mulStep, if_neg (by omega), if_pos c56]; rw [show ((i : Int) + j - 4).toNat = i + j - 4 by omega] at q13_17 hoij4; rw [← mulStep_neg (by omega) hxi hyj hoij4.1]; exact q13_17⟩ (by simp only; omega) ⟨rfl, rfl, rfl, rfl, rfl, rfl, rfl, rfl, rfl, rfl, rfl, rfl, trivial⟩ (fun _ s => s)
        · refine wp_sk (qs_bn (qs_n (wp_sq ?_))); refine sq_v rfl (v_add rfl rfl ((by unfold I64; omega))) rfl ?_; refine sq_v rfl (v_move rfl) rfl (sq_end ?_); exact qs_bk (j + 1, g) ⟨by (try dsimp only); omega, by (try dsimp only); rw [mulRow_step, mulStep, if_neg (by omega), if_neg c56]; exact q⟩ (by simp only; omega) ⟨rfl, rfl, rfl, rfl, rfl, rfl, rfl, rfl, rfl, rfl, rfl, rfl, trivial⟩ (fun _ s => s)
    · refine wp_ex (qs_x (qs_x (qs_bx (qs_bn (qs_n (wp_sq ?_)))))); refine sq_v rfl (v_add rfl rfl ((by unfold I64; omega))) rfl ?_; refine sq_v rfl (v_move rfl) rfl (sq_end ?_); exact qs_bk (i + 1, g) ⟨by (try dsimp only); omega, by (try dsimp only); rw [mulTo_step, show y.length = j by omega]; exact q⟩ (by simp only; omega) ⟨rfl, rfl, rfl, rfl, rfl, rfl, trivial⟩ (fun _ s => s)
  · refine wp_ex (qs_x (qs_x (qs_bx ?_))); exact qs_ret0 rfl (fin_m 1 (i := 2) rfl rfl rfl (by rw [mulL_poly hk, show x.length = i by omega]; exact q))
theorem fin1' {k p n a : Int} {x y z : List Int} {v : Value} {h : PH} (q : IntsO (z.set 0 a) v h) (hm : z.length = 1) (e : mulL k p n x y = [a]) : IntsO (mulL k p n x y) v h := by
  rw [e]
  match z, hm with
  | [b], _ => exact q
set_option maxHeartbeats 1000000 in
theorem ct_i_mulInto (k p n : Int) (z x y : List Int) (zv v u : Value) (w : World) (h : PH) (hr : ringL k p n) (hle : PLe h (hp w)) (rz : IntsO z zv h) (r : IntsR x v (restP w h)) (r' : IntsR y u (restP w h)) (hz : z.length = (widthI k n).toNat) (hx : InR k p n x) (hy : InR k p n y) :
    Calls Tryz.prog 190 [ringV k p n, zv, v, u].toArray w (Ret w h (fun _ h' => IntsO (mulL k p n x y) zv h')) := by
  have h1 := hx.len hr; have h2 := hy.len hr; have hx0 := hx.at hr 0 (by omega); have hy0 := hy.at hr 0 (by omega); have hw := width_range hr; have htr := top_range hr; have hrp := ring_p hr; have hm := mul_in6 hx0 hy0 htr.2 htr.2; refine calls_in Tryz.func190 rfl Tryz.ntmps190 rfl (Sat.start2 hle) ?_; have hle0 := rz.toR.le; have hle1 := r.le; have hle2 := r'.le; refine wp_sc (wp_sq ?_); refine sq_x rfl (x_box rfl rfl) rfl ?_; rintro _ _ ⟨b4, rfl, rfl⟩; refine sq_end (qs_n (wp_sc (wp_sq (sq_v rfl (v_fieldAddr fd_29_0 ty_3 (by decide) rfl) rfl (sq_v rfl (v_loadB 0 ty_3 rfl rfl rfl) rfl (sq_end (qs_n (wp_bl (wp_sc (wp_sc (wp_sq (sq_v rfl (v_eql rfl rfl) rfl (sq_v rfl (v_assign rfl) rfl (sq_end (qs_n ?_))))))))))))))); refine wp_cSd rfl (fun c15 => ?_) (fun c15 => ?_)
  · refine wp_sk (qs_n (wp_ct rfl (wp_rj 9 [(0, true), (1, true), (2, true), (3, true), (4, true), (5, true), (6, true), (7, true), (8, true), (9, false)] mixed_ok (by kernel_rfl) (rj_v rfl rfl (v_move rfl) rfl (rj_v rfl rfl (v_move rfl) rfl (rj_v rfl rfl (v_idxI Tryz.underlying25 ty_3 rfl rfl r (by omega) (by omega)) rfl (rj_v rfl rfl (v_loadI (k := 0) 2 ty_3 rfl rfl r (by omega)) rfl (rj_v rfl rfl (v_move rfl) rfl (rj_v rfl rfl (v_idxI Tryz.underlying25 ty_3 rfl rfl r' (by omega) (by omega)) rfl (rj_v rfl rfl (v_loadI (k := 0) 2 ty_3 rfl rfl r' (by omega)) rfl (rj_v rfl rfl (v_min rfl rfl) rfl ?_))))))))))); refine rj_v rfl rfl (v_idxI Tryz.underlying25 ty_3 rfl rfl rz.toR (by omega) (by omega)) rfl ?_; refine rj_m 1 rfl rfl rfl rfl (m_storeI (k := 0) 1 ty_3 rfl rfl rfl rz (by omega)) rfl ?_; rintro _ h_q5_9 ⟨rfl, q5_9⟩; refine rj_end (qs_bn ?_); exact qs_ret0 rfl (fin_m 1 (i := 2) rfl rfl rfl (fin1' q5_9 (by have := width_1 (k := k) (n := n) (by omega) (by omega); omega) (by simp [mulL, c15])))
  · refine wp_sq (sq_v rfl (v_eql rfl rfl) rfl (sq_v rfl (v_assign rfl) rfl (sq_end (qs_n ?_)))); refine wp_cSd rfl (fun c15 => ?_) (fun c15 => ?_)
    · refine wp_rj 9 [(0, true), (1, true), (2, true), (3, true), (4, true), (5, true), (6, true), (7, true), (8, true), (9, false)] mixed_ok (by kernel_rfl) (rj_v rfl rfl (v_move rfl) rfl (rj_v rfl rfl (v_move rfl) rfl (rj_v rfl rfl (v_idxI Tryz.underlying25 ty_3 rfl rfl r (by omega) (by omega)) rfl (rj_v rfl rfl (v_loadI (k := 0) 2 ty_3 rfl rfl r (by omega)) rfl (rj_v rfl rfl (v_move rfl) rfl (rj_v rfl rfl (v_idxI Tryz.underlying25 ty_3 rfl rfl r' (by omega) (by omega)) rfl (rj_v rfl rfl (v_loadI (k := 0) 2 ty_3 rfl rfl r' (by omega)) rfl (rj_v rfl rfl (v_min rfl rfl) rfl (rj_v rfl rfl (v_idxI Tryz.underlying25 ty_3 rfl rfl rz.toR (by omega) (by omega)) rfl ?_))))))))); refine rj_m 1 rfl rfl rfl rfl (m_storeI (k := 0) 1 ty_3 rfl rfl rfl rz (by omega)) rfl ?_; rintro _ h_q5_9 ⟨rfl, q5_9⟩; refine rj_end (qs_bn ?_); exact qs_ret0 rfl (fin_m 1 (i := 2) rfl rfl rfl (fin1' q5_9 (by have := width_1 (k := k) (n := n) (by omega) (by omega); omega) (by simp [mulL, c15])))
    · refine wp_sc (wp_sq (sq_v rfl (v_eql rfl rfl) rfl (sq_v rfl (v_assign rfl) rfl (sq_end (qs_n ?_))))); refine wp_cd rfl (fun c27 => ?_) (fun c27 => ?_)
      · refine wp_rj 12 [(0, true), (1, true), (2, true), (3, true), (4, true), (5, true), (6, true), (7, true), (8, true), (9, true), (10, true), (11, true), (12, false)] mixed_ok (by kernel_rfl) (rj_v rfl rfl (v_move rfl) rfl (rj_v rfl rfl (v_move rfl) rfl (rj_v rfl rfl (v_idxI Tryz.underlying25 ty_3 rfl rfl r (by omega) (by omega)) rfl (rj_v rfl rfl (v_loadI (k := 0) 2 ty_3 rfl rfl r (by omega)) rfl (rj_v rfl rfl (v_move rfl) rfl (rj_v rfl rfl (v_idxI Tryz.underlying25 ty_3 rfl rfl r' (by omega) (by omega)) rfl (rj_v rfl rfl (v_loadI (k := 0) 2 ty_3 rfl rfl r' (by omega)) rfl ?_))))))); refine rj_v rfl rfl (v_mul rfl rfl ((by unfold I64; omega))) rfl ?_; refine rj_v rfl rfl (v_fieldAddr fd_29_1 ty_3 (by decide) rfl) rfl (rj_v rfl rfl (v_loadB 0 ty_3 rfl rfl rfl) rfl ?_); refine rj_v rfl rfl (v_rem rfl rfl (by have := top_poly hr (.inl c27); omega)) rfl ?_; refine rj_v rfl rfl (v_idxI Tryz.underlying25 ty_3 rfl rfl rz.toR (by omega) (by omega)) rfl ?_; refine rj_m 1 rfl rfl rfl rfl (m_storeI (k := 0) 1 ty_3 rfl rfl rfl rz (by omega)) rfl ?_; rintro _ h_q7_12 ⟨rfl, q7_12⟩; refine rj_end (qs_bn ?_); exact qs_ret0 rfl (fin_m 1 (i := 2) rfl rfl rfl (fin1' q7_12 (by have := width_1 (k := k) (n := n) (by omega) (by omega); omega) (by simp [mulL, c27])))
      · refine wp_sc (wp_sq (sq_v rfl (v_eql rfl rfl) rfl (sq_v rfl (v_assign rfl) rfl (sq_end (qs_n ?_))))); refine wp_cd rfl (fun c41 => ?_) (fun c41 => ?_)
        · refine wp_rj 12 [(0, true), (1, true), (2, true), (3, true), (4, true), (5, true), (6, true), (7, true), (8, true), (9, true), (10, true), (11, true), (12, false)] mixed_ok (by kernel_rfl) (rj_v rfl rfl (v_move rfl) rfl (rj_v rfl rfl (v_move rfl) rfl (rj_v rfl rfl (v_idxI Tryz.underlying25 ty_3 rfl rfl r (by omega) (by omega)) rfl (rj_v rfl rfl (v_loadI (k := 0) 2 ty_3 rfl rfl r (by omega)) rfl (rj_v rfl rfl (v_move rfl) rfl (rj_v rfl rfl (v_idxI Tryz.underlying25 ty_3 rfl rfl r' (by omega) (by omega)) rfl (rj_v rfl rfl (v_loadI (k := 0) 2 ty_3 rfl rfl r' (by omega)) rfl ?_))))))); refine rj_v rfl rfl (v_mul rfl rfl ((by unfold I64; omega))) rfl ?_; refine rj_v rfl rfl (v_fieldAddr fd_29_1 ty_3 (by decide) rfl) rfl (rj_v rfl rfl (v_loadB 0 ty_3 rfl rfl rfl) rfl (rj_v rfl rfl (v_min rfl rfl) rfl (rj_v rfl rfl (v_idxI Tryz.underlying25 ty_3 rfl rfl rz.toR (by omega) (by omega)) rfl ?_))); refine rj_m 1 rfl rfl rfl rfl (m_storeI (k := 0) 1 ty_3 rfl rfl rfl rz (by omega)) rfl ?_; rintro _ h_q9_12 ⟨rfl, q9_12⟩; refine rj_end (qs_bn ?_); exact qs_ret0 rfl (fin_m 1 (i := 2) rfl rfl rfl (fin1' q9_12 (by have := width_1 (k := k) (n := n) (by omega) (by omega); omega) (by simp [mulL, c41])))
        · refine wp_sc (wp_sq (sq_v rfl (v_eql rfl rfl) rfl (sq_v rfl (v_assign rfl) rfl (sq_end (qs_n ?_))))); refine wp_cd rfl (fun c55 => ?_) (fun c55 => ?_)
          · refine wp_rj 12 [(0, true), (1, true), (2, true), (3, true), (4, true), (5, true), (6, true), (7, true), (8, true), (9, true), (10, true), (11, true), (12, false)] mixed_ok (by kernel_rfl) (rj_v rfl rfl (v_move rfl) rfl (rj_v rfl rfl (v_move rfl) rfl (rj_v rfl rfl (v_idxI Tryz.underlying25 ty_3 rfl rfl r (by omega) (by omega)) rfl (rj_v rfl rfl (v_loadI (k := 0) 2 ty_3 rfl rfl r (by omega)) rfl (rj_v rfl rfl (v_move rfl) rfl (rj_v rfl rfl (v_idxI Tryz.underlying25 ty_3 rfl rfl r' (by omega) (by omega)) rfl (rj_v rfl rfl (v_loadI (k := 0) 2 ty_3 rfl rfl r' (by omega)) rfl ?_))))))); refine rj_v rfl rfl (v_add rfl rfl ((by unfold I64; omega))) rfl ?_; refine rj_v rfl rfl (v_fieldAddr fd_29_1 ty_3 (by decide) rfl) rfl (rj_v rfl rfl (v_loadB 0 ty_3 rfl rfl rfl) rfl (rj_v rfl rfl (v_min rfl rfl) rfl (rj_v rfl rfl (v_idxI Tryz.underlying25 ty_3 rfl rfl rz.toR (by omega) (by omega)) rfl ?_))); refine rj_m 1 rfl rfl rfl rfl (m_storeI (k := 0) 1 ty_3 rfl rfl rfl rz (by omega)) rfl ?_; rintro _ h_q11_12 ⟨rfl, q11_12⟩; refine rj_end (qs_bn ?_); exact qs_ret0 rfl (fin_m 1 (i := 2) rfl rfl rfl (fin1' q11_12 (by have := width_1 (k := k) (n := n) (by omega) (by omega); omega) (by simp [mulL, c55])))
          · refine wp_sc (wp_sq (sq_v rfl (v_eql rfl rfl) rfl (sq_v rfl (v_assign rfl) rfl (sq_end (qs_n ?_))))); refine wp_cd rfl (fun c69 => ?_) (fun c69 => ?_)
            · refine wp_rj 9 [(0, true), (1, true), (2, true), (3, true), (4, true), (5, true), (6, true), (7, true), (8, true), (9, false)] mixed_ok (by kernel_rfl) (rj_v rfl rfl (v_move rfl) rfl (rj_v rfl rfl (v_move rfl) rfl (rj_v rfl rfl (v_idxI Tryz.underlying25 ty_3 rfl rfl r (by omega) (by omega)) rfl (rj_v rfl rfl (v_loadI (k := 0) 2 ty_3 rfl rfl r (by omega)) rfl (rj_v rfl rfl (v_move rfl) rfl (rj_v rfl rfl (v_idxI Tryz.underlying25 ty_3 rfl rfl r' (by omega) (by omega)) rfl (rj_v rfl rfl (v_loadI (k := 0) 2 ty_3 rfl rfl r' (by omega)) rfl (rj_v rfl rfl (v_and rfl rfl ⟨by omega, by omega⟩ ⟨by omega, by omega⟩) rfl (rj_v rfl rfl (v_idxI Tryz.underlying25 ty_3 rfl rfl rz.toR (by omega) (by omega)) rfl ?_))))))))); refine rj_m 1 rfl rfl rfl rfl (m_storeI (k := 0) 1 ty_3 rfl rfl rfl rz (by omega)) rfl ?_; rintro _ h_q13_9 ⟨rfl, q13_9⟩; refine rj_end (qs_bn ?_); exact qs_ret0 rfl (fin_m 1 (i := 2) rfl rfl rfl (fin1' q13_9 (by have := width_1 (k := k) (n := n) (by omega) (by omega); omega) (by simp [mulL, c69])))
            · refine wp_sq (sq_v rfl (v_loadNB 0 ty_29 rfl rfl rfl rfl) rfl (sq_v rfl (v_move rfl) rfl (sq_v rfl (v_move rfl) rfl (sq_v rfl (v_move rfl) rfl ?_)))); have hk := kind_rest hr (by omega) (by omega) (by omega) (by omega) (by omega) (by omega); refine sq_m 1 rfl rfl (x_call rfl en_225 (fun w s => ct_i_mulCoefficients _ _ _ _ _ _ _ _ _ w _ (by first | assumption | omega) (by first | assumption | omega) (s.get 1 rfl) rz (r.mono (s.getR 1 2 rfl rfl (by decide))) (r'.mono (s.getR 1 2 rfl rfl (by decide))) (by first | assumption | omega) (by first | assumption | omega) (by first | assumption | omega))) rfl ?_; rintro _ h14 r14; refine sq_end (qs_bn ?_); exact qs_ret0 rfl (fin_m 1 (i := 2) rfl rfl rfl (r14))
open Classical in
noncomputable def add1 (k p : Int) (a b : Int) : Int :=
  if k = 1 ∨ k = 5 then max a b else if k = 3 then min (a + b) p else if k = 4 then min a b else if k = 6 then ((a.toNat ||| b.toNat : Nat) : Int) else (a + b).tmod p
noncomputable def addL (k p : Int) (x y : List Int) : List Int := (List.range x.length).map fun i => add1 k p (x.getD i 0) (y.getD i 0)
theorem addL_len (k p : Int) (x y : List Int) : (addL k p x y).length = x.length := by simp [addL]
theorem addL_get {k p : Int} {x y : List Int} {i : Nat} (h : i < x.length) : (addL k p x y).getD i 0 = add1 k p (x.getD i 0) (y.getD i 0) := by simp [addL, List.getD, h]
theorem or_bool {a b : Int} (ha : 0 ≤ a ∧ a ≤ 1) (hb : 0 ≤ b ∧ b ≤ 1) : ((a.toNat ||| b.toNat : Nat) : Int) = max a b := by
  have e1 : a = 0 ∨ a = 1 := by omega
  have e2 : b = 0 ∨ b = 1 := by omega
  rcases e1 with rfl | rfl <;> rcases e2 with rfl | rfl <;> decide
theorem or_in {a b n : Int} (ha : 0 ≤ a ∧ a ≤ 2 ^ n.toNat - 1) (hb : 0 ≤ b ∧ b ≤ 2 ^ n.toNat - 1) : 0 ≤ ((a.toNat ||| b.toNat : Nat) : Int) ∧ ((a.toNat ||| b.toNat : Nat) : Int) ≤ 2 ^ n.toNat - 1 := by
  have e : ((2 ^ n.toNat : Nat) : Int) = (2 : Int) ^ n.toNat := by simp
  have h1 : a.toNat ||| b.toNat < 2 ^ n.toNat := Nat.or_lt_two_pow (by omega) (by omega)
  omega
theorem add1_in {k p n a b : Int} (hr : ringL k p n) (ha : 0 ≤ a ∧ a ≤ topI k p n) (hb : 0 ≤ b ∧ b ≤ topI k p n) : 0 ≤ add1 k p a b ∧ add1 k p a b ≤ topI k p n := by
  unfold add1
  split
  · omega
  · split
    · have := top_cap hr (by omega); omega
    · split
      · omega
      · split
        · rename_i h6
          have ht : topI k p n = 2 ^ n.toNat - 1 := by simp [topI, h6]
          rw [ht] at ha hb ⊢; exact or_in ha hb
        · have ht := top_poly hr (kind_rest' hr (by omega) (by omega) (by omega) (by omega) (by omega)); have := tmod_in (a := a + b) (p := p) (by omega) (by omega)
          omega
theorem addL_in {k p n : Int} {x y : List Int} (hr : ringL k p n) (hx : InR k p n x) (hy : InR k p n y) : InR k p n (addL k p x y) := by
  refine ⟨by rw [addL_len]; exact hx.1, fun a ha => ?_⟩; simp only [addL, List.mem_map, List.mem_range] at ha; obtain ⟨i, hi, rfl⟩ := ha; exact add1_in hr (hx.at hr i hi) (hy.at hr i (by have := hx.1; have := hy.1; omega))
/-- The first i sums. -/
noncomputable def addTo (k p : Int) (x y o : List Int) (i : Nat) : List Int := (addL k p x y).take i ++ o.drop i
theorem addTo_step {k p : Int} {x y o : List Int} {i : Nat} (hi : i < x.length) (ho : o.length = x.length) : (addTo k p x y o i).set i (add1 k p (x.getD i 0) (y.getD i 0)) = addTo k p x y o (i + 1) := by
  have hl := addL_len k p x y
  unfold addTo
  apply List.ext_getElem
  · simp; omega
  · intro j h1 h2; rw [List.getElem_set]
    split
    · rename_i e; subst e
      rw [List.getElem_append_left (by simp; omega), List.getElem_take, ← addL_get hi]
      simp [List.getD, hl, hi]
    · rename_i e
      rcases Nat.lt_or_ge j i with hj | hj
      · rw [List.getElem_append_left (by simp; omega), List.getElem_append_left (by simp; omega), List.getElem_take, List.getElem_take]
      · rw [List.getElem_append_right (by simp; omega), List.getElem_append_right (by simp; omega), List.getElem_drop, List.getElem_drop]
        congr 1
        simp only [List.length_take, hl]
        omega
theorem addTo_len {k p : Int} {x y o : List Int} {i : Nat} (hi : i ≤ x.length) (ho : o.length = x.length) : (addTo k p x y o i).length = x.length := by
  simp [addTo, addL_len]; omega
theorem addTo_get {k p : Int} {x y o : List Int} {i j : Nat} (hj : i ≤ j) (hi : i ≤ x.length) : (addTo k p x y o i).getD j 0 = o.getD j 0 := by
  have : (List.take i (addL k p x y)).length = i := by simp [addL_len]; omega
  simp only [addTo, List.getD]; rw [List.getElem?_append_right (by omega), List.getElem?_drop]
  congr 2
  omega
set_option maxHeartbeats 1000000 in
theorem ct_s_l02Add (k p n : Int) (x y : List Int) (v u : Value) (w : World) (hr : ringL k p n) (r : IntsR x v (hp w)) (r' : IntsR y u (hp w)) (hx : InR k p n x) (hy : InR k p n y) :
    Calls Tryz.prog 179 [ringV k p n, v, u].toArray w (Ret w emp (IntsO (addL k p x y))) := by
  have h1 := hx.len hr; have h2 := hy.len hr; have htr := top_range hr; have hrp := ring_p hr; refine calls_in Tryz.func179 rfl Tryz.ntmps179 rfl (Sat.start w) ?_; have hle0 := r.le; have hle1 := r'.le; refine wp_sc (wp_sq ?_); refine sq_x rfl (x_box rfl rfl) rfl ?_; rintro _ _ ⟨b3, rfl, rfl⟩; refine sq_v rfl (v_assign rfl) rfl (sq_end (qs_n (wp_sc (wp_sq (sq_v rfl (v_move rfl) rfl (sq_v rfl (v_len Tryz.underlying25 rfl r.sl) rfl ?_)))))); refine sq_x rfl (x_makeI Tryz.underlying25 ty_3 rfl rfl (by omega) (by omega) (by omega)) rfl ?_; intro v11 h11 r11; refine sq_v rfl (v_assign rfl) rfl (sq_end (qs_n (wp_sc (wp_sc (wp_sq (sq_v rfl (v_move rfl) rfl (sq_v rfl (v_len Tryz.underlying25 rfl r.sl) rfl (sq_v rfl (v_move rfl) rfl (sq_end (qs_n (wp_bl ?_))))))))))); refine wp_lp (σ := Nat × PH) (fun z_ => [(1, v), (2, u), (3, .pointer (some ⟨b3, 0, none⟩)), (6, .slice none 0 0), (7, v11), (13, num x.length), (14, num z_.1)]) (fun z_ => [z_.2, box b3 [num k, num p, num n] 29, hp w]) (fun z_ => z_.1 ≤ x.length ∧ IntsO (addTo k p x y (List.replicate x.length 0) z_.1) v11 z_.2) (fun z_ => x.length - z_.1) (0, h11) (⟨by (try dsimp only); omega, by (try dsimp only); simpa [addTo] using r11⟩) ⟨rfl, rfl, rfl, rfl, rfl, rfl, rfl, trivial⟩ (fun _ s => s) ?_; rintro ⟨i, g⟩ ⟨hi, q⟩; dsimp only at hi q ⊢; have hle_q := q.toR.le; have hl := addTo_len (k := k) (p := p) (y := y) (o := List.replicate x.length 0) hi (by simp); have hst : i < x.length → _ := fun h => addTo_step (k := k) (p := p) (y := y) (o := List.replicate x.length 0) h (by simp); refine wp_sc (wp_sq (sq_v rfl (v_lss rfl rfl) rfl (sq_end (qs_n (wp_sc ?_))))); refine wp_cd rfl (fun c15 => ?_) (fun c15 => ?_)
  · refine wp_sk (qs_n (wp_sc (wp_bl (wp_sc (wp_sq (sq_v rfl (v_move rfl) rfl (sq_v rfl (v_assign rfl) rfl (sq_end ?_)))))))); have hxi := hx.at hr i (by omega); have hyi := hy.at hr i (by omega); refine qs_n (wp_sc (wp_sq (sq_v rfl (v_fieldAddr fd_29_0 ty_3 (by decide) rfl) rfl (sq_v rfl (v_loadB 1 ty_3 rfl rfl rfl) rfl (sq_end (qs_n (wp_bl (wp_sc (wp_sc (wp_sq (sq_v rfl (v_eql rfl rfl) rfl (sq_v rfl (v_assign rfl) rfl (sq_end (qs_n ?_)))))))))))))); refine wp_cSd rfl (fun c34 => ?_) (fun c34 => ?_)
    · refine wp_sk (qs_n (wp_ct rfl (wp_rj 12 [(0, true), (1, true), (2, true), (3, true), (4, true), (5, true), (6, true), (7, true), (8, true), (9, true), (10, true), (11, true), (12, false)] mixed_ok (by kernel_rfl) (rj_v rfl rfl (v_move rfl) rfl (rj_v rfl rfl (v_move rfl) rfl (rj_v rfl rfl (v_move rfl) rfl (rj_v rfl rfl (v_move rfl) rfl (rj_v rfl rfl (v_idxI Tryz.underlying25 ty_3 rfl rfl r (by omega) (by omega)) rfl (rj_v rfl rfl (v_loadI (k := i) 2 ty_3 rfl rfl r (by omega)) rfl (rj_v rfl rfl (v_move rfl) rfl (rj_v rfl rfl (v_move rfl) rfl ?_))))))))))); refine rj_v rfl rfl (v_idxI Tryz.underlying25 ty_3 rfl rfl r' (by omega) (by omega)) rfl (rj_v rfl rfl (v_loadI (k := i) 2 ty_3 rfl rfl r' (by omega)) rfl (rj_v rfl rfl (v_or rfl rfl ⟨by omega, by omega⟩ ⟨by omega, by omega⟩) rfl (rj_v rfl rfl (v_idxI Tryz.underlying25 ty_3 rfl rfl q.toR (by omega) (by omega)) rfl ?_))); refine rj_m 0 rfl rfl rfl rfl (m_storeI (k := i) 0 ty_3 rfl rfl rfl q (by omega)) rfl ?_; rintro _ h_q9_12 ⟨rfl, q9_12⟩; refine rj_end (qs_bn (qs_bn (qs_n (wp_sq ?_)))); refine sq_v rfl (v_add rfl rfl ((by unfold I64; omega))) rfl ?_; refine sq_v rfl (v_move rfl) rfl (sq_end ?_); exact qs_bk (i + 1, h_q9_12) ⟨by (try dsimp only); omega, by (try dsimp only); rw [← hst (by omega), add1, if_pos (.inl c34), ← or_bool (by have := top_1 (p := p) (n := n) c34; omega) (by have := top_1 (p := p) (n := n) c34; omega)]; exact q9_12⟩ (by simp only; omega) ⟨rfl, rfl, rfl, rfl, rfl, rfl, rfl, trivial⟩ (fun _ s => s)
    · refine wp_sq (sq_v rfl (v_eql rfl rfl) rfl (sq_v rfl (v_assign rfl) rfl (sq_end (qs_n ?_)))); refine wp_cSd rfl (fun c34 => ?_) (fun c34 => ?_)
      · refine wp_rj 12 [(0, true), (1, true), (2, true), (3, true), (4, true), (5, true), (6, true), (7, true), (8, true), (9, true), (10, true), (11, true), (12, false)] mixed_ok (by kernel_rfl) (rj_v rfl rfl (v_move rfl) rfl (rj_v rfl rfl (v_move rfl) rfl (rj_v rfl rfl (v_move rfl) rfl (rj_v rfl rfl (v_move rfl) rfl (rj_v rfl rfl (v_idxI Tryz.underlying25 ty_3 rfl rfl r (by omega) (by omega)) rfl (rj_v rfl rfl (v_loadI (k := i) 2 ty_3 rfl rfl r (by omega)) rfl (rj_v rfl rfl (v_move rfl) rfl (rj_v rfl rfl (v_move rfl) rfl (rj_v rfl rfl (v_idxI Tryz.underlying25 ty_3 rfl rfl r' (by omega) (by omega)) rfl ?_))))))))); refine rj_v rfl rfl (v_loadI (k := i) 2 ty_3 rfl rfl r' (by omega)) rfl (rj_v rfl rfl (v_or rfl rfl ⟨by omega, by omega⟩ ⟨by omega, by omega⟩) rfl (rj_v rfl rfl (v_idxI Tryz.underlying25 ty_3 rfl rfl q.toR (by omega) (by omega)) rfl ?_)); refine rj_m 0 rfl rfl rfl rfl (m_storeI (k := i) 0 ty_3 rfl rfl rfl q (by omega)) rfl ?_; rintro _ h_q9_12 ⟨rfl, q9_12⟩; refine rj_end (qs_bn (qs_bn (qs_n (wp_sq ?_)))); refine sq_v rfl (v_add rfl rfl ((by unfold I64; omega))) rfl ?_; refine sq_v rfl (v_move rfl) rfl (sq_end ?_); exact qs_bk (i + 1, h_q9_12) ⟨by (try dsimp only); omega, by (try dsimp only); rw [← hst (by omega), add1, if_neg (by omega), if_neg (by omega), if_neg (by omega), if_pos c34]; exact q9_12⟩ (by simp only; omega) ⟨rfl, rfl, rfl, rfl, rfl, rfl, rfl, trivial⟩ (fun _ s => s)
      · refine wp_sc (wp_sq (sq_v rfl (v_eql rfl rfl) rfl (sq_v rfl (v_assign rfl) rfl (sq_end (qs_n ?_))))); refine wp_cd rfl (fun c49 => ?_) (fun c49 => ?_)
        · refine wp_rj 15 [(0, true), (1, true), (2, true), (3, true), (4, true), (5, true), (6, true), (7, true), (8, true), (9, true), (10, true), (11, true), (12, true), (13, true), (14, true), (15, false)] mixed_ok (by kernel_rfl) (rj_v rfl rfl (v_move rfl) rfl (rj_v rfl rfl (v_move rfl) rfl (rj_v rfl rfl (v_move rfl) rfl (rj_v rfl rfl (v_move rfl) rfl (rj_v rfl rfl (v_idxI Tryz.underlying25 ty_3 rfl rfl r (by omega) (by omega)) rfl (rj_v rfl rfl (v_loadI (k := i) 2 ty_3 rfl rfl r (by omega)) rfl (rj_v rfl rfl (v_move rfl) rfl (rj_v rfl rfl (v_move rfl) rfl (rj_v rfl rfl (v_idxI Tryz.underlying25 ty_3 rfl rfl r' (by omega) (by omega)) rfl ?_))))))))); refine rj_v rfl rfl (v_loadI (k := i) 2 ty_3 rfl rfl r' (by omega)) rfl ?_; refine rj_v rfl rfl (v_add rfl rfl ((by unfold I64; omega))) rfl ?_; refine rj_v rfl rfl (v_fieldAddr fd_29_1 ty_3 (by decide) rfl) rfl (rj_v rfl rfl (v_loadB 1 ty_3 rfl rfl rfl) rfl (rj_v rfl rfl (v_min rfl rfl) rfl (rj_v rfl rfl (v_idxI Tryz.underlying25 ty_3 rfl rfl q.toR (by omega) (by omega)) rfl ?_))); refine rj_m 0 rfl rfl rfl rfl (m_storeI (k := i) 0 ty_3 rfl rfl rfl q (by omega)) rfl ?_; rintro _ h_q11_15 ⟨rfl, q11_15⟩; refine rj_end (qs_bn (qs_bn (qs_n (wp_sq ?_)))); refine sq_v rfl (v_add rfl rfl ((by unfold I64; omega))) rfl ?_; refine sq_v rfl (v_move rfl) rfl (sq_end ?_); exact qs_bk (i + 1, h_q11_15) ⟨by (try dsimp only); omega, by (try dsimp only); rw [← hst (by omega), add1, if_neg (by omega), if_pos c49]; exact q11_15⟩ (by simp only; omega) ⟨rfl, rfl, rfl, rfl, rfl, rfl, rfl, trivial⟩ (fun _ s => s)
        · refine wp_sc (wp_sq (sq_v rfl (v_eql rfl rfl) rfl (sq_v rfl (v_assign rfl) rfl (sq_end (qs_n ?_))))); refine wp_cd rfl (fun c66 => ?_) (fun c66 => ?_)
          · refine wp_rj 12 [(0, true), (1, true), (2, true), (3, true), (4, true), (5, true), (6, true), (7, true), (8, true), (9, true), (10, true), (11, true), (12, false)] mixed_ok (by kernel_rfl) (rj_v rfl rfl (v_move rfl) rfl (rj_v rfl rfl (v_move rfl) rfl (rj_v rfl rfl (v_move rfl) rfl (rj_v rfl rfl (v_move rfl) rfl (rj_v rfl rfl (v_idxI Tryz.underlying25 ty_3 rfl rfl r (by omega) (by omega)) rfl (rj_v rfl rfl (v_loadI (k := i) 2 ty_3 rfl rfl r (by omega)) rfl (rj_v rfl rfl (v_move rfl) rfl (rj_v rfl rfl (v_move rfl) rfl (rj_v rfl rfl (v_idxI Tryz.underlying25 ty_3 rfl rfl r' (by omega) (by omega)) rfl ?_))))))))); refine rj_v rfl rfl (v_loadI (k := i) 2 ty_3 rfl rfl r' (by omega)) rfl (rj_v rfl rfl (v_min rfl rfl) rfl (rj_v rfl rfl (v_idxI Tryz.underlying25 ty_3 rfl rfl q.toR (by omega) (by omega)) rfl ?_)); refine rj_m 0 rfl rfl rfl rfl (m_storeI (k := i) 0 ty_3 rfl rfl rfl q (by omega)) rfl ?_; rintro _ h_q13_12 ⟨rfl, q13_12⟩; refine rj_end (qs_bn (qs_bn (qs_n (wp_sq ?_)))); refine sq_v rfl (v_add rfl rfl ((by unfold I64; omega))) rfl ?_; refine sq_v rfl (v_move rfl) rfl (sq_end ?_); exact qs_bk (i + 1, h_q13_12) ⟨by (try dsimp only); omega, by (try dsimp only); rw [← hst (by omega), add1, if_neg (by omega), if_neg (by omega), if_pos c66]; exact q13_12⟩ (by simp only; omega) ⟨rfl, rfl, rfl, rfl, rfl, rfl, rfl, trivial⟩ (fun _ s => s)
          · refine wp_sc (wp_sq (sq_v rfl (v_eql rfl rfl) rfl (sq_v rfl (v_assign rfl) rfl (sq_end (qs_n ?_))))); refine wp_cd rfl (fun c80 => ?_) (fun c80 => ?_)
            · refine wp_rj 12 [(0, true), (1, true), (2, true), (3, true), (4, true), (5, true), (6, true), (7, true), (8, true), (9, true), (10, true), (11, true), (12, false)] mixed_ok (by kernel_rfl) (rj_v rfl rfl (v_move rfl) rfl (rj_v rfl rfl (v_move rfl) rfl (rj_v rfl rfl (v_move rfl) rfl (rj_v rfl rfl (v_move rfl) rfl (rj_v rfl rfl (v_idxI Tryz.underlying25 ty_3 rfl rfl r (by omega) (by omega)) rfl (rj_v rfl rfl (v_loadI (k := i) 2 ty_3 rfl rfl r (by omega)) rfl (rj_v rfl rfl (v_move rfl) rfl (rj_v rfl rfl (v_move rfl) rfl (rj_v rfl rfl (v_idxI Tryz.underlying25 ty_3 rfl rfl r' (by omega) (by omega)) rfl ?_))))))))); refine rj_v rfl rfl (v_loadI (k := i) 2 ty_3 rfl rfl r' (by omega)) rfl (rj_v rfl rfl (v_max rfl rfl) rfl (rj_v rfl rfl (v_idxI Tryz.underlying25 ty_3 rfl rfl q.toR (by omega) (by omega)) rfl ?_)); refine rj_m 0 rfl rfl rfl rfl (m_storeI (k := i) 0 ty_3 rfl rfl rfl q (by omega)) rfl ?_; rintro _ h_q15_12 ⟨rfl, q15_12⟩; refine rj_end (qs_bn (qs_bn (qs_n (wp_sq ?_)))); refine sq_v rfl (v_add rfl rfl ((by unfold I64; omega))) rfl ?_; refine sq_v rfl (v_move rfl) rfl (sq_end ?_); exact qs_bk (i + 1, h_q15_12) ⟨by (try dsimp only); omega, by (try dsimp only); rw [← hst (by omega), add1, if_pos (.inr c80)]; exact q15_12⟩ (by simp only; omega) ⟨rfl, rfl, rfl, rfl, rfl, rfl, rfl, trivial⟩ (fun _ s => s)
            · refine wp_rj 15 [(0, true), (1, true), (2, true), (3, true), (4, true), (5, true), (6, true), (7, true), (8, true), (9, true), (10, true), (11, true), (12, true), (13, true), (14, true), (15, false)] mixed_ok (by kernel_rfl) (rj_v rfl rfl (v_move rfl) rfl (rj_v rfl rfl (v_move rfl) rfl (rj_v rfl rfl (v_move rfl) rfl (rj_v rfl rfl (v_move rfl) rfl (rj_v rfl rfl (v_idxI Tryz.underlying25 ty_3 rfl rfl r (by omega) (by omega)) rfl (rj_v rfl rfl (v_loadI (k := i) 2 ty_3 rfl rfl r (by omega)) rfl (rj_v rfl rfl (v_move rfl) rfl (rj_v rfl rfl (v_move rfl) rfl (rj_v rfl rfl (v_idxI Tryz.underlying25 ty_3 rfl rfl r' (by omega) (by omega)) rfl ?_))))))))); refine rj_v rfl rfl (v_loadI (k := i) 2 ty_3 rfl rfl r' (by omega)) rfl ?_; refine rj_v rfl rfl (v_add rfl rfl ((by unfold I64; omega))) rfl ?_; refine rj_v rfl rfl (v_fieldAddr fd_29_1 ty_3 (by decide) rfl) rfl (rj_v rfl rfl (v_loadB 1 ty_3 rfl rfl rfl) rfl ?_); refine rj_v rfl rfl (v_rem rfl rfl (by have := top_poly hr (kind_rest' hr (by omega) (by omega) (by omega) (by omega) (by omega)); omega)) rfl ?_; refine rj_v rfl rfl (v_idxI Tryz.underlying25 ty_3 rfl rfl q.toR (by omega) (by omega)) rfl ?_; refine rj_m 0 rfl rfl rfl rfl (m_storeI (k := i) 0 ty_3 rfl rfl rfl q (by omega)) rfl ?_; rintro _ h_q6_15 ⟨rfl, q6_15⟩; refine rj_end (qs_bn (qs_bn (qs_n (wp_sq ?_)))); refine sq_v rfl (v_add rfl rfl ((by unfold I64; omega))) rfl ?_; refine sq_v rfl (v_move rfl) rfl (sq_end ?_); exact qs_bk (i + 1, h_q6_15) ⟨by (try dsimp only); omega, by (try dsimp only); rw [← hst (by omega), add1, if_neg (by omega), if_neg (by omega), if_neg (by omega), if_neg (by omega)]; exact q6_15⟩ (by simp only; omega) ⟨rfl, rfl, rfl, rfl, rfl, rfl, rfl, trivial⟩ (fun _ s => s)
  · refine wp_ex (qs_x (qs_x (qs_bx (qs_n (wp_sc (wp_sq (sq_v rfl (v_move rfl) rfl (sq_v rfl (v_assign rfl) rfl (sq_end (qs_n (wp_rt ?_))))))))))); exact qs_ret1 rfl rfl (fin_t 0 (i := 2) rfl rfl rfl (by rw [addTo, List.drop_of_length_le (by simp; omega), List.append_nil, List.take_of_length_le (by rw [addL_len]; omega)] at q; exact q))
/-- Numbers put in the place of others, from lo on. -/
def putL (xs : List Int) (lo : Nat) (ys : List Int) : List Int := xs.take lo ++ ys ++ xs.drop (lo + ys.length)
theorem putL_len {xs ys : List Int} {lo : Nat} (h : lo + ys.length ≤ xs.length) : (putL xs lo ys).length = xs.length := by simp [putL]; omega
theorem putL_set {xs ys : List Int} {lo i : Nat} (h : lo + ys.length ≤ xs.length) (hi : i < ys.length) (a : Int) : (putL xs lo ys).set (lo + i) a = putL xs lo (ys.set i a) := by
  unfold putL
  rw [List.append_assoc, List.set_append_right _ _ (by simp; omega), List.set_append_left _ _ (by simp; omega), List.length_set, List.append_assoc]
  congr 3
  simp; omega
theorem putL_win {xs ys : List Int} {lo : Nat} (h : lo + ys.length ≤ xs.length) : ((putL xs lo ys).drop lo).take ys.length = ys := by
  have : (xs.take lo).length = lo := by simp; omega
  unfold putL
  rw [List.append_assoc, List.drop_append, this, Nat.sub_self, List.drop_zero, List.drop_of_length_le (by omega), List.nil_append, List.take_left]
theorem putL_self {xs : List Int} {lo m : Nat} (h : lo + m ≤ xs.length) : putL xs lo ((xs.drop lo).take m) = xs := by
  unfold putL
  have : ((xs.drop lo).take m).length = m := by simp; omega
  rw [this, List.append_assoc, ← List.drop_drop]; rw [List.take_append_drop, List.take_append_drop]
theorem IntsO.win {xs ys : List Int} {lo hi : Nat} {v : Value} {g : PH} (q : IntsO (putL xs lo ys) v g) (h : lo + ys.length ≤ xs.length) (hh : hi = lo + ys.length) : IntsR ys (subV v lo hi 1) g := by
  subst hh; have := q.toR.sub (lo := lo) (hi := lo + ys.length) (by omega) (by rw [putL_len h]; exact h)
  rwa [Nat.add_sub_cancel_left, putL_win h] at this
set_option maxHeartbeats 1000000 in
theorem ct_i_addInto (k p n : Int) (xs y : List Int) (lo hi : Nat) (sv u : Value) (w : World) (h : PH) (hr : ringL k p n) (hle : PLe h (hp w)) (rz : IntsO xs sv h) (r' : IntsR y u (restP w h)) (hh : hi = lo + y.length) (hxs : hi ≤ xs.length) (hx : InR k p n ((xs.drop lo).take y.length)) (hy : InR k p n y) :
    Calls Tryz.prog 193 [ringV k p n, subV sv lo hi 1, u].toArray w (Ret w h (fun _ h' => IntsO (putL xs lo (addL k p ((xs.drop lo).take y.length) y)) sv h')) := by
  have h1 := hx.len hr; have h2 := hy.len hr; have htr := top_range hr; have hrp := ring_p hr; have hx0 := hx.at hr 0 (by omega); have hy0 := hy.at hr 0 (by omega); have hwl : ((xs.drop lo).take y.length).length = y.length := by simp; omega
  rw [← putL_self (xs := xs) (lo := lo) (m := y.length) (by omega)] at rz
  generalize ((xs.drop lo).take y.length) = x at *
  have rs := rz.win (hi := hi) (by omega) (by omega); have hone : ∀ a q1 h', IntsO ((putL xs lo x).set (lo + 0) a) sv h' → x.length = 1 → add1 k p (x.getD 0 0) (y.getD 0 0) = a → q1 = h' → IntsO (putL xs lo (addL k p x y)) sv h' := fun a q1 h' q hl1 he _ => by
    rw [putL_set (by omega) (by omega)] at q; have e : addL k p x y = x.set 0 a := by
      match x, hl1 with
      | [b], _ => simp [addL, ← he]
    rw [e]; exact q
  refine calls_in Tryz.func193 rfl Tryz.ntmps193 rfl (Sat.start2 hle) ?_; have hle0 := rz.toR.le; have hle1 := r'.le; have hle2 := rs.le; refine wp_sc (wp_sq ?_); refine sq_x rfl (x_box rfl rfl) rfl ?_; rintro _ _ ⟨b3, rfl, rfl⟩; refine sq_end (qs_n (wp_sc (wp_sq (sq_v rfl (v_fieldAddr fd_29_0 ty_3 (by decide) rfl) rfl (sq_v rfl (v_loadB 0 ty_3 rfl rfl rfl) rfl (sq_end (qs_n (wp_bl (wp_sc (wp_sc (wp_sq (sq_v rfl (v_eql rfl rfl) rfl (sq_v rfl (v_assign rfl) rfl (sq_end (qs_n ?_))))))))))))))); refine wp_cSd rfl (fun c30 => ?_) (fun c30 => ?_)
  · refine wp_sk (qs_n (wp_ct rfl (wp_rj 9 [(0, true), (1, true), (2, true), (3, true), (4, true), (5, true), (6, true), (7, true), (8, true), (9, false)] mixed_ok (by kernel_rfl) (rj_v rfl rfl (v_move rfl) rfl (rj_v rfl rfl (v_move rfl) rfl (rj_v rfl rfl (v_idxI Tryz.underlying25 ty_3 rfl rfl rs (by omega) (by omega)) rfl (rj_v rfl rfl (v_loadI (k := 0) 1 ty_3 rfl rfl rs (by omega)) rfl (rj_v rfl rfl (v_move rfl) rfl (rj_v rfl rfl (v_idxI Tryz.underlying25 ty_3 rfl rfl r' (by omega) (by omega)) rfl (rj_v rfl rfl (v_loadI (k := 0) 2 ty_3 rfl rfl r' (by omega)) rfl (rj_v rfl rfl (v_max rfl rfl) rfl ?_))))))))))); refine rj_v rfl rfl (v_idxI Tryz.underlying25 ty_3 rfl rfl rs (by omega) (by omega)) rfl ?_; refine rj_m 1 rfl rfl rfl rfl (m_storeSub 1 ty_3 rfl rfl rfl rz (by omega) (by rw [putL_len (by omega)]; omega)) rfl ?_; rintro _ h_q9 ⟨rfl, q9⟩; refine rj_end (qs_bn ?_); exact qs_ret0 rfl (fin_m 1 (i := 2) rfl rfl rfl (hone _ _ _ q9 (by have := width_1 (k := k) (n := n) (by omega) (by omega); omega) (by simp [add1, c30]) rfl))
  · refine wp_sq (sq_v rfl (v_eql rfl rfl) rfl (sq_v rfl (v_assign rfl) rfl (sq_end (qs_n ?_)))); refine wp_cSd rfl (fun c30 => ?_) (fun c30 => ?_)
    · refine wp_rj 9 [(0, true), (1, true), (2, true), (3, true), (4, true), (5, true), (6, true), (7, true), (8, true), (9, false)] mixed_ok (by kernel_rfl) (rj_v rfl rfl (v_move rfl) rfl (rj_v rfl rfl (v_move rfl) rfl (rj_v rfl rfl (v_idxI Tryz.underlying25 ty_3 rfl rfl rs (by omega) (by omega)) rfl (rj_v rfl rfl (v_loadI (k := 0) 1 ty_3 rfl rfl rs (by omega)) rfl (rj_v rfl rfl (v_move rfl) rfl (rj_v rfl rfl (v_idxI Tryz.underlying25 ty_3 rfl rfl r' (by omega) (by omega)) rfl (rj_v rfl rfl (v_loadI (k := 0) 2 ty_3 rfl rfl r' (by omega)) rfl (rj_v rfl rfl (v_max rfl rfl) rfl (rj_v rfl rfl (v_idxI Tryz.underlying25 ty_3 rfl rfl rs (by omega) (by omega)) rfl ?_))))))))); refine rj_m 1 rfl rfl rfl rfl (m_storeSub 1 ty_3 rfl rfl rfl rz (by omega) (by rw [putL_len (by omega)]; omega)) rfl ?_; rintro _ h_q9 ⟨rfl, q9⟩; refine rj_end (qs_bn ?_); exact qs_ret0 rfl (fin_m 1 (i := 2) rfl rfl rfl (hone _ _ _ q9 (by have := width_1 (k := k) (n := n) (by omega) (by omega); omega) (by simp [add1, c30]) rfl))
    · refine wp_sc (wp_sq (sq_v rfl (v_eql rfl rfl) rfl (sq_v rfl (v_assign rfl) rfl (sq_end (qs_n ?_))))); refine wp_cd rfl (fun c42 => ?_) (fun c42 => ?_)
      · refine wp_rj 12 [(0, true), (1, true), (2, true), (3, true), (4, true), (5, true), (6, true), (7, true), (8, true), (9, true), (10, true), (11, true), (12, false)] mixed_ok (by kernel_rfl) (rj_v rfl rfl (v_move rfl) rfl (rj_v rfl rfl (v_move rfl) rfl (rj_v rfl rfl (v_idxI Tryz.underlying25 ty_3 rfl rfl rs (by omega) (by omega)) rfl (rj_v rfl rfl (v_loadI (k := 0) 1 ty_3 rfl rfl rs (by omega)) rfl (rj_v rfl rfl (v_move rfl) rfl (rj_v rfl rfl (v_idxI Tryz.underlying25 ty_3 rfl rfl r' (by omega) (by omega)) rfl (rj_v rfl rfl (v_loadI (k := 0) 2 ty_3 rfl rfl r' (by omega)) rfl ?_))))))); refine rj_v rfl rfl (v_add rfl rfl ((by unfold I64; omega))) rfl ?_; refine rj_v rfl rfl (v_fieldAddr fd_29_1 ty_3 (by decide) rfl) rfl (rj_v rfl rfl (v_loadB 0 ty_3 rfl rfl rfl) rfl (rj_v rfl rfl (v_min rfl rfl) rfl (rj_v rfl rfl (v_idxI Tryz.underlying25 ty_3 rfl rfl rs (by omega) (by omega)) rfl ?_))); refine rj_m 1 rfl rfl rfl rfl (m_storeSub 1 ty_3 rfl rfl rfl rz (by omega) (by rw [putL_len (by omega)]; omega)) rfl ?_; rintro _ h_q11 ⟨rfl, q11⟩; refine rj_end (qs_bn ?_); exact qs_ret0 rfl (fin_m 1 (i := 2) rfl rfl rfl (hone _ _ _ q11 (by have := width_1 (k := k) (n := n) (by omega) (by omega); omega) (by simp [add1, c42]) rfl))
      · refine wp_sc (wp_sq (sq_v rfl (v_eql rfl rfl) rfl (sq_v rfl (v_assign rfl) rfl (sq_end (qs_n ?_))))); refine wp_cd rfl (fun c56 => ?_) (fun c56 => ?_)
        · refine wp_rj 9 [(0, true), (1, true), (2, true), (3, true), (4, true), (5, true), (6, true), (7, true), (8, true), (9, false)] mixed_ok (by kernel_rfl) (rj_v rfl rfl (v_move rfl) rfl (rj_v rfl rfl (v_move rfl) rfl (rj_v rfl rfl (v_idxI Tryz.underlying25 ty_3 rfl rfl rs (by omega) (by omega)) rfl (rj_v rfl rfl (v_loadI (k := 0) 1 ty_3 rfl rfl rs (by omega)) rfl (rj_v rfl rfl (v_move rfl) rfl (rj_v rfl rfl (v_idxI Tryz.underlying25 ty_3 rfl rfl r' (by omega) (by omega)) rfl (rj_v rfl rfl (v_loadI (k := 0) 2 ty_3 rfl rfl r' (by omega)) rfl (rj_v rfl rfl (v_min rfl rfl) rfl (rj_v rfl rfl (v_idxI Tryz.underlying25 ty_3 rfl rfl rs (by omega) (by omega)) rfl ?_))))))))); refine rj_m 1 rfl rfl rfl rfl (m_storeSub 1 ty_3 rfl rfl rfl rz (by omega) (by rw [putL_len (by omega)]; omega)) rfl ?_; rintro _ h_q13 ⟨rfl, q13⟩; refine rj_end (qs_bn ?_); exact qs_ret0 rfl (fin_m 1 (i := 2) rfl rfl rfl (hone _ _ _ q13 (by have := width_1 (k := k) (n := n) (by omega) (by omega); omega) (by simp [add1, c56]) rfl))
        · refine wp_sc (wp_sq (sq_v rfl (v_eql rfl rfl) rfl (sq_v rfl (v_assign rfl) rfl (sq_end (qs_n ?_))))); refine wp_cd rfl (fun c67 => ?_) (fun c67 => ?_)
          · refine wp_rj 8 [(0, true), (1, true), (2, true), (3, true), (4, true), (5, true), (6, true), (7, true), (8, false)] mixed_ok (by kernel_rfl) (rj_v rfl rfl (v_move rfl) rfl (rj_v rfl rfl (v_idxI Tryz.underlying25 ty_3 rfl rfl rs (by omega) (by omega)) rfl (rj_v rfl rfl (v_loadI (k := 0) 1 ty_3 rfl rfl rs (by omega)) rfl (rj_v rfl rfl (v_move rfl) rfl (rj_v rfl rfl (v_idxI Tryz.underlying25 ty_3 rfl rfl r' (by omega) (by omega)) rfl (rj_v rfl rfl (v_loadI (k := 0) 2 ty_3 rfl rfl r' (by omega)) rfl (rj_v rfl rfl (v_or rfl rfl ⟨by omega, by omega⟩ ⟨by omega, by omega⟩) rfl (rj_v rfl rfl (v_idxI Tryz.underlying25 ty_3 rfl rfl rs (by omega) (by omega)) rfl ?_)))))))); refine rj_m 1 rfl rfl rfl rfl (m_storeSub 1 ty_3 rfl rfl rfl rz (by omega) (by rw [putL_len (by omega)]; omega)) rfl ?_; rintro _ h_q15 ⟨rfl, q15⟩; refine rj_end (qs_bn ?_); exact qs_ret0 rfl (fin_m 1 (i := 2) rfl rfl rfl (hone _ _ _ q15 (by have := width_1 (k := k) (n := n) (by omega) (by omega); omega) (by simp [add1, c67]) rfl))
          · refine wp_sc (wp_sq (sq_v rfl (v_move rfl) rfl (sq_v rfl (v_len Tryz.underlying25 rfl rs.sl) rfl (sq_v rfl (v_move rfl) rfl (sq_end (qs_n (wp_bl ?_))))))); refine wp_lp (σ := Nat × PH) (fun z_ => [(1, subV sv lo hi 1), (2, u), (3, .pointer (some ⟨b3, 0, none⟩)), (10, num x.length), (11, num z_.1)]) (fun z_ => [box b3 [num k, num p, num n] 29, z_.2, (restP w h)]) (fun z_ => z_.1 ≤ x.length ∧ IntsO (putL xs lo (addTo k p x y x z_.1)) sv z_.2) (fun z_ => x.length - z_.1) (0, h) (⟨by (try dsimp only); omega, by (try dsimp only); simpa [addTo] using rz⟩) ⟨rfl, rfl, rfl, rfl, rfl, trivial⟩ (fun _ s => s) ?_; rintro ⟨i, g⟩ ⟨hi', q⟩; dsimp only at hi' q ⊢; have hle_q := q.toR.le; have hl := addTo_len (k := k) (p := p) (y := y) (o := x) hi' rfl; have hst : i < x.length → _ := fun h => addTo_step (k := k) (p := p) (y := y) (o := x) h rfl; have rs' := q.win (hi := hi) (by omega) (by omega); have hgi := addTo_get (k := k) (p := p) (x := x) (y := y) (o := x) (Nat.le_refl i) hi'; refine wp_sc (wp_sq (sq_v rfl (v_lss rfl rfl) rfl (sq_end (qs_n (wp_sc ?_))))); refine wp_cd rfl (fun c12 => ?_) (fun c12 => ?_)
            · refine wp_sk (qs_n (wp_sc (wp_bl (wp_sc (wp_sq (sq_v rfl (v_move rfl) rfl (sq_v rfl (v_assign rfl) rfl (sq_end ?_)))))))); have hxi := hx.at hr i (by omega); have hyi := hy.at hr i (by omega); refine qs_n (wp_rj 15 [(0, true), (1, true), (2, true), (3, true), (4, true), (5, true), (6, true), (7, true), (8, true), (9, true), (10, true), (11, true), (12, true), (13, true), (14, true), (15, false)] mixed_ok (by kernel_rfl) (rj_v rfl rfl (v_move rfl) rfl (rj_v rfl rfl (v_move rfl) rfl (rj_v rfl rfl (v_move rfl) rfl (rj_v rfl rfl (v_move rfl) rfl (rj_v rfl rfl (v_idxI Tryz.underlying25 ty_3 rfl rfl rs' (by omega) (by omega)) rfl (rj_v rfl rfl (v_loadI (k := i) 1 ty_3 rfl rfl rs' (by omega)) rfl (rj_v rfl rfl (v_move rfl) rfl (rj_v rfl rfl (v_move rfl) rfl (rj_v rfl rfl (v_idxI Tryz.underlying25 ty_3 rfl rfl r' (by omega) (by omega)) rfl ?_)))))))))); refine rj_v rfl rfl (v_loadI (k := i) 2 ty_3 rfl rfl r' (by omega)) rfl ?_; refine rj_v rfl rfl (v_add rfl rfl ((by unfold I64; omega))) rfl ?_; refine rj_v rfl rfl (v_fieldAddr fd_29_1 ty_3 (by decide) rfl) rfl (rj_v rfl rfl (v_loadB 0 ty_3 rfl rfl rfl) rfl ?_); refine rj_v rfl rfl (v_rem rfl rfl (by have := top_poly hr (kind_rest' hr (by omega) (by omega) (by omega) (by omega) (by omega)); omega)) rfl ?_; refine rj_v rfl rfl (v_idxI Tryz.underlying25 ty_3 rfl rfl rs' (by omega) (by omega)) rfl ?_; refine rj_m 1 rfl rfl rfl rfl (m_storeSub 1 ty_3 rfl rfl rfl q (by omega) (by rw [putL_len (by omega)]; omega)) rfl ?_; rintro _ h_q5 ⟨rfl, q5⟩; refine rj_end (qs_bn (qs_n (wp_sq ?_))); refine sq_v rfl (v_add rfl rfl ((by unfold I64; omega))) rfl ?_; refine sq_v rfl (v_move rfl) rfl (sq_end ?_); exact qs_bk (i + 1, h_q5) ⟨by (try dsimp only); omega, by (try dsimp only); rw [← hst (by omega), ← putL_set (by omega) (by omega), add1, if_neg (by omega), if_neg (by omega), if_neg (by omega), if_neg (by omega)]; rw [hgi] at q5; exact q5⟩ (by simp only; omega) ⟨rfl, rfl, rfl, rfl, rfl, trivial⟩ (fun _ s => s)
            · refine wp_ex (qs_x (qs_x (qs_bx (qs_bn ?_)))); exact qs_ret0 rfl (fin_m 1 (i := 2) rfl rfl rfl (by rw [addTo, List.drop_of_length_le (by omega), List.append_nil, List.take_of_length_le (by rw [addL_len]; omega)] at q; exact q))
end Go.Proofs.YtmddmahaikineaaGreat
namespace Go.Proofs.YtmddmahaikineaaGreat
set_option maxRecDepth 100000
open Go.RowKit
def mixL (A B : List Int) (k : Nat) : List Int := A.take k ++ B.drop k
theorem mix_len {A B : List Int} {k : Nat} (h : A.length = B.length) (hk : k ≤ A.length) : (mixL A B k).length = A.length := by simp [mixL]; omega
theorem mix_zero (A B : List Int) : mixL A B 0 = B := by simp [mixL]
theorem mix_end {A B : List Int} (h : A.length = B.length) {k : Nat} (hk : A.length ≤ k) : mixL A B k = A := by
  simp only [mixL]; rw [List.take_of_length_le hk, List.drop_of_length_le (by omega), List.append_nil]
theorem mix_set {A B : List Int} {k : Nat} (h : A.length = B.length) (hk : k < A.length) : (mixL A B k).set k (A.getD k 0) = mixL A B (k + 1) := by
  unfold mixL
  apply List.ext_getElem
  · simp; omega
  · intro j h1 h2; rw [List.getElem_set]
    split
    · rename_i e; subst e
      rw [List.getElem_append_left (by simp; omega), List.getElem_take]
      simp [List.getD, hk]
    · rename_i e
      rcases Nat.lt_or_ge j k with hj | hj
      · rw [List.getElem_append_left (by simp; omega), List.getElem_append_left (by simp; omega), List.getElem_take, List.getElem_take]
      · rw [List.getElem_append_right (by simp; omega), List.getElem_append_right (by simp; omega), List.getElem_drop, List.getElem_drop]
        congr 1
        simp only [List.length_take]
        omega
theorem mix_get {A B : List Int} {k j : Nat} (hk : k ≤ A.length) (hj : k ≤ j) : (mixL A B k).getD j 0 = B.getD j 0 := by
  have : (A.take k).length = k := by simp; omega
  simp only [mixL, List.getD]; rw [List.getElem?_append_right (by omega), List.getElem?_drop]
  congr 2
  omega
theorem mix_keep {A B : List Int} {k : Nat} (h : A.length = B.length) (hk : k < A.length) (e : A.getD k 0 = B.getD k 0) : mixL A B (k + 1) = mixL A B k := by
  rw [← mix_set h hk, e, ← mix_get (A := A) (B := B) (Nat.le_of_lt hk) (Nat.le_refl k)]; have := mix_len h (Nat.le_of_lt hk)
  apply List.ext_getElem (by simp)
  intro j h1 h2; rw [List.getElem_set]
  split
  · rename_i e'; subst e'; simp [List.getD, h2]
  · rfl
theorem foldl_mul (ds : List Int) (a : Int) : ds.foldl (· * ·) a = a * prodI ds := by
  induction ds generalizing a with
  | nil => simp [prodI]
  | cons d r ih =>
    simp only [prodI, List.foldl_cons]; rw [ih, ih (1 * d), Int.one_mul, Int.mul_assoc]
theorem prodI_cons (d : Int) (ds : List Int) : prodI (d :: ds) = d * prodI ds := by
  simp only [prodI, List.foldl_cons, Int.one_mul]; exact foldl_mul ds d
theorem prodI_append (a b : List Int) : prodI (a ++ b) = prodI a * prodI b := by
  simp only [prodI, List.foldl_append]; exact foldl_mul b _
theorem drop_cons {xs : List Int} {i : Nat} (h : i < xs.length) : xs.drop i = xs.getD i 0 :: xs.drop (i + 1) := by
  rw [List.drop_eq_getElem_cons h]; simp [List.getD, h]
theorem prodI_one {ds : List Int} (h : ∀ d ∈ ds, 1 ≤ d) : 1 ≤ prodI ds := by
  induction ds with
  | nil => simp [prodI]
  | cons d r ih =>
    rw [prodI_cons]; have h1 := h d (by simp); have h2 := ih (fun x hx => h x (by simp [hx])); have := Int.mul_le_mul h1 h2 (by omega) (by omega)
    omega
theorem prodI_drop {ds : List Int} (h : ∀ d ∈ ds, 1 ≤ d) (i : Nat) : 1 ≤ prodI (ds.drop i) ∧ prodI (ds.drop i) ≤ prodI ds := by
  have e : prodI ds = prodI (ds.take i) * prodI (ds.drop i) := by rw [← prodI_append, List.take_append_drop]
  have h1 := prodI_one (ds := ds.drop i) (fun d hd => h d (List.mem_of_mem_drop hd)); have h2 := prodI_one (ds := ds.take i) (fun d hd => h d (List.mem_of_mem_take hd)); refine ⟨h1, ?_⟩; rw [e]; have := Int.mul_le_mul_of_nonneg_right h2 (show 0 ≤ prodI (ds.drop i) by omega)
  omega
theorem dims_mem {ds : List Int} (h : dimsIn ds) : ∀ d ∈ ds, 1 ≤ d ∧ d ≤ 8 := all_of h
def strOf : List Int → List Int → Int → Int
  | l :: ls, _ :: ds, x => if x = l then prodI ds else strOf ls ds x
  | _, _, _ => 0
def stepsL (labels ls ds : List Int) : List Int := labels.map (strOf ls ds)
theorem stepsL_len (labels ls ds : List Int) : (stepsL labels ls ds).length = labels.length := by simp [stepsL]
theorem stepsL_get {labels ls ds : List Int} {k : Nat} (h : k < labels.length) : (stepsL labels ls ds).getD k 0 = strOf ls ds (labels.getD k 0) := map_getD h
theorem strOf_none {x : Int} : ∀ {ls ds : List Int}, x ∉ ls → strOf ls ds x = 0
  | [], _, _ => rfl
  | _ :: _, [], _ => rfl
  | l :: ls, d :: ds, h => by
    simp only [strOf]; rw [if_neg (fun e => h (by simp [e])), strOf_none (fun hm => h (by simp [hm]))]
theorem strOf_range {ls ds : List Int} (hd : ∀ d ∈ ds, 1 ≤ d) (x : Int) : 0 ≤ strOf ls ds x ∧ strOf ls ds x ≤ prodI ds := by
  induction ls generalizing ds with
  | nil => have := prodI_one hd; simp only [strOf]; omega
  | cons l ls ih =>
    cases ds with
    | nil => simp [strOf, prodI]
    | cons d ds =>
      have h2 := hd d (by simp); have h3 := prodI_one (ds := ds) (fun x hx => hd x (by simp [hx])); have h4 := ih (ds := ds) (fun x hx => hd x (by simp [hx])); have h5 : 1 * prodI ds ≤ d * prodI ds := Int.mul_le_mul_of_nonneg_right h2 (by omega); simp only [strOf, prodI_cons]
      split <;> omega
theorem steps_next {ls ds : List Int} {m : Nat} (h0 : 1 ≤ m) (hm : m ≤ ls.length) (hl : ls.length = ds.length) (x : Int) : strOf (ls.drop (m - 1)) (ds.drop (m - 1)) x = if x = ls.getD (m - 1) 0 then prodI (ds.drop m) else strOf (ls.drop m) (ds.drop m) x := by
  rw [drop_cons (xs := ls) (i := m - 1) (by omega), drop_cons (xs := ds) (i := m - 1) (by omega), strOf, show m - 1 + 1 = m by omega]
theorem prod_next {ds : List Int} {m : Nat} (h0 : 1 ≤ m) (hm : m ≤ ds.length) : prodI (ds.drop (m - 1)) = prodI (ds.drop m) * ds.getD (m - 1) 0 := by
  rw [drop_cons (xs := ds) (i := m - 1) (by omega), prodI_cons, show m - 1 + 1 = m by omega, Int.mul_comm]
theorem steps_end {labels ls ds : List Int} {n : Nat} (h : n = ls.length) : stepsL labels (ls.drop n) (ds.drop n) = List.replicate labels.length 0 := by
  subst h; rw [List.drop_length, stepsL]; simp only [strOf]
  induction labels <;> simp_all [List.replicate_succ]
set_option maxHeartbeats 1000000 in
theorem ct_i_stridesOf (ls ds labels : List Int) (a b c v : Value) (w : World) (r1 : IntsR ls a (hp w)) (r2 : IntsR ds b (hp w)) (r : IntsR labels v (hp w)) (hl : ls.length = ds.length) (hd : ∀ d ∈ ds, 1 ≤ d ∧ d ≤ 8) (hp1 : prodI ds ≤ 1000000000000) (hs : labels.length ≤ 1048576) :
    Calls Tryz.prog 188 [tenV a b c, v].toArray w (Ret w emp (IntsO (stepsL labels ls ds))) := by
  have hd1 : ∀ d ∈ ds, 1 ≤ d := fun d h => (hd d h).1; refine calls_in Tryz.func188 rfl Tryz.ntmps188 rfl (Sat.start w) ?_; have hle0 := r1.le; have hle1 := r2.le; have hle2 := r.le; refine wp_sc (wp_sq ?_); refine sq_x rfl (x_box rfl rfl) rfl ?_; rintro _ _ ⟨b2, rfl, rfl⟩; refine sq_v rfl (v_assign rfl) rfl (sq_end (qs_n (wp_sc (wp_sq (sq_v rfl (v_move rfl) rfl (sq_v rfl (v_len Tryz.underlying25 rfl r.sl) rfl ?_)))))); refine sq_x rfl (x_makeI Tryz.underlying25 ty_3 rfl rfl (by omega) (by omega) (by omega)) rfl ?_; intro v12 h12 r12; refine sq_v rfl (v_assign rfl) rfl (sq_end (qs_n (wp_sc (wp_sq (sq_v rfl (v_assign rfl) rfl (sq_end (qs_n (wp_sc (wp_sc (wp_sq (sq_v rfl (v_fieldAddr fd_39_1 ty_25 (by decide) rfl) rfl (sq_v rfl (v_loadB 1 ty_25 rfl rfl rfl) rfl (sq_v rfl (v_len Tryz.underlying25 rfl r2.sl) rfl ?_))))))))))))); refine sq_v rfl (v_sub rfl rfl ((by unfold I64; omega))) rfl ?_; refine sq_v rfl (v_assign rfl) rfl (sq_end (qs_n (wp_bl ?_))); refine wp_lp (σ := Nat × Int × PH) (fun z_ => [(1, v), (2, .pointer (some ⟨b2, 0, none⟩)), (4, .slice none 0 0), (5, v12), (6, num z_.2.1), (7, num ((z_.1 : Int) - 1))]) (fun z_ => [z_.2.2, box b2 [a, b, c] 39, hp w]) (fun z_ => z_.1 ≤ ds.length ∧ z_.2.1 = prodI (ds.drop z_.1) ∧ IntsO (stepsL labels (ls.drop z_.1) (ds.drop z_.1)) v12 z_.2.2) (fun z_ => z_.1) (ds.length, 1, h12) (⟨by (try dsimp only); omega, by (try dsimp only); simp [prodI], by (try dsimp only); rw [steps_end (by omega)]; simpa using r12⟩) ⟨rfl, rfl, rfl, rfl, rfl, rfl, trivial⟩ (fun _ s => s) ?_; rintro ⟨m, st, g⟩ ⟨hm, hst, q⟩; dsimp only at hm hst q ⊢; have hle_q := q.toR.le; have hpd := prodI_drop hd1 m; have hpd1 := prodI_drop hd1 (m - 1); have hlA := stepsL_len labels (ls.drop (m - 1)) (ds.drop (m - 1)); have hlB := stepsL_len labels (ls.drop m) (ds.drop m); have em : ((m : Int) - 1).toNat = m - 1 := by omega
  refine wp_sc (wp_sc (wp_sq (sq_v rfl (v_move rfl) rfl (sq_v rfl (v_geq rfl rfl) rfl (sq_end (qs_n ?_)))))); refine wp_cd rfl (fun c18 => ?_) (fun c18 => ?_)
  · refine wp_sk (qs_n (wp_sc (wp_bl (wp_sc (wp_sc (wp_sq (sq_v rfl (v_move rfl) rfl (sq_v rfl (v_len Tryz.underlying25 rfl r.sl) rfl (sq_v rfl (v_move rfl) rfl (sq_end (qs_n (wp_bl ?_)))))))))))); refine wp_lp (σ := Nat × PH) (fun z_ => [(1, v), (2, .pointer (some ⟨b2, 0, none⟩)), (4, .slice none 0 0), (5, v12), (6, num st), (7, num ((m : Int) - 1)), (17, num ((m : Int) - 1)), (18, .bool (decide ((0 : Int) ≤ (m : Int) - 1))), (21, v), (22, num labels.length), (23, num z_.1)]) (fun z_ => [z_.2, box b2 [a, b, c] 39, hp w]) (fun z_ => z_.1 ≤ labels.length ∧ IntsO (mixL (stepsL labels (ls.drop (m - 1)) (ds.drop (m - 1))) (stepsL labels (ls.drop m) (ds.drop m)) z_.1) v12 z_.2) (fun z_ => labels.length - z_.1) (0, g) (⟨by (try dsimp only); omega, by (try dsimp only); rw [mix_zero]; exact q⟩) ⟨rfl, rfl, rfl, rfl, rfl, rfl, rfl, rfl, rfl, rfl, rfl, trivial⟩ (fun _ s => s) ?_; rintro ⟨j, g⟩ ⟨hj, q⟩; dsimp only at hj q ⊢; have hle_q := q.toR.le; have hml := mix_len (A := stepsL labels (ls.drop (m - 1)) (ds.drop (m - 1))) (B := stepsL labels (ls.drop m) (ds.drop m)) (k := j) (by omega) (by omega); refine wp_sc (wp_sq (sq_v rfl (v_lss rfl rfl) rfl (sq_end (qs_n (wp_sc ?_))))); refine wp_cd rfl (fun c24 => ?_) (fun c24 => ?_)
    · refine wp_sk (qs_n (wp_sc (wp_bl (wp_sc (wp_sq (sq_v rfl (v_move rfl) rfl (sq_v rfl (v_idxI Tryz.underlying25 ty_3 rfl rfl r (by omega) (by omega)) rfl (sq_v rfl (v_loadI (k := j) 2 ty_3 rfl rfl r (by omega)) rfl (sq_v rfl (v_assign rfl) rfl (sq_v rfl (v_assign rfl) rfl (sq_end ?_))))))))))); have hsj := stepsL_get (labels := labels) (ls := ls.drop (m - 1)) (ds := ds.drop (m - 1)) (k := j) (by omega); have hsj' := stepsL_get (labels := labels) (ls := ls.drop m) (ds := ds.drop m) (k := j) (by omega); rw [steps_next (by omega) (by omega) hl] at hsj; refine qs_n (wp_sc (wp_sq (sq_v rfl (v_move rfl) rfl (sq_v rfl (v_fieldAddr fd_39_0 ty_25 (by decide) rfl) rfl (sq_v rfl (v_loadB 1 ty_25 rfl rfl rfl) rfl (sq_v rfl (v_move rfl) rfl (sq_v rfl (v_idxI Tryz.underlying25 ty_3 rfl rfl r1 (by omega) (by omega)) rfl (sq_v rfl (v_loadI  2 ty_3 rfl rfl r1 (by omega)) rfl (sq_v rfl (v_eql rfl rfl) rfl (sq_end (qs_n ?_))))))))))); refine wp_cd rfl (fun c34 => ?_) (fun c34 => ?_)
      · refine wp_sq (sq_v rfl (v_move rfl) rfl (sq_v rfl (v_move rfl) rfl (sq_v rfl (v_move rfl) rfl (sq_v rfl (v_idxI Tryz.underlying25 ty_3 rfl rfl q.toR (by omega) (by omega)) rfl ?_)))); refine sq_m 0 rfl rfl (m_storeI (k := j) 0 ty_3 rfl rfl rfl q (by omega)) rfl ?_; rintro _ h_q10_4 ⟨rfl, q10_4⟩; refine sq_end (qs_bn (qs_n (wp_sq ?_))); refine sq_v rfl (v_add rfl rfl ((by unfold I64; omega))) rfl ?_; refine sq_v rfl (v_move rfl) rfl (sq_end ?_); exact qs_bk (j + 1, h_q10_4) ⟨by (try dsimp only); omega, by (try dsimp only); rw [em] at c34; rw [if_pos c34, ← hst] at hsj; rw [← mix_set (by omega) (by omega), hsj]; exact q10_4⟩ (by simp only; omega) ⟨rfl, rfl, rfl, rfl, rfl, rfl, rfl, rfl, rfl, rfl, rfl, trivial⟩ (fun _ s => s)
      · refine wp_sk (qs_bn (qs_n (wp_sq ?_))); refine sq_v rfl (v_add rfl rfl ((by unfold I64; omega))) rfl ?_; refine sq_v rfl (v_move rfl) rfl (sq_end ?_); exact qs_bk (j + 1, g) ⟨by (try dsimp only); omega, by (try dsimp only); rw [em] at c34; rw [if_neg c34, ← hsj'] at hsj; rw [mix_keep (by omega) (by omega) hsj]; exact q⟩ (by simp only; omega) ⟨rfl, rfl, rfl, rfl, rfl, rfl, rfl, rfl, rfl, rfl, rfl, trivial⟩ (fun _ s => s)
    · refine wp_ex (qs_x (qs_x (qs_bx (qs_n (wp_sq (sq_v rfl (v_move rfl) rfl (sq_v rfl (v_fieldAddr fd_39_1 ty_25 (by decide) rfl) rfl (sq_v rfl (v_loadB 1 ty_25 rfl rfl rfl) rfl (sq_v rfl (v_move rfl) rfl (sq_v rfl (v_idxI Tryz.underlying25 ty_3 rfl rfl r2 (by omega) (by omega)) rfl (sq_v rfl (v_loadI  2 ty_3 rfl rfl r2 (by omega)) rfl ?_))))))))))); have hpn := prod_next (ds := ds) (m := m) (by omega) hm; refine sq_v rfl (v_mul rfl rfl ((by rw [em, hst, ← hpn]; unfold I64; omega))) rfl ?_; refine sq_v rfl (v_assign rfl) rfl (sq_end (qs_bn (qs_n (wp_sq (sq_v rfl (v_move rfl) rfl ?_))))); refine sq_v rfl (v_sub rfl rfl ((by unfold I64; omega))) rfl ?_; refine sq_v rfl (v_assign rfl) rfl (sq_end ?_); exact qs_bk (m - 1, st * ds.getD ((m : Int) - 1).toNat 0, g) ⟨by (try dsimp only); omega, by (try dsimp only); rw [em, hst, ← hpn], by (try dsimp only); rw [mix_end (by omega) (by omega)] at q; exact q⟩ (by simp only; omega) ⟨rfl, rfl, rfl, rfl, rfl, (by first | rfl | exact ksub rfl (by first | omega | (simp; done) | (simp; omega))), trivial⟩ (fun _ s => s)
  · refine wp_ex (qs_x (qs_x (qs_bx (qs_n (wp_sc (wp_sq (sq_v rfl (v_move rfl) rfl (sq_v rfl (v_assign rfl) rfl (sq_end (qs_n (wp_rt ?_))))))))))); exact qs_ret1 rfl rfl (fin_t 0 (i := 2) rfl rfl rfl (by rw [show m = 0 by omega] at q; exact q))
def dotTo (xs ys : List Int) : Nat → Int
  | 0 => 0
  | m + 1 => dotTo xs ys m + xs.getD m 0 * ys.getD m 0
def dotL (xs ys : List Int) : Int := dotTo xs ys xs.length
theorem dotTo_in {xs ys : List Int} {A B : Int} (ha : ∀ a ∈ xs, 0 ≤ a ∧ a ≤ A) (hb : ∀ b ∈ ys, 0 ≤ b ∧ b ≤ B) : ∀ m, m ≤ xs.length → m ≤ ys.length → 0 ≤ dotTo xs ys m ∧ dotTo xs ys m ≤ m * (A * B)
  | 0, _, _ => by simp [dotTo]
  | m + 1, h1, h2 => by
    have ih := dotTo_in ha hb m (by omega) (by omega); have hm := mul_in (ha _ (mem_getD (show m < xs.length by omega))) (hb _ (mem_getD (show m < ys.length by omega))); simp only [dotTo]; have e : ((m + 1 : Nat) : Int) * (A * B) = m * (A * B) + A * B := by rw [Int.natCast_add, Int.add_mul]; simp
    rw [e]
    omega
theorem dotTo_set {xs ys : List Int} {k : Nat} (hk : k < xs.length) (a : Int) : ∀ m, dotTo (xs.set k a) ys m = dotTo xs ys m + (if k < m then (a - xs.getD k 0) * ys.getD k 0 else 0)
  | 0 => by simp [dotTo]
  | m + 1 => by
    have ih := dotTo_set (ys := ys) hk a m; simp only [dotTo, ih]
    by_cases e : m = k
    · subst e; have : (xs.set m a).getD m 0 = a := by simp [List.getD, hk]
      rw [this, if_neg (by omega), if_pos (by omega), Int.sub_mul]
      omega
    · have : (xs.set k a).getD m 0 = xs.getD m 0 := by simp only [List.getD]; rw [List.getElem?_set_ne (by omega)]
      rw [this]
      by_cases h : k < m
      · rw [if_pos h, if_pos (by omega)]; omega
      · rw [if_neg h, if_neg (by omega)]; omega
theorem dotTo_zero {ys : List Int} {n : Nat} : ∀ m, dotTo (List.replicate n 0) ys m = 0
  | 0 => rfl
  | m + 1 => by rw [dotTo, dotTo_zero, rep_getD]; omega
theorem ct_i_dotOf (xs ys : List Int) (v u : Value) (w : World) (r : IntsR xs v (hp w)) (r' : IntsR ys u (hp w)) (ha : ∀ a ∈ xs, 0 ≤ a ∧ a ≤ 1048576) (hb : ∀ b ∈ ys, 0 ≤ b ∧ b ≤ 1048576) (hl : xs.length ≤ ys.length) (hs : xs.length ≤ 100000) :
    Calls Tryz.prog 192 [v, u].toArray w (RetV w (num (dotL xs ys))) := by
  refine calls_in Tryz.func192 rfl Tryz.ntmps192 rfl (Sat.start w) ?_; have hle0 := r.le; have hle1 := r'.le; refine wp_sc (wp_sq (sq_v rfl (v_assign rfl) rfl (sq_end (qs_n (wp_sc (wp_sq (sq_v rfl (v_assign rfl) rfl (sq_end (qs_n (wp_sc (wp_sc (wp_sq (sq_v rfl (v_move rfl) rfl (sq_v rfl (v_len Tryz.underlying25 rfl r.sl) rfl (sq_v rfl (v_move rfl) rfl (sq_end (qs_n (wp_bl (wp_lp (σ := Nat) (fun z_ => [(0, v), (1, u), (4, num 0), (5, num (dotTo xs ys z_)), (8, num xs.length), (9, num z_)]) (fun z_ => [hp w]) (fun z_ => z_ ≤ xs.length) (fun z_ => xs.length - z_) 0 (by omega) ⟨rfl, rfl, rfl, rfl, rfl, rfl, trivial⟩ (fun _ s => s) ?_))))))))))))))))))); rintro i hi; have hdi := dotTo_in ha hb i hi (by omega); refine wp_sc (wp_sq (sq_v rfl (v_lss rfl rfl) rfl (sq_end (qs_n (wp_sc ?_))))); refine wp_cd rfl (fun c10 => ?_) (fun c10 => ?_)
  · refine wp_sk (qs_n (wp_sc (wp_bl (wp_sc (wp_sq (sq_v rfl (v_move rfl) rfl (sq_v rfl (v_assign rfl) rfl (sq_end (qs_n (wp_rj 12 [(0, true), (1, true), (2, true), (3, true), (4, true), (5, true), (6, true), (7, true), (8, true), (9, true), (10, true), (11, true)] mixed_ok (by kernel_rfl) (rj_v rfl rfl (v_move rfl) rfl (rj_v rfl rfl (v_move rfl) rfl (rj_v rfl rfl (v_move rfl) rfl (rj_v rfl rfl (v_idxI Tryz.underlying25 ty_3 rfl rfl r (by omega) (by omega)) rfl (rj_v rfl rfl (v_loadI (k := i) 0 ty_3 rfl rfl r (by omega)) rfl (rj_v rfl rfl (v_move rfl) rfl (rj_v rfl rfl (v_move rfl) rfl ?_))))))))))))))))); refine rj_v rfl rfl (v_idxI Tryz.underlying25 ty_3 rfl rfl r' (by omega) (by omega)) rfl (rj_v rfl rfl (v_loadI (k := i) 0 ty_3 rfl rfl r' (by omega)) rfl ?_); have hm := mul_in6 (ha _ (mem_getD (show i < xs.length by omega))) (hb _ (mem_getD (show i < ys.length by omega))) (by omega) (by omega); refine rj_v rfl rfl (v_mul rfl rfl ((by unfold I64; omega))) rfl ?_; refine rj_v rfl rfl (v_add rfl rfl ((by unfold I64; omega))) rfl ?_; refine rj_v rfl rfl (v_assign rfl) rfl (rj_end (qs_bn (qs_n (wp_sq ?_)))); refine sq_v rfl (v_add rfl rfl ((by unfold I64; omega))) rfl ?_; refine sq_v rfl (v_move rfl) rfl (sq_end ?_); exact qs_bk (i + 1) (by omega) (by omega) ⟨rfl, rfl, rfl, rfl, rfl, rfl, trivial⟩ (fun _ s => s)
  · refine wp_ex (qs_x (qs_x (qs_bx (qs_n (wp_sc (wp_sq (sq_v rfl (v_move rfl) rfl (sq_v rfl (v_assign rfl) rfl (sq_end (qs_n (wp_rt ?_))))))))))); exact qs_ret1 rfl rfl (fin_q (i := 0) rfl (by rw [dotL, show xs.length = i by omega]))
def offL : List Int → List Int → Int
  | _ :: ds, i :: is => i * prodI ds + offL ds is
  | _, _ => 0
def hornTo (ds is : List Int) : Nat → Int
  | 0 => 0
  | m + 1 => hornTo ds is m * ds.getD m 0 + is.getD m 0
theorem horn_off : ∀ (ds is : List Int), ds.length = is.length → ∀ m, m ≤ ds.length → offL ds is = hornTo ds is m * prodI (ds.drop m) + offL (ds.drop m) (is.drop m) := by
  intro ds is hl m
  induction m with
  | zero => intro _; simp [hornTo]
  | succ m ih =>
    intro hm; rw [ih (by omega), drop_cons (xs := ds) (i := m) (by omega), drop_cons (xs := is) (i := m) (by omega), prodI_cons, offL, hornTo, Int.add_mul, Int.mul_assoc]
    omega
theorem offL_end {ds is : List Int} (hl : ds.length = is.length) : offL ds is = hornTo ds is ds.length := by
  rw [horn_off ds is hl ds.length (Nat.le_refl _), List.drop_length]
  simp [prodI, offL]
def idxIn (ds is : List Int) : Prop := is.length = ds.length ∧ ∀ j, j < ds.length → 0 ≤ is.getD j 0 ∧ is.getD j 0 < ds.getD j 0
theorem offL_in : ∀ {ds is : List Int}, (∀ d ∈ ds, 1 ≤ d) → idxIn ds is → 0 ≤ offL ds is ∧ offL ds is ≤ prodI ds - 1
  | [], [], _, _ => by simp [offL, prodI]
  | [], i :: is, _, h => by have := h.1; simp at this
  | d :: ds, [], _, h => by have := h.1; simp at this
  | d :: ds, i :: is, hd, h => by
    have h0 := h.2 0 (by simp); have ih := offL_in (ds := ds) (is := is) (fun x hx => hd x (by simp [hx])) ⟨by have := h.1; simpa using this, fun j hj => by have := h.2 (j + 1) (by simpa using hj); simpa [List.getD] using this⟩; have hp1 := prodI_one (ds := ds) (fun x hx => hd x (by simp [hx])); simp only [List.getD, List.getElem?_cons_zero, Option.getD_some] at h0; have e1 : i * prodI ds ≤ (d - 1) * prodI ds := Int.mul_le_mul_of_nonneg_right (by omega) (by omega); have e2 : 0 ≤ i * prodI ds := Int.mul_nonneg h0.1 (by omega); rw [Int.sub_mul, Int.one_mul] at e1; simp only [offL, prodI_cons]
    omega
theorem take_idx {ds is : List Int} (h : idxIn ds is) (m : Nat) : idxIn (ds.take m) (is.take m) := by
  refine ⟨by simp [h.1], fun j hj => ?_⟩; have hj' : j < m ∧ j < ds.length := by simp at hj; omega
  have := h.2 j hj'.2
  simpa [List.getD, List.getElem?_take, hj'.1] using this
theorem horn_take (ds is : List Int) : ∀ m k, k ≤ m → hornTo (ds.take m) (is.take m) k = hornTo ds is k := by
  intro m k
  induction k with
  | zero => intro _; rfl
  | succ k ih =>
    intro hk; rw [hornTo, hornTo, ih (by omega)]; have : k < m := by omega
    simp [List.getD, this]
theorem horn_in {ds is : List Int} (hd : ∀ d ∈ ds, 1 ≤ d) (h : idxIn ds is) {m : Nat} (hm : m ≤ ds.length) : 0 ≤ hornTo ds is m ∧ hornTo ds is m ≤ prodI (ds.take m) - 1 := by
  have h1 := offL_in (ds := ds.take m) (is := is.take m) (fun d hx => hd d (List.mem_of_mem_take hx)) (take_idx h m); have h2 := h.1; rw [offL_end (by simp [h2]), List.length_take, Nat.min_eq_left hm, horn_take _ _ _ _ (Nat.le_refl _)] at h1; exact h1
theorem ct_s_l05Offset (ds is : List Int) (v u : Value) (w : World) (r : IntsR ds v (hp w)) (r' : IntsR is u (hp w)) (hd : ∀ d ∈ ds, 1 ≤ d ∧ d ≤ 8) (hi : idxIn ds is) (hp1 : prodI ds ≤ 1000000000000) :
    Calls Tryz.prog 175 [v, u].toArray w (RetV w (num (offL ds is))) := by
  have hd1 : ∀ d ∈ ds, 1 ≤ d := fun d h => (hd d h).1; have hil := hi.1; refine calls_in Tryz.func175 rfl Tryz.ntmps175 rfl (Sat.start w) ?_; have hle0 := r.le; have hle1 := r'.le; refine wp_sc (wp_sq (sq_v rfl (v_assign rfl) rfl (sq_end (qs_n (wp_sc (wp_sq (sq_v rfl (v_assign rfl) rfl (sq_end (qs_n (wp_sc (wp_sc (wp_sq (sq_v rfl (v_move rfl) rfl (sq_v rfl (v_len Tryz.underlying25 rfl r.sl) rfl (sq_v rfl (v_move rfl) rfl (sq_end (qs_n (wp_bl (wp_lp (σ := Nat) (fun z_ => [(1, u), (4, num 0), (5, num (hornTo ds is z_)), (8, v), (9, num ds.length), (10, num z_)]) (fun z_ => [hp w]) (fun z_ => z_ ≤ ds.length) (fun z_ => ds.length - z_) 0 (by omega) ⟨rfl, rfl, rfl, rfl, rfl, rfl, trivial⟩ (fun _ s => s) ?_))))))))))))))))))); rintro i hn; refine wp_sc (wp_sq (sq_v rfl (v_lss rfl rfl) rfl (sq_end (qs_n (wp_sc ?_))))); refine wp_cd rfl (fun c11 => ?_) (fun c11 => ?_)
  · refine wp_sk (qs_n (wp_sc (wp_bl (wp_sc (wp_sq (sq_v rfl (v_move rfl) rfl (sq_v rfl (v_idxI Tryz.underlying25 ty_3 rfl rfl r (by omega) (by omega)) rfl (sq_v rfl (v_loadI (k := i) 0 ty_3 rfl rfl r (by omega)) rfl (sq_v rfl (v_assign rfl) rfl (sq_v rfl (v_assign rfl) rfl (sq_end ?_))))))))))); have h1 := horn_in hd1 hi (m := i) hn; have h2 := horn_in hd1 hi (m := i + 1) (by omega); have h3 := hi.2 i (by omega); have hpt := prodI_mono (fun j hj => hd1 _ (mem_getD hj)) (i + 1) ds.length (by omega) (by omega); rw [List.take_length] at hpt; have e : hornTo ds is (i + 1) = hornTo ds is i * ds.getD i 0 + is.getD i 0 := rfl; have hmn := Int.mul_nonneg h1.1 (show 0 ≤ ds.getD i 0 by omega); refine qs_n (wp_sq (sq_v rfl (v_move rfl) rfl (sq_v rfl (v_move rfl) rfl ?_))); refine sq_v rfl (v_mul rfl rfl ((by unfold I64; omega))) rfl ?_; refine sq_v rfl (v_move rfl) rfl (sq_v rfl (v_move rfl) rfl (sq_v rfl (v_idxI Tryz.underlying25 ty_3 rfl rfl r' (by omega) (by omega)) rfl (sq_v rfl (v_loadI (k := i) 0 ty_3 rfl rfl r' (by omega)) rfl ?_))); refine sq_v rfl (v_add rfl rfl ((by unfold I64; omega))) rfl ?_; refine sq_v rfl (v_assign rfl) rfl (sq_end (qs_bn (qs_n (wp_sq ?_)))); refine sq_v rfl (v_add rfl rfl ((by unfold I64; omega))) rfl ?_; refine sq_v rfl (v_move rfl) rfl (sq_end ?_); exact qs_bk (i + 1) (by omega) (by omega) ⟨rfl, rfl, rfl, rfl, rfl, rfl, trivial⟩ (fun _ s => s)
  · refine wp_ex (qs_x (qs_x (qs_bx (qs_n (wp_sc (wp_sq (sq_v rfl (v_move rfl) rfl (sq_v rfl (v_assign rfl) rfl (sq_end (qs_n (wp_rt ?_))))))))))); exact qs_ret1 rfl rfl (fin_q (i := 0) rfl (by rw [offL_end (by omega), show ds.length = i by omega]))
def idxAt (labels values ls : List Int) : List Int := ls.map fun x => values.getD (findI labels x).toNat 0
theorem find_at' {labels : List Int} (hn : labels.Nodup) {k : Nat} (hk : k < labels.length) : findI labels (labels.getD k 0) = k := by
  refine idx_first (fun j hj e => ?_) hk rfl; have h1 : j < labels.length := by omega
  simp only [List.getD, List.getElem?_eq_getElem h1, List.getElem?_eq_getElem hk, Option.getD_some] at e; have := (List.getElem_inj hn).1 e
  omega
theorem steps_cons {labels ls ds : List Int} {l d : Int} (hn : labels.Nodup) (hl : l ∈ labels) : stepsL labels (l :: ls) (d :: ds) = (stepsL labels ls ds).set (findI labels l).toNat (prodI ds) := by
  have hf := findI_get hl
  apply ext_getD
  · simp [stepsL_len]
  · intro j hj; rw [stepsL_len] at hj; rw [stepsL_get hj, strOf]
    by_cases e : j = (findI labels l).toNat
    · subst e; rw [if_pos hf.2]
      simp [List.getD, stepsL_len, hf.1]
    · have hne : labels.getD j 0 ≠ l := fun e' => e (by rw [← e', find_at' hn hj]; simp); rw [if_neg hne, ← stepsL_get hj]; simp only [List.getD]; rw [List.getElem?_set_ne (Ne.symm e)]
theorem dot_off {labels values : List Int} (hn : labels.Nodup) : ∀ {ls ds : List Int}, ls.length = ds.length → ls.Nodup → (∀ l ∈ ls, l ∈ labels) → dotTo (stepsL labels ls ds) values labels.length = offL ds (idxAt labels values ls)
  | [], ds, _, _, _ => by
    have e : stepsL labels [] ds = List.replicate labels.length 0 := by
      have := steps_end (labels := labels) (ls := []) (ds := ds) (n := 0) rfl
      simpa using this
    rw [e, dotTo_zero]
    cases ds <;> rfl
  | l :: ls, [], h, _, _ => by simp at h
  | l :: ls, d :: ds, h, hd, hm => by
    have hl := hm l (by simp); have hx : l ∉ ls := (List.nodup_cons.1 hd).1; have hf := findI_get hl; have ih := dot_off (values := values) hn (ls := ls) (ds := ds) (by simpa using h) (List.nodup_cons.1 hd).2 (fun x hx => hm x (by simp [hx])); rw [steps_cons hn hl, dotTo_set (by rw [stepsL_len]; exact hf.1), if_pos hf.1, ih, stepsL_get hf.1, hf.2, strOf_none hx]; simp only [idxAt, List.map_cons, offL, Int.sub_zero]; rw [Int.mul_comm (prodI ds)]
    omega
end Go.Proofs.YtmddmahaikineaaGreat
