/-
  Parts of the proof of FnExactForestMarginals: laws of heaps, contracts of functions.
  Conditions: none.
-/
import Derived.Test.YtdkgaejmgnojhaaQForestMarginals3
namespace Go.Proofs.Ytdkgaejmgnojhaa
set_option maxRecDepth 100000
open Go.RowKit

theorem szV_add {l a b : Int} (h : ¬ szV l a < 0) : szV (szV l a) b = szV l (a + b) := by
  rw [(szV_ge h).1]
  unfold szV
  by_cases h1 : l - a - b < 0
  · rw [if_pos h1, if_pos (by omega)]
  · rw [if_neg h1, if_neg (by omega)]; omega
theorem szV_neg {l a b : Int} (h : szV l a < 0) (hb : 0 ≤ b) : szV l (a + b) = -1 := by
  have := szV_lt h
  unfold szV
  rw [if_pos (by omega)]
def tenSize (t : Ten) : Int := t.l.length + t.d.length + t.x.length
theorem tenSize_nn (t : Ten) : 0 ≤ tenSize t := by unfold tenSize; omega
def tensSize : List Ten → Int
  | [] => 0
  | t :: r => tenSize t + tensSize r
theorem tensSize_nn : ∀ ts, 0 ≤ tensSize ts
  | [] => by simp [tensSize]
  | t :: r => by have := tenSize_nn t; have := tensSize_nn r; simp only [tensSize]; omega
theorem tensSize_append : ∀ a b, tensSize (a ++ b) = tensSize a + tensSize b
  | [], b => by simp [tensSize]
  | t :: r, b => by simp only [List.cons_append, tensSize, tensSize_append r b]; omega
theorem tensSize_take (ts : List Ten) (i : Nat) : tensSize ts = tensSize (ts.take i) + tensSize (ts.drop i) := by
  rw [← tensSize_append, List.take_append_drop]
theorem take_ten {ts : List Ten} {i : Nat} {t : Ten} (h : ts[i]? = some t) : ts.take (i + 1) = ts.take i ++ [t] := by
  obtain ⟨hi, e⟩ := List.getElem?_eq_some_iff.1 h; rw [List.take_succ_eq_append_getElem hi, e]
theorem tensSize_step {ts : List Ten} {i : Nat} {t : Ten} (h : ts[i]? = some t) : tensSize (ts.take (i + 1)) = tensSize (ts.take i) + tenSize t := by
  rw [take_ten h, tensSize_append]
  simp [tensSize]
theorem ct_l_szTensor (t : Ten) (a b c : Value) (left : Int) (w : World) (r1 : IntsR t.l a (hp w)) (r2 : IntsR t.d b (hp w)) (r3 : IntsR t.x c (hp w)) (hl : 0 ≤ left ∧ left ≤ 1048576) :
    Calls Try.prog 41 [tenV a b c, num left].toArray w (RetV w (num (szV left (tenSize t)))) := by
  refine calls_in Try.func41 rfl Try.ntmps41 rfl (Sat.start w) (wp_sc (wp_sq ?_)); refine sq_x rfl (x_box rfl rfl) rfl ?_; rintro _ _ ⟨b2, rfl, rfl⟩; refine sq_v rfl (v_assign rfl) rfl (sq_end (qs_n (wp_sc (wp_sq (sq_v rfl (v_fieldAddr fd_66_0 ty_25 (by decide) rfl) rfl (sq_v rfl (v_loadB 0 ty_25 rfl rfl rfl) rfl (sq_v rfl (v_move rfl) rfl (sq_u rfl (x_callv rfl en_14 (fun w s => ct_l_szIntS _ _ _ w (r1.mono (s.get 1 rfl)) hl)) rfl (sq_v rfl (v_assign rfl) rfl (sq_end (qs_n (wp_sc (wp_sc (wp_sq (sq_v rfl (v_move rfl) rfl (sq_v rfl (v_lss rfl rfl) rfl (sq_end (qs_n ?_)))))))))))))))))); refine wp_cd rfl (fun c10 => ?_) (fun c10 => ?_)
  · refine wp_sc (wp_sq (sq_v rfl (v_assign rfl) rfl (sq_end (qs_n (wp_rt (qs_r ?_)))))); exact qs_ret1 rfl rfl (fin_q (i := 1) rfl (by rw [tenSize, Int.add_assoc, szV_neg c10 (by omega)]))
  · refine wp_sk (qs_n (wp_sc (wp_sq (sq_v rfl (v_fieldAddr fd_66_1 ty_25 (by decide) rfl) rfl (sq_v rfl (v_loadB 0 ty_25 rfl rfl rfl) rfl (sq_v rfl (v_move rfl) rfl ?_)))))); have h1 := szV_ge c10; refine sq_u rfl (x_callv rfl en_14 (fun w s => ct_l_szIntS _ _ _ w (r2.mono (s.get 1 rfl)) (by omega))) rfl (sq_v rfl (v_assign rfl) rfl (sq_end (qs_n (wp_sc (wp_sc (wp_sq (sq_v rfl (v_move rfl) rfl (sq_v rfl (v_lss rfl rfl) rfl (sq_end (qs_n ?_)))))))))); refine wp_cd rfl (fun c16 => ?_) (fun c16 => ?_)
    · refine wp_sc (wp_sq (sq_v rfl (v_assign rfl) rfl (sq_end (qs_n (wp_rt (qs_r ?_)))))); exact qs_ret1 rfl rfl (fin_q (i := 1) rfl (by rw [szV_add c10] at c16; rw [tenSize, szV_neg c16 (by omega)]))
    · refine wp_sk (qs_n (wp_sc (wp_sq (sq_v rfl (v_fieldAddr fd_66_2 ty_25 (by decide) rfl) rfl (sq_v rfl (v_loadB 0 ty_25 rfl rfl rfl) rfl (sq_v rfl (v_move rfl) rfl ?_)))))); have h2 := szV_ge c16; refine sq_u rfl (x_callv rfl en_14 (fun w s => ct_l_szIntS _ _ _ w (r3.mono (s.get 1 rfl)) (by omega))) rfl (sq_v rfl (v_assign rfl) rfl (sq_end (qs_n (wp_sc (wp_sc (wp_sq (sq_v rfl (v_move rfl) rfl (sq_v rfl (v_lss rfl rfl) rfl (sq_end (qs_n ?_)))))))))); refine wp_cd rfl (fun c22 => ?_) (fun c22 => ?_)
      · refine wp_sc (wp_sq (sq_v rfl (v_assign rfl) rfl (sq_end (qs_n (wp_rt (qs_r ?_)))))); exact qs_ret1 rfl rfl (fin_q (i := 1) rfl (by rw [szV_add c16, szV_add c10] at c22; rw [tenSize, Int.add_assoc]; have := szV_lt c22; rw [szV, if_pos this]))
      · refine wp_sk (qs_n (wp_sc (wp_sq (sq_v rfl (v_move rfl) rfl (sq_v rfl (v_assign rfl) rfl (sq_end (qs_n (wp_rt ?_)))))))); exact qs_ret1 rfl rfl (fin_q (i := 1) rfl (by rw [szV_add c16, szV_add c10, tenSize, Int.add_assoc]))
theorem ct_l_szTensorS (ts : List Ten) (v : Value) (left : Int) (w : World) (r : TensR ts v (hp w)) (hl : 0 ≤ left ∧ left ≤ 1048576) :
    Calls Try.prog 13 [v, num left].toArray w (RetV w (num (szV left (ts.length + tensSize ts)))) := by
  have hx := r.le; obtain ⟨cells, rr, hc⟩ := r.at; refine calls_in Try.func13 rfl Try.ntmps13 rfl (Sat.start w) (wp_sc (wp_sq (sq_v rfl (v_assign rfl) rfl (sq_end (qs_n (wp_sc (wp_sq (sq_v rfl (v_move rfl) rfl (sq_v rfl (v_move rfl) rfl (sq_v rfl (v_len Try.underlying24 rfl r.sl) rfl ?_)))))))))); refine sq_v rfl (v_sub rfl rfl ((by unfold I64; omega))) rfl ?_; refine sq_v rfl (v_assign rfl) rfl (sq_end (qs_n (wp_sc (wp_sc (wp_sq (sq_v rfl (v_move rfl) rfl (sq_v rfl (v_lss rfl rfl) rfl (sq_end (qs_n ?_))))))))); refine wp_cd rfl (fun c11 => ?_) (fun c11 => ?_)
  · refine wp_sc (wp_sq (sq_v rfl (v_assign rfl) rfl (sq_end (qs_n (wp_rt (qs_r ?_)))))); exact qs_ret1 rfl rfl (fin_q (i := 0) rfl (by have := tensSize_nn ts; rw [szV, if_pos (by omega)]))
  · refine wp_sk (qs_n (wp_sc (wp_sc (wp_sq (sq_v rfl (v_assign rfl) rfl (sq_end (qs_n (wp_bl ?_)))))))); refine wp_lp (fun s : Nat × Int => [(0, v), (1, num s.2), (5, num s.1)]) (fun _ => [hp w]) (fun s => s.1 ≤ ts.length ∧ s.2 = left - ts.length - tensSize (ts.take s.1) ∧ 0 ≤ s.2) (fun s => ts.length - s.1) (0, left - ts.length) ⟨by omega, by simp [tensSize], by simp only; omega⟩ ⟨rfl, rfl, rfl, trivial⟩ (fun _ s => s) ?_; rintro ⟨i, q⟩ ⟨hi, hq, hq0⟩; dsimp only at hi hq hq0 ⊢; refine wp_sc (wp_sc (wp_sq (sq_v rfl (v_move rfl) rfl (sq_v rfl (v_move rfl) rfl (sq_v rfl (v_len Try.underlying24 rfl r.sl) rfl (sq_v rfl (v_lss rfl rfl) rfl (sq_end (qs_n ?_)))))))); refine wp_cd rfl (fun c15 => ?_) (fun c15 => ?_)
    · refine wp_sk (qs_n (wp_sc (wp_bl (wp_sc (wp_sq (sq_v rfl (v_move rfl) rfl (sq_v rfl (v_move rfl) rfl ?_))))))); obtain ⟨t, a, b, c, ht, hcs, r1, r2, r3⟩ := hc i (by omega); have hst := tensSize_step ht; have hnn := tensSize_nn (ts.take i); have htk := tensSize_take ts (i + 1); have hnd := tensSize_nn (ts.drop (i + 1)); have htn := tenSize_nn t; refine sq_v rfl (v_indexAddr Try.underlying24 ty_66 rfl rfl rr (by decide) (by omega) (by omega)) rfl ?_; refine sq_v rfl (v_loadNE 0 ty_66 rfl rfl rr (by have := rr.1; omega) rfl hcs) rfl ?_; refine sq_v rfl (v_move rfl) rfl (sq_u rfl (x_callv rfl en_41 (fun w s => ct_l_szTensor t _ _ _ _ w (r1.mono (s.get 0 rfl)) (r2.mono (s.get 0 rfl)) (r3.mono (s.get 0 rfl)) (by omega))) rfl (sq_v rfl (v_assign rfl) rfl (sq_end (qs_n (wp_sc (wp_sq (sq_v rfl (v_move rfl) rfl (sq_v rfl (v_lss rfl rfl) rfl (sq_end (qs_n ?_)))))))))); refine wp_cd rfl (fun c25 => ?_) (fun c25 => ?_)
      · refine wp_sc (wp_sq (sq_v rfl (v_assign rfl) rfl (sq_end (qs_n (wp_rt (qs_br (qs_r (qs_r (qs_br (qs_r ?_)))))))))); exact qs_ret1 rfl rfl (fin_q (i := 0) rfl (by have := szV_lt c25; rw [szV, if_pos (by omega)]))
      · refine wp_sk (qs_bn (qs_n (wp_sq (sq_v rfl (v_move rfl) rfl ?_)))); refine sq_v rfl (v_add rfl rfl ((by unfold I64; omega))) rfl ?_; refine sq_v rfl (v_assign rfl) rfl (sq_end ?_); have hge := szV_ge c25; exact qs_bk (i + 1, szV q (tenSize t)) ⟨by simp only; omega, by simp only; omega, by simp only; omega⟩ (by simp only; omega) ⟨rfl, rfl, rfl, trivial⟩ (fun _ s => s)
    · refine wp_ex (qs_x (qs_x (qs_bx (qs_n (wp_sc (wp_sq (sq_v rfl (v_move rfl) rfl (sq_v rfl (v_assign rfl) rfl (sq_end (qs_n (wp_rt ?_))))))))))); exact qs_ret1 rfl rfl (fin_q (i := 0) rfl (by rw [List.take_of_length_le (by omega)] at hq; rw [szV, if_neg (by omega)]; congr 1; omega))
theorem ct_l_szNetwork (k p n : Int) (ts : List Ten) (op : List Int) (vt vo : Value) (left : Int) (w : World) (r : TensR ts vt (hp w)) (r' : IntsR op vo (hp w)) (hl : 0 ≤ left ∧ left ≤ 1048576) :
    Calls Try.prog 4 [netV k p n vt vo, num left].toArray w (RetV w (num (szV left (ts.length + tensSize ts + op.length)))) := by
  refine calls_in Try.func4 rfl Try.ntmps4 rfl (Sat.start w) (wp_sc (wp_sq ?_)); refine sq_x rfl (x_box rfl rfl) rfl ?_; rintro _ _ ⟨b2, rfl, rfl⟩; refine sq_v rfl (v_assign rfl) rfl (sq_end (qs_n (wp_sc (wp_sq (sq_v rfl (v_fieldAddr fd_27_1 ty_24 (by decide) rfl) rfl (sq_v rfl (v_loadB 0 ty_24 rfl rfl rfl) rfl (sq_v rfl (v_move rfl) rfl (sq_u rfl (x_callv rfl en_13 (fun w s => ct_l_szTensorS _ _ _ w (r.mono (s.get 1 rfl)) hl)) rfl (sq_v rfl (v_assign rfl) rfl (sq_end (qs_n (wp_sc (wp_sc (wp_sq (sq_v rfl (v_move rfl) rfl (sq_v rfl (v_lss rfl rfl) rfl (sq_end (qs_n ?_)))))))))))))))))); refine wp_cd rfl (fun c10 => ?_) (fun c10 => ?_)
  · refine wp_sc (wp_sq (sq_v rfl (v_assign rfl) rfl (sq_end (qs_n (wp_rt (qs_r ?_)))))); exact qs_ret1 rfl rfl (fin_q (i := 1) rfl (by rw [szV_neg c10 (by omega)]))
  · refine wp_sk (qs_n (wp_sc (wp_sq (sq_v rfl (v_fieldAddr fd_27_2 ty_25 (by decide) rfl) rfl (sq_v rfl (v_loadB 0 ty_25 rfl rfl rfl) rfl (sq_v rfl (v_move rfl) rfl ?_)))))); have h1 := szV_ge c10; have hnn := tensSize_nn ts; refine sq_u rfl (x_callv rfl en_14 (fun w s => ct_l_szIntS _ _ _ w (r'.mono (s.get 1 rfl)) (by omega))) rfl (sq_v rfl (v_assign rfl) rfl (sq_end (qs_n (wp_sc (wp_sc (wp_sq (sq_v rfl (v_move rfl) rfl (sq_v rfl (v_lss rfl rfl) rfl (sq_end (qs_n ?_)))))))))); refine wp_cd rfl (fun c16 => ?_) (fun c16 => ?_)
    · refine wp_sc (wp_sq (sq_v rfl (v_assign rfl) rfl (sq_end (qs_n (wp_rt (qs_r ?_)))))); exact qs_ret1 rfl rfl (fin_q (i := 1) rfl (by rw [szV_add c10] at c16; have := szV_lt c16; rw [szV, if_pos this]))
    · refine wp_sk (qs_n (wp_sc (wp_sq (sq_v rfl (v_move rfl) rfl (sq_v rfl (v_assign rfl) rfl (sq_end (qs_n (wp_rt ?_)))))))); exact qs_ret1 rfl rfl (fin_q (i := 1) rfl (by rw [szV_add c10]))
theorem ct_l_eqRing (k p n : Int) (w : World) : Calls Try.prog 37 [ringV k p n, ringV k p n].toArray w (RetV w (.bool true)) := by
  refine calls_in Try.func37 rfl Try.ntmps37 rfl (Sat.start w) (wp_sc (wp_sq ?_)); refine sq_x rfl (x_box rfl rfl) rfl ?_; rintro _ _ ⟨b2, rfl, rfl⟩; refine sq_x rfl (x_box rfl rfl) rfl ?_; rintro _ _ ⟨b3, rfl, rfl⟩; refine sq_v rfl (v_assign rfl) rfl (sq_end (qs_n (wp_sc (wp_sc (wp_sq (sq_v rfl (v_fieldAddr fd_32_0 ty_3 (by decide) rfl) rfl (sq_v rfl (v_loadB 1 ty_3 rfl rfl rfl) rfl (sq_v rfl (v_fieldAddr fd_32_0 ty_3 (by decide) rfl) rfl (sq_v rfl (v_loadB 0 ty_3 rfl rfl rfl) rfl (sq_v rfl (v_neq rfl rfl) rfl (sq_end (qs_n ?_)))))))))))); refine wp_cd rfl (fun c9 => ?_) (fun c9 => ?_)
  · refine wp_sc (wp_sq (sq_v rfl (v_assign rfl) rfl (sq_end (qs_n (wp_rt (qs_r ?_)))))); exact absurd rfl c9
  · refine wp_sk (qs_n (wp_sc (wp_sc (wp_sq (sq_v rfl (v_fieldAddr fd_32_1 ty_3 (by decide) rfl) rfl (sq_v rfl (v_loadB 1 ty_3 rfl rfl rfl) rfl (sq_v rfl (v_fieldAddr fd_32_1 ty_3 (by decide) rfl) rfl (sq_v rfl (v_loadB 0 ty_3 rfl rfl rfl) rfl (sq_v rfl (v_neq rfl rfl) rfl (sq_end (qs_n ?_))))))))))); refine wp_cd rfl (fun c14 => ?_) (fun c14 => ?_)
    · refine wp_sc (wp_sq (sq_v rfl (v_assign rfl) rfl (sq_end (qs_n (wp_rt (qs_r ?_)))))); exact absurd rfl c14
    · refine wp_sk (qs_n (wp_sc (wp_sc (wp_sq (sq_v rfl (v_fieldAddr fd_32_2 ty_3 (by decide) rfl) rfl (sq_v rfl (v_loadB 1 ty_3 rfl rfl rfl) rfl (sq_v rfl (v_fieldAddr fd_32_2 ty_3 (by decide) rfl) rfl (sq_v rfl (v_loadB 0 ty_3 rfl rfl rfl) rfl (sq_v rfl (v_neq rfl rfl) rfl (sq_end (qs_n ?_))))))))))); refine wp_cd rfl (fun c19 => ?_) (fun c19 => ?_)
      · refine wp_sc (wp_sq (sq_v rfl (v_assign rfl) rfl (sq_end (qs_n (wp_rt (qs_r ?_)))))); exact absurd rfl c19
      · refine wp_sk (qs_n (wp_sc (wp_sq (sq_v rfl (v_assign rfl) rfl (sq_end (qs_n (wp_rt ?_))))))); exact qs_ret1 rfl rfl (fin_q (i := 2) rfl rfl)
theorem ct_l_eqTensor (t : Ten) (a b c a' b' c' : Value) (w : World) (r1 : IntsR t.l a (hp w)) (r2 : IntsR t.d b (hp w)) (r3 : IntsR t.x c (hp w)) (r1' : IntsR t.l a' (hp w)) (r2' : IntsR t.d b' (hp w)) (r3' : IntsR t.x c' (hp w)) :
    Calls Try.prog 36 [tenV a b c, tenV a' b' c'].toArray w (RetV w (.bool true)) := by
  refine calls_in Try.func36 rfl Try.ntmps36 rfl (Sat.start w) (wp_sc (wp_sq ?_)); refine sq_x rfl (x_box rfl rfl) rfl ?_; rintro _ _ ⟨b2, rfl, rfl⟩; refine sq_x rfl (x_box rfl rfl) rfl ?_; rintro _ _ ⟨b3, rfl, rfl⟩; refine sq_v rfl (v_assign rfl) rfl (sq_end (qs_n (wp_sc (wp_sc (wp_sq (sq_v rfl (v_fieldAddr fd_48_0 ty_25 (by decide) rfl) rfl (sq_v rfl (v_loadB 1 ty_25 rfl rfl rfl) rfl (sq_v rfl (v_fieldAddr fd_48_0 ty_25 (by decide) rfl) rfl (sq_v rfl (v_loadB 0 ty_25 rfl rfl rfl) rfl (sq_u rfl (x_callv rfl en_38 (fun w s => ct_l_eqIntS _ _ _ _ w (r1.mono (s.get 2 rfl)) (r1'.mono (s.get 2 rfl)) rfl)) rfl (sq_v rfl (v_not rfl) rfl (sq_end (qs_n ?_))))))))))))); refine wp_cn _ rfl (fun c10 => ?_) (fun c10 => ?_)
  · refine wp_sc (wp_sq (sq_v rfl (v_assign rfl) rfl (sq_end (qs_n (wp_rt (qs_r ?_))))))
    cases c10
  · refine wp_sk (qs_n (wp_sc (wp_sc (wp_sq (sq_v rfl (v_fieldAddr fd_48_1 ty_25 (by decide) rfl) rfl (sq_v rfl (v_loadB 1 ty_25 rfl rfl rfl) rfl (sq_v rfl (v_fieldAddr fd_48_1 ty_25 (by decide) rfl) rfl (sq_v rfl (v_loadB 0 ty_25 rfl rfl rfl) rfl (sq_u rfl (x_callv rfl en_38 (fun w s => ct_l_eqIntS _ _ _ _ w (r2.mono (s.get 2 rfl)) (r2'.mono (s.get 2 rfl)) rfl)) rfl (sq_v rfl (v_not rfl) rfl (sq_end (qs_n ?_)))))))))))); refine wp_cn _ rfl (fun c16 => ?_) (fun c16 => ?_)
    · refine wp_sc (wp_sq (sq_v rfl (v_assign rfl) rfl (sq_end (qs_n (wp_rt (qs_r ?_))))))
      cases c16
    · refine wp_sk (qs_n (wp_sc (wp_sc (wp_sq (sq_v rfl (v_fieldAddr fd_48_2 ty_25 (by decide) rfl) rfl (sq_v rfl (v_loadB 1 ty_25 rfl rfl rfl) rfl (sq_v rfl (v_fieldAddr fd_48_2 ty_25 (by decide) rfl) rfl (sq_v rfl (v_loadB 0 ty_25 rfl rfl rfl) rfl (sq_u rfl (x_callv rfl en_38 (fun w s => ct_l_eqIntS _ _ _ _ w (r3.mono (s.get 2 rfl)) (r3'.mono (s.get 2 rfl)) rfl)) rfl (sq_v rfl (v_not rfl) rfl (sq_end (qs_n ?_)))))))))))); refine wp_cn _ rfl (fun c22 => ?_) (fun c22 => ?_)
      · refine wp_sc (wp_sq (sq_v rfl (v_assign rfl) rfl (sq_end (qs_n (wp_rt (qs_r ?_))))))
        cases c22
      · refine wp_sk (qs_n (wp_sc (wp_sq (sq_v rfl (v_assign rfl) rfl (sq_end (qs_n (wp_rt ?_))))))); exact qs_ret1 rfl rfl (fin_q (i := 2) rfl rfl)
theorem ct_l_eqTensorS (ts : List Ten) (v u : Value) (w : World) (r : TensR ts v (hp w)) (r' : TensR ts u (hp w)) : Calls Try.prog 8 [v, u].toArray w (RetV w (.bool true)) := by
  have hx := r.le; obtain ⟨cells, rr, hc⟩ := r.at; obtain ⟨cells', rr', hc'⟩ := r'.at; refine calls_in Try.func8 rfl Try.ntmps8 rfl (Sat.start w) (wp_sc (wp_sq (sq_v rfl (v_assign rfl) rfl (sq_end (qs_n (wp_sc (wp_sc (wp_sq (sq_v rfl (v_move rfl) rfl (sq_v rfl (v_len Try.underlying29 rfl r.sl) rfl (sq_v rfl (v_move rfl) rfl (sq_v rfl (v_len Try.underlying29 rfl r'.sl) rfl (sq_v rfl (v_neq rfl rfl) rfl (sq_end (qs_n ?_))))))))))))))); refine wp_cd rfl (fun c10 => ?_) (fun c10 => ?_)
  · refine wp_sc (wp_sq (sq_v rfl (v_assign rfl) rfl (sq_end (qs_n (wp_rt (qs_r ?_)))))); exact absurd rfl c10
  · refine wp_sk (qs_n (wp_sc (wp_sc (wp_sq (sq_v rfl (v_assign rfl) rfl (sq_end (qs_n (wp_bl (wp_lp (fun i : Nat => [(0, v), (1, u), (5, num i)]) (fun _ => [hp w]) (fun i => i ≤ ts.length) (fun i => ts.length - i) 0 (by omega) ⟨rfl, rfl, rfl, trivial⟩ (fun _ s => s) ?_))))))))); intro i hi; refine wp_sc (wp_sc (wp_sq (sq_v rfl (v_move rfl) rfl (sq_v rfl (v_move rfl) rfl (sq_v rfl (v_len Try.underlying29 rfl r.sl) rfl (sq_v rfl (v_lss rfl rfl) rfl (sq_end (qs_n ?_)))))))); refine wp_cd rfl (fun c14 => ?_) (fun c14 => ?_)
    · refine wp_sk (qs_n (wp_sc (wp_bl (wp_sc (wp_rj 10 [(0, true), (1, true), (2, true), (3, true), (4, true), (5, true), (6, true), (7, true), (8, false), (9, true)] mixed_ok (by kernel_rfl) (rj_v rfl rfl (v_move rfl) rfl (rj_v rfl rfl (v_move rfl) rfl ?_))))))); obtain ⟨t, a, b, c, ht, hcs, r1, r2, r3⟩ := hc i (by omega); obtain ⟨t', a', b', c', ht', hcs', r1', r2', r3'⟩ := hc' i (by omega); obtain rfl : t = t' := (by rw [ht] at ht'; exact Option.some.inj ht')
      refine rj_v rfl rfl (v_indexAddr Try.underlying29 ty_48 rfl rfl rr (by decide) (by omega) (by omega)) rfl ?_; refine rj_v rfl rfl (v_loadNE 0 ty_48 rfl rfl rr (by have := rr.1; omega) rfl hcs) rfl ?_; refine rj_v rfl rfl (v_move rfl) rfl (rj_v rfl rfl (v_move rfl) rfl (rj_v rfl rfl (v_indexAddr Try.underlying29 ty_48 rfl rfl rr' (by decide) (by omega) (by omega)) rfl ?_)); refine rj_v rfl rfl (v_loadNE 0 ty_48 rfl rfl rr' (by have := rr'.1; omega) rfl hcs') rfl ?_; refine rj_u rfl rfl (x_callv rfl en_36 (fun w s => ct_l_eqTensor _ _ _ _ _ _ _ w (r1.mono (s.get 0 rfl)) (r2.mono (s.get 0 rfl)) (r3.mono (s.get 0 rfl)) (r1'.mono (s.get 0 rfl)) (r2'.mono (s.get 0 rfl)) (r3'.mono (s.get 0 rfl)))) rfl (rj_v rfl rfl (v_not rfl) rfl (rj_end (qs_n ?_))); refine wp_cn _ rfl (fun c26 => ?_) (fun c26 => ?_)
      · refine wp_sc (wp_sq (sq_v rfl (v_assign rfl) rfl (sq_end (qs_n (wp_rt (qs_br (qs_r (qs_r (qs_br (qs_r ?_))))))))))
        cases c26
      · refine wp_sk (qs_bn (qs_n (wp_sq (sq_v rfl (v_move rfl) rfl ?_)))); refine sq_v rfl (v_add rfl rfl ((by unfold I64; omega))) rfl ?_; refine sq_v rfl (v_assign rfl) rfl (sq_end ?_); exact qs_bk (i + 1) (by omega) (by omega) ⟨rfl, rfl, rfl, trivial⟩ (fun _ s => s)
    · refine wp_ex (qs_x (qs_x (qs_bx (qs_n (wp_sc (wp_sq (sq_v rfl (v_assign rfl) rfl (sq_end (qs_n (wp_rt ?_)))))))))); exact qs_ret1 rfl rfl (fin_q (i := 0) rfl rfl)
theorem ct_l_eqNetwork (k p n : Int) (ts : List Ten) (op : List Int) (vt vo ut uo : Value) (w : World) (r : TensR ts vt (hp w)) (ro : IntsR op vo (hp w)) (r' : TensR ts ut (hp w)) (ro' : IntsR op uo (hp w)) :
    Calls Try.prog 9 [netV k p n vt vo, netV k p n ut uo].toArray w (RetV w (.bool true)) := by
  refine calls_in Try.func9 rfl Try.ntmps9 rfl (Sat.start w) (wp_sc (wp_sq ?_)); refine sq_x rfl (x_box rfl rfl) rfl ?_; rintro _ _ ⟨b2, rfl, rfl⟩; refine sq_x rfl (x_box rfl rfl) rfl ?_; rintro _ _ ⟨b3, rfl, rfl⟩; refine sq_v rfl (v_assign rfl) rfl (sq_end (qs_n (wp_sc (wp_sc (wp_sq (sq_v rfl (v_fieldAddr fd_34_0 ty_32 (by decide) rfl) rfl (sq_v rfl (v_loadNB 1 ty_32 rfl rfl rfl rfl) rfl (sq_v rfl (v_fieldAddr fd_34_0 ty_32 (by decide) rfl) rfl (sq_v rfl (v_loadNB 0 ty_32 rfl rfl rfl rfl) rfl (sq_u rfl (x_callv rfl en_37 (fun w s => ct_l_eqRing _ _ _ w)) rfl (sq_v rfl (v_not rfl) rfl (sq_end (qs_n ?_))))))))))))); refine wp_cn _ rfl (fun c10 => ?_) (fun c10 => ?_)
  · refine wp_sc (wp_sq (sq_v rfl (v_assign rfl) rfl (sq_end (qs_n (wp_rt (qs_r ?_))))))
    cases c10
  · refine wp_sk (qs_n (wp_sc (wp_sc (wp_sq (sq_v rfl (v_fieldAddr fd_34_1 ty_29 (by decide) rfl) rfl (sq_v rfl (v_loadB 1 ty_29 rfl rfl rfl) rfl (sq_v rfl (v_fieldAddr fd_34_1 ty_29 (by decide) rfl) rfl (sq_v rfl (v_loadB 0 ty_29 rfl rfl rfl) rfl (sq_u rfl (x_callv rfl en_8 (fun w s => ct_l_eqTensorS _ _ _ w (r.mono (s.get 2 rfl)) (r'.mono (s.get 2 rfl)))) rfl (sq_v rfl (v_not rfl) rfl (sq_end (qs_n ?_)))))))))))); refine wp_cn _ rfl (fun c16 => ?_) (fun c16 => ?_)
    · refine wp_sc (wp_sq (sq_v rfl (v_assign rfl) rfl (sq_end (qs_n (wp_rt (qs_r ?_))))))
      cases c16
    · refine wp_sk (qs_n (wp_sc (wp_sc (wp_sq (sq_v rfl (v_fieldAddr fd_34_2 ty_25 (by decide) rfl) rfl (sq_v rfl (v_loadB 1 ty_25 rfl rfl rfl) rfl (sq_v rfl (v_fieldAddr fd_34_2 ty_25 (by decide) rfl) rfl (sq_v rfl (v_loadB 0 ty_25 rfl rfl rfl) rfl (sq_u rfl (x_callv rfl en_38 (fun w s => ct_l_eqIntS _ _ _ _ w (ro.mono (s.get 2 rfl)) (ro'.mono (s.get 2 rfl)) rfl)) rfl (sq_v rfl (v_not rfl) rfl (sq_end (qs_n ?_)))))))))))); refine wp_cn _ rfl (fun c22 => ?_) (fun c22 => ?_)
      · refine wp_sc (wp_sq (sq_v rfl (v_assign rfl) rfl (sq_end (qs_n (wp_rt (qs_r ?_))))))
        cases c22
      · refine wp_sk (qs_n (wp_sc (wp_sq (sq_v rfl (v_assign rfl) rfl (sq_end (qs_n (wp_rt ?_))))))); exact qs_ret1 rfl rfl (fin_q (i := 2) rfl rfl)
def iota (k : Int) (m : Nat) : List Int := (List.range m).map fun (j : Nat) => k + j
theorem iota_len (k : Int) (m : Nat) : (iota k m).length = m := by simp [iota]
theorem iota_get {k : Int} {m j : Nat} (h : j < m) : (iota k m).getD j 0 = k + j := by simp [iota, List.getD, h]
theorem iota_step (k : Int) (m : Nat) : iota k (m + 1) = iota k m ++ [k + m] := by simp [iota, List.range_succ]
theorem iota_set {k : Int} {xs : List Int} {i : Nat} (h : i < xs.length) : (iota k i ++ xs.drop i).set i (k + i) = iota k (i + 1) ++ xs.drop (i + 1) := by
  rw [List.set_append_right _ _ (by rw [iota_len]; exact Nat.le_refl _), iota_len, Nat.sub_self, iota_step, List.drop_eq_getElem_cons h, List.append_assoc]
  rfl
theorem ct_l_markIntS (xs : List Int) (v : Value) (k : Int) (w : World) (h : PH) (hle : PLe h (hp w)) (r : IntsO xs v h) (hk : 0 ≤ k ∧ k + xs.length ≤ 4611686018427387904) :
    Calls Try.prog 39 [v, num k].toArray w (Ret w h (fun u h' => u = num (k + xs.length) ∧ IntsO (iota k xs.length) v h')) := by
  refine calls_in Try.func39 rfl Try.ntmps39 rfl (Sat.start2 hle) (wp_sc (wp_sq (sq_v rfl (v_assign rfl) rfl (sq_end (qs_n (wp_sc (wp_sc (wp_sq (sq_v rfl (v_assign rfl) rfl (sq_end (qs_n (wp_bl ?_)))))))))))); refine wp_lp (fun s : Nat × PH => [(0, v), (1, num (k + s.1)), (5, num s.1)]) (fun s => [s.2, restP w h]) (fun s => s.1 ≤ xs.length ∧ IntsO (iota k s.1 ++ xs.drop s.1) v s.2) (fun s => xs.length - s.1) (0, h) ⟨by omega, by simpa [iota] using r⟩ ⟨rfl, by show _ = some (num (k + ((0 : Nat) : Int))); rw [show k + ((0 : Nat) : Int) = k by omega]; rfl, rfl, trivial⟩ (fun _ s => s) ?_; rintro ⟨i, hh⟩ ⟨hi, ro⟩; dsimp only at hi ro ⊢; have hl : (iota k i ++ xs.drop i).length = xs.length := by rw [List.length_append, iota_len, List.length_drop]; omega
  refine wp_sc (wp_sc (wp_sq (sq_v rfl (v_move rfl) rfl (sq_v rfl (v_move rfl) rfl ?_)))); refine sq_v rfl (v_len Try.underlying25 rfl (by have := ro.toR.sl; rwa [hl] at this)) rfl ?_; refine sq_v rfl (v_lss rfl rfl) rfl (sq_end (qs_n ?_)); refine wp_cd rfl (fun c9 => ?_) (fun c9 => ?_)
  · refine wp_sk (qs_n (wp_sc (wp_bl (wp_sc (wp_sq (sq_v rfl (v_move rfl) rfl (sq_v rfl (v_move rfl) rfl (sq_v rfl (v_move rfl) rfl (sq_v rfl (v_idxI Try.underlying25 ty_3 rfl rfl ro.toR (by omega) (by omega)) rfl ?_))))))))); refine sq_m 0 rfl rfl (m_storeI 0 ty_3 rfl rfl rfl ro (by omega)) rfl ?_; rintro _ h_ro8 ⟨rfl, ro8⟩; refine sq_end (qs_n (wp_sq (sq_v rfl (v_move rfl) rfl ?_))); refine sq_v rfl (v_add rfl rfl ((by unfold I64; omega))) rfl ?_; refine sq_v rfl (v_assign rfl) rfl (sq_end (qs_bn (qs_n (wp_sq (sq_v rfl (v_move rfl) rfl ?_))))); refine sq_v rfl (v_add rfl rfl ((by unfold I64; omega))) rfl ?_; refine sq_v rfl (v_assign rfl) rfl (sq_end ?_); exact qs_bk (i + 1, h_ro8) ⟨by simp only; omega, by simp only; rw [← iota_set (by omega)]; exact ro8⟩ (by simp only; omega) ⟨rfl, by simp only [Int.natCast_add, Int.natCast_one, ← Int.add_assoc]; rfl, rfl, trivial⟩ (fun _ s => s)
  · refine wp_ex (qs_x (qs_x (qs_bx (qs_n (wp_sc (wp_sq (sq_v rfl (v_move rfl) rfl (sq_v rfl (v_assign rfl) rfl (sq_end (qs_n (wp_rt ?_))))))))))); refine qs_ret1 rfl rfl (fin_m (i := 1) 0 rfl rfl rfl ?_); have e : i = xs.length := by omega
    subst e; rw [List.drop_length, List.append_nil] at ro; exact ⟨rfl, ro⟩
theorem ct_l_heldIntS (xs : List Int) (v : Value) (k : Int) (w : World) (r : IntsR xs v (hp w)) (he : xs = iota k xs.length) (hk : 0 ≤ k ∧ k + xs.length ≤ 4611686018427387904) :
    Calls Try.prog 40 [v, num k].toArray w (RetV w (num (k + xs.length))) := by
  refine calls_in Try.func40 rfl Try.ntmps40 rfl (Sat.start w) (wp_sc (wp_sq (sq_v rfl (v_assign rfl) rfl (sq_end (qs_n (wp_sc (wp_sc (wp_sq (sq_v rfl (v_assign rfl) rfl (sq_end (qs_n (wp_bl ?_)))))))))))); refine wp_lp (fun i : Nat => [(0, v), (1, num (k + i)), (5, num i)]) (fun _ => [hp w]) (fun i => i ≤ xs.length) (fun i => xs.length - i) 0 (by omega) ⟨rfl, by show _ = some (num (k + ((0 : Nat) : Int))); rw [show k + ((0 : Nat) : Int) = k by omega]; rfl, rfl, trivial⟩ (fun _ s => s) ?_; intro i hi; refine wp_sc (wp_sc (wp_sq (sq_v rfl (v_move rfl) rfl (sq_v rfl (v_move rfl) rfl (sq_v rfl (v_len Try.underlying25 rfl r.sl) rfl (sq_v rfl (v_lss rfl rfl) rfl (sq_end (qs_n ?_)))))))); refine wp_cd rfl (fun c9 => ?_) (fun c9 => ?_)
  · refine wp_sk (qs_n (wp_sc (wp_bl (wp_sc (wp_sc (wp_sq (sq_v rfl (v_move rfl) rfl (sq_v rfl (v_move rfl) rfl (sq_v rfl (v_idxI Try.underlying25 ty_3 rfl rfl r (by omega) (by omega)) rfl (sq_v rfl (v_loadI (k := i) 0 ty_3 rfl rfl r (by omega)) rfl (sq_v rfl (v_move rfl) rfl (sq_v rfl (v_neq rfl rfl) rfl (sq_end (qs_n ?_)))))))))))))); refine wp_cd rfl (fun c17 => ?_) (fun c17 => ?_)
    · refine wp_sc (wp_sq (sq_v rfl (v_assign rfl) rfl (sq_end (qs_n (wp_rt (qs_r (qs_br (qs_r (qs_r (qs_br (qs_r ?_))))))))))); exact absurd (by rw [he]; exact iota_get (by omega)) c17
    · refine wp_sk (qs_n (wp_sq (sq_v rfl (v_move rfl) rfl ?_))); refine sq_v rfl (v_add rfl rfl ((by unfold I64; omega))) rfl ?_; refine sq_v rfl (v_assign rfl) rfl (sq_end (qs_bn (qs_n (wp_sq (sq_v rfl (v_move rfl) rfl ?_))))); refine sq_v rfl (v_add rfl rfl ((by unfold I64; omega))) rfl ?_; refine sq_v rfl (v_assign rfl) rfl (sq_end ?_); exact qs_bk (i + 1) (by omega) (by omega) ⟨rfl, by simp only [Int.natCast_add, Int.natCast_one, ← Int.add_assoc]; rfl, rfl, trivial⟩ (fun _ s => s)
  · refine wp_ex (qs_x (qs_x (qs_bx (qs_n (wp_sc (wp_sq (sq_v rfl (v_move rfl) rfl (sq_v rfl (v_assign rfl) rfl (sq_end (qs_n (wp_rt ?_))))))))))); exact qs_ret1 rfl rfl (fin_q (i := 0) rfl (by congr 1; omega))
end Go.Proofs.Ytdkgaejmgnojhaa
namespace Go.Proofs.Ytdkgaejmgnojhaa
set_option maxRecDepth 100000
open Go.RowKit
theorem dimOf_append : ∀ {a b : List Ten} (_ : ∀ t ∈ a, AxOK t) (x : Int), dimOf (a ++ b) x = if dimOf a x ≠ 0 then dimOf a x else dimOf b x
  | [], b, _, x => by simp [dimOf]
  | u :: r, b, h, x => by
    have ih := dimOf_append (a := r) (b := b) (fun t ht => h t (by simp [ht])) x
    by_cases hx : x ∈ u.l
    · have hu := (h u (by simp)).2 _ (findI_get hx).1; simp only [List.cons_append, dimOf, if_pos hx]; rw [if_pos (by omega)]
    · simp only [List.cons_append, dimOf, if_neg hx]; exact ih
/-- In a network in order, each label's dimension is that of its axis. -/
theorem net_dim {k p n : Int} {ts : List Ten} {op : List Int} (h : netL k p n ts op) {t : Ten} (ht : t ∈ ts) {x : Int} (hx : x ∈ t.l) : dimOf ts x = t.d.getD (findI t.l x).toNat 0 := by
  obtain ⟨i, hi⟩ := List.getElem?_of_mem ht; have hlt := (List.getElem?_eq_some_iff.1 hi).1; have hg := findI_get hx; have hc := h.2.2.2.1 i hlt t hi _ hg.1 t hi; rw [hg.2] at hc; have e : ts = ts.take i ++ (t :: ts.drop (i + 1)) := by rw [← drop_at hi, List.take_append_drop]
  have hax := net_ax h
  conv => lhs; rw [e]
  rw [dimOf_append (fun u hu => hax u (List.mem_of_mem_take hu))]
  split
  · omega
  · rw [dimOf, if_pos hx]
theorem net_label {k p n : Int} {ts : List Ten} {op : List Int} (h : netL k p n ts op) {t : Ten} (ht : t ∈ ts) {x : Int} (hx : x ∈ t.l) : x ∈ labelsL ts := by
  have hg := findI_get hx; have ha := (net_axes h t ht).2.2 _ hg.1
  unfold axP at ha
  rw [hg.2] at ha; have hd := net_dim h ht hx; exact mem_labels.2 ⟨by omega, by have := ha.2.1; omega⟩
theorem nodup_map {α β : Type} {f : α → β} (hf : ∀ a b, f a = f b → a = b) {l : List α} (h : l.Nodup) : (l.map f).Nodup :=
  List.pairwise_map.2 (h.imp fun hne e => hne (hf _ _ e))
theorem labels_nodup (ts : List Ten) (m : Nat) : (labelsTo ts m).Nodup :=
  List.Pairwise.filter _ (nodup_map (f := fun (i : Nat) => (i : Int)) (fun a b e => by have e' : (a : Int) = b := e; omega) List.nodup_range)
theorem axes_nodup {ls ds : List Int} (h : axesL ls ds) : ls.Nodup := by
  rw [List.Nodup, List.pairwise_iff_getElem]; intro i j hi hj hij e; have := (h.2.2 j hj).2.2; refine this ?_; simp only [List.getD, List.getElem?_eq_getElem hj, Option.getD_some]; rw [← e]; exact List.mem_iff_getElem.2 ⟨i, by simp; omega, by simp⟩
theorem assign_idx {k p n : Int} {ts : List Ten} {op vs : List Int} (h : assignL k p n ts op vs) {t : Ten} (ht : t ∈ ts) : idxIn t.d (idxAt (labelsL ts) vs t.l) := by
  have hax := net_axes h.1 t ht; refine ⟨by simp [idxAt, hax.2.1], fun j hj => ?_⟩; have hj' : j < t.l.length := by rw [hax.2.1]; exact hj
  have hx := mem_getD hj'; have hg := findI_get (net_label h.1 ht hx); have hd := net_dim h.1 ht hx; have hfj : findI t.l (t.l.getD j 0) = j := find_at hax hj'; rw [hfj, Int.toNat_natCast] at hd; have hv := h.2.2 _ (by rw [h.2.1, dimsFor, List.length_map]; exact hg.1); rw [dimsFor, map_getD hg.1, hg.2, hd] at hv; rw [idxAt, map_getD hj']; exact hv
theorem assign_small {k p n : Int} {ts : List Ten} {op vs : List Int} (h : assignL k p n ts op vs) : ∀ b ∈ vs, 0 ≤ b ∧ b ≤ 1048576 := all_of fun j hj => by
  have := h.2.2 j hj; have hl := h.2.1; rw [dimsFor, List.length_map] at hl; rw [dimsFor, map_getD (by omega)] at this; have hr := dimOf_range (net_ax h.1) ((labelsL ts).getD j 0)
  omega
theorem oneL_in {k p n : Int} (h : ringL k p n) : InR k p n (oneL k p n) := by
  refine ⟨oneL_len k p n, fun a ha => ?_⟩; have ht := top_range h
  unfold oneL at ha
  split at ha
  · simp at ha; omega
  · split at ha
    · simp at ha; omega
    · have h1 : 1 ≤ topI k p n := by
        have h3 := fun hk => top_cap (k := k) (p := p) (n := n) h hk; have h2 := fun hk => top_poly (k := k) (p := p) (n := n) h hk
        unfold ringL at h
        have h1 := fun hk => top_1 (k := k) (p := p) (n := n) hk
        rcases h with h | h | h | h | h | h
        · have := h1 h.1; omega
        · have := h2 (.inl h.1); omega
        · have := h3 h.1; omega
        · omega
        · have := h2 (.inr (.inl h.1)); omega
        · have := h2 (.inr (.inr h.1)); omega
      rcases List.mem_or_eq_of_mem_set ha with ha | ha
      · have := List.eq_of_mem_replicate ha; omega
      · omega
theorem elt_mem {xs : List Int} {w i a : Int} (h : a ∈ elt xs w i) : a ∈ xs := List.mem_of_mem_drop (List.mem_of_mem_take h)
theorem elt_inR {k p n : Int} {t : Ten} (h : tensorL k p n t.l t.d t.x) {i : Int} (h0 : 0 ≤ i) (h1 : i < prodI t.d) : InR k p n (elt t.x (widthI k n) i) := by
  have hw := width_range h.1; refine ⟨?_, fun a ha => h.2.2.2 a (elt_mem ha)⟩; have hsz := h.2.2.1; have hs := sizeI_ge.1 h.2.1; rw [sizeI_yes hs.1 hs.2] at hsz; have := Int.mul_le_mul_of_nonneg_right (show i + 1 ≤ prodI t.d by omega) (show 0 ≤ widthI k n by omega); have h2 := Int.mul_nonneg h0 (show 0 ≤ widthI k n by omega); rw [Int.add_mul, Int.one_mul] at this; simp only [elt, List.length_take, List.length_drop]
  omega
theorem elt_fits {k p n : Int} {t : Ten} (h : tensorL k p n t.l t.d t.x) {i : Int} (h1 : i < prodI t.d) : i * widthI k n + widthI k n ≤ t.x.length ∧ t.x.length ≤ 17592186044416 := by
  have hw := width_range h.1; have hsz := h.2.2.1; have hs := sizeI_ge.1 h.2.1; rw [sizeI_yes hs.1 hs.2] at hsz; have := Int.mul_le_mul_of_nonneg_right (show i + 1 ≤ prodI t.d by omega) (show 0 ≤ widthI k n by omega); rw [Int.add_mul, Int.one_mul] at this; have h3 : prodI t.d * widthI k n ≤ 4096 * 6 := Int.mul_le_mul hs.2 hw.2 (by omega) (by omega)
  omega
theorem steps_in {labels ls ds : List Int} (hd : ∀ d ∈ ds, 1 ≤ d) : ∀ a ∈ stepsL labels ls ds, 0 ≤ a ∧ a ≤ prodI ds := fun a ha => by
  simp only [stepsL, List.mem_map] at ha; obtain ⟨x, _, rfl⟩ := ha; exact strOf_range hd x
noncomputable def weightTo (k p n : Int) (labels vs : List Int) (ts : List Ten) : List Int := ts.foldl (fun a t => mulL k p n a (elt t.x (widthI k n) (offL t.d (idxAt labels vs t.l)))) (oneL k p n)
theorem weight_step {k p n : Int} {labels vs : List Int} {ts : List Ten} {i : Nat} {t : Ten} (h : ts[i]? = some t) : weightTo k p n labels vs (ts.take (i + 1)) = mulL k p n (weightTo k p n labels vs (ts.take i)) (elt t.x (widthI k n) (offL t.d (idxAt labels vs t.l))) := by
  rw [take_ten h, weightTo, List.foldl_append]; rfl
/-- What is asked of the numbers at the labels. -/
structure AtOK (k p n : Int) (ts : List Ten) (labels vs : List Int) : Prop where
  ring : ringL k p n
  ten : ∀ t ∈ ts, tensorL k p n t.l t.d t.x
  nodup : labels.Nodup
  mem : ∀ t ∈ ts, ∀ x ∈ t.l, x ∈ labels
  idx : ∀ t ∈ ts, idxIn t.d (idxAt labels vs t.l)
  len : vs.length = labels.length
  few : labels.length ≤ 100
  small : ∀ b ∈ vs, 0 ≤ b ∧ b ≤ 1048576
theorem AtOK.off {k p n : Int} {ts : List Ten} {labels vs : List Int} (h : AtOK k p n ts labels vs) {t : Ten} (ht : t ∈ ts) : 0 ≤ offL t.d (idxAt labels vs t.l) ∧ offL t.d (idxAt labels vs t.l) < prodI t.d := by
  have := offL_in (fun d hd => (dims_mem (axes_dims (tensor_axes (h.ten t ht))) d hd).1) (h.idx t ht)
  omega
theorem weight_in {k p n : Int} {ts : List Ten} {labels vs : List Int} (h : AtOK k p n ts labels vs) : ∀ i, i ≤ ts.length → InR k p n (weightTo k p n labels vs (ts.take i))
  | 0, _ => by simpa [weightTo] using oneL_in h.ring
  | i + 1, hi => by
    have ht : ts[i]? = some ts[i] := List.getElem?_eq_getElem (by omega); have hm := List.mem_of_getElem? ht; rw [weight_step ht]; exact mulL_in h.ring (weight_in h i (by omega)) (elt_inR (h.ten _ hm) (h.off hm).1 (h.off hm).2)
theorem assign_at {k p n : Int} {ts : List Ten} {op vs : List Int} (h : assignL k p n ts op vs) : AtOK k p n ts (labelsL ts) vs :=
  ⟨h.1.1, h.1.2.2.1, labels_nodup ts 100, fun t ht x hx => net_label h.1 ht hx, fun t ht => assign_idx h ht, by have := h.2.1; rwa [dimsFor, List.length_map] at this, labels_len ts 100, assign_small h⟩
end Go.Proofs.Ytdkgaejmgnojhaa
namespace Go.Proofs.Ytdkgaejmgnojhaa
set_option maxRecDepth 100000
open Go.RowKit
def digI (ds : List Int) (n : Int) (i : Nat) : Int := n / prodI (ds.drop (i + 1)) % ds.getD i 0
def idxL (ds : List Int) (n : Int) : List Int := (List.range ds.length).map fun i => digI ds n i
theorem idxL_len (ds : List Int) (n : Int) : (idxL ds n).length = ds.length := by simp [idxL]
theorem idxL_get {ds : List Int} {n : Int} {i : Nat} (h : i < ds.length) : (idxL ds n).getD i 0 = digI ds n i := by simp [idxL, List.getD, h]
theorem idxL_zero (ds : List Int) : idxL ds 0 = List.replicate ds.length 0 := by
  apply ext_getD (by simp [idxL_len])
  intro j hj; rw [idxL_len] at hj; rw [idxL_get hj, rep_getD]
  simp [digI]
theorem idxL_in {ds : List Int} (hd : ∀ d ∈ ds, 1 ≤ d) (n : Int) : idxIn ds (idxL ds n) := ⟨idxL_len ds n, fun j hj => by
  rw [idxL_get hj]; have := hd _ (mem_getD hj); exact ⟨Int.emod_nonneg _ (by omega), Int.emod_lt_of_pos _ (by omega)⟩⟩
theorem prod_at {ds : List Int} {i : Nat} (h : i < ds.length) : prodI (ds.drop i) = prodI (ds.drop (i + 1)) * ds.getD i 0 := by
  rw [drop_cons h, prodI_cons, Int.mul_comm]
theorem div_at {ds : List Int} (hd : ∀ d ∈ ds, 1 ≤ d) (n : Int) {i : Nat} (h : i < ds.length) : n / prodI (ds.drop i) = n / prodI (ds.drop (i + 1)) / ds.getD i 0 := by
  rw [prod_at h, ← Int.ediv_ediv_of_nonneg (by have := (prodI_drop hd (i + 1)).1; omega)]
theorem horn_idx {ds : List Int} (hd : ∀ d ∈ ds, 1 ≤ d) {n : Int} (h0 : 0 ≤ n) (h1 : n < prodI ds) : ∀ m, m ≤ ds.length → hornTo ds (idxL ds n) m = n / prodI (ds.drop m)
  | 0, _ => by
    rw [hornTo, List.drop_zero, Int.ediv_eq_zero_of_lt h0 h1]
  | m + 1, hm => by
    rw [hornTo, horn_idx hd h0 h1 m (by omega), idxL_get (by omega), div_at hd n (by omega), digI]; have := Int.ediv_mul_add_emod (n / prodI (ds.drop (m + 1))) (ds.getD m 0)
    omega
theorem offL_idx {ds : List Int} (hd : ∀ d ∈ ds, 1 ≤ d) {n : Int} (h0 : 0 ≤ n) (h1 : n < prodI ds) : offL ds (idxL ds n) = n := by
  rw [offL_end (idxL_len ds n).symm, horn_idx hd h0 h1 _ (Nat.le_refl _), List.drop_length]
  simp [prodI]
theorem mix_down {A B : List Int} {k : Nat} (h : A.length = B.length) (hk : k < A.length) : (mixL A B (k + 1)).set k (B.getD k 0) = mixL A B k := by
  apply ext_getD
  · rw [List.length_set, mix_len h (by omega), mix_len h (by omega)]
  · intro j hj; rw [List.length_set, mix_len h (by omega)] at hj
    by_cases e : j = k
    · subst e; rw [mix_get (by omega) (Nat.le_refl _)]; simp only [List.getD]; rw [List.getElem?_set_self (by rw [mix_len h (by omega)]; omega)]; rfl
    · have hs : ((mixL A B (k + 1)).set k (B.getD k 0)).getD j 0 = (mixL A B (k + 1)).getD j 0 := by simp only [List.getD]; rw [List.getElem?_set_ne (by omega)]
      rw [hs]
      by_cases hj2 : k ≤ j
      · rw [mix_get (by omega) (by omega), mix_get (by omega) hj2]
      · simp only [mixL, List.getD]; rw [List.getElem?_append_left (by simp; omega), List.getElem?_append_left (by simp; omega), List.getElem?_take, List.getElem?_take, if_pos (by omega), if_pos (by omega)]
theorem mix_low {A B : List Int} {k j : Nat} (hk : k ≤ A.length) (hj : j < k) : (mixL A B k).getD j 0 = A.getD j 0 := by
  simp only [mixL, List.getD]; rw [List.getElem?_append_left (by simp; omega), List.getElem?_take, if_pos hj]
theorem mix_full {A B : List Int} {k : Nat} (h : A.length = B.length) (hk : k ≤ A.length) (e : ∀ j, j < k → A.getD j 0 = B.getD j 0) : mixL A B k = B := by
  apply ext_getD (by rw [mix_len h hk, h])
  intro j hj; rw [mix_len h hk] at hj
  by_cases hjk : j < k
  · rw [mix_low hk hjk, e j hjk]
  · rw [mix_get hk (by omega)]
theorem div_up {P n : Int} (hP : 1 ≤ P) (_hn : 0 ≤ n) (h : (n + 1) % P = 0) : (n + 1) / P = n / P + 1 := by
  have h1 := Int.ediv_mul_add_emod (n + 1) P; have e : n = (P - 1) + ((n + 1) / P - 1) * P := by rw [Int.sub_mul, Int.one_mul]; omega
  have h2 : n / P = (P - 1) / P + ((n + 1) / P - 1) := by
    conv => lhs; rw [e]
    exact Int.add_mul_ediv_right _ _ (by omega)
  rw [Int.ediv_eq_zero_of_lt (show 0 ≤ P - 1 by omega) (show P - 1 < P by omega)] at h2
  omega
theorem mod_up {x d : Int} (hd : 1 ≤ d) (h : x % d + 1 < d) : (x + 1) % d = x % d + 1 ∧ (x + 1) / d = x / d := by
  have h1 := Int.ediv_mul_add_emod x d; have h0 := Int.emod_nonneg x (show d ≠ 0 by omega); have e : x + 1 = (x % d + 1) + (x / d) * d := by omega
  constructor
  · conv => lhs; rw [e]
    rw [Int.add_mul_emod_self_right, Int.emod_eq_of_lt (by omega) h]
  · conv => lhs; rw [e]
    rw [Int.add_mul_ediv_right _ _ (by omega), Int.ediv_eq_zero_of_lt (by omega) h]
    omega
theorem mod_over {x d : Int} (hd : 1 ≤ d) (h : d ≤ x % d + 1) : (x + 1) % d = 0 := by
  have h1 := Int.ediv_mul_add_emod x d; have h0 := Int.emod_lt_of_pos x (show 0 < d by omega); have e : x + 1 = (x / d + 1) * d := by rw [Int.add_mul]; omega
  rw [e, Int.mul_emod_left]
theorem dig_yes {ds : List Int} (hd : ∀ d ∈ ds, 1 ≤ d) {n : Int} (hn : 0 ≤ n) {i : Nat} (hi : i < ds.length) (hP : (n + 1) % prodI (ds.drop (i + 1)) = 0) (h : digI ds n i + 1 < ds.getD i 0) :
    digI ds (n + 1) i = digI ds n i + 1 ∧ ∀ t, t ≤ i → (n + 1) / prodI (ds.drop (i - t)) = n / prodI (ds.drop (i - t)) := by
  have hp := (prodI_drop hd (i + 1)).1; have hdi := hd _ (mem_getD hi); have h1 := div_up hp hn hP; have h2 := mod_up hdi h; refine ⟨by unfold digI; rw [h1]; exact h2.1, fun t => ?_⟩
  induction t with
  | zero => intro _; rw [Nat.sub_zero, div_at hd _ hi, div_at hd _ hi, h1]; exact h2.2
  | succ t ih =>
    intro ht; rw [div_at hd (n + 1) (show i - (t + 1) < ds.length by omega), div_at hd n (show i - (t + 1) < ds.length by omega), show i - (t + 1) + 1 = i - t by omega, ih (by omega)]
theorem dig_same {ds : List Int} (hd : ∀ d ∈ ds, 1 ≤ d) {n : Int} (hn : 0 ≤ n) {i : Nat} (hi : i < ds.length) (hP : (n + 1) % prodI (ds.drop (i + 1)) = 0) (h : digI ds n i + 1 < ds.getD i 0) (j : Nat) (hj : j < i) : digI ds n j = digI ds (n + 1) j := by
  have := (dig_yes hd hn hi hP h).2 (i - (j + 1)) (by omega); rw [show i - (i - (j + 1)) = j + 1 by omega] at this
  unfold digI
  rw [this]
theorem dig_no {ds : List Int} (hd : ∀ d ∈ ds, 1 ≤ d) {n : Int} (hn : 0 ≤ n) {i : Nat} (hi : i < ds.length) (hP : (n + 1) % prodI (ds.drop (i + 1)) = 0) (h : ¬ digI ds n i + 1 < ds.getD i 0) :
    digI ds (n + 1) i = 0 ∧ (n + 1) % prodI (ds.drop i) = 0 := by
  have hp := (prodI_drop hd (i + 1)).1; have hdi := hd _ (mem_getD hi); have h1 := div_up hp hn hP; have h2 := mod_over hdi (x := n / prodI (ds.drop (i + 1))) (by unfold digI at h; omega); rw [← h1] at h2; refine ⟨h2, ?_⟩; have a := Int.dvd_of_emod_eq_zero h2; have e := Int.ediv_mul_add_emod (n + 1) (prodI (ds.drop (i + 1))); rw [hP] at e; have : prodI (ds.drop (i + 1)) * ds.getD i 0 ∣ prodI (ds.drop (i + 1)) * ((n + 1) / prodI (ds.drop (i + 1))) := Int.mul_dvd_mul_left _ a; rw [← prod_at hi, Int.mul_comm (prodI (ds.drop (i + 1))), show (n + 1) / prodI (ds.drop (i + 1)) * prodI (ds.drop (i + 1)) = n + 1 by omega] at this; exact Int.emod_eq_zero_of_dvd this
theorem idx_yes {ds : List Int} (hd : ∀ d ∈ ds, 1 ≤ d) {n : Int} (hn : 0 ≤ n) {m : Nat} (h1 : 1 ≤ m) (hm : m ≤ ds.length) (hP : (n + 1) % prodI (ds.drop m) = 0) (h : digI ds n (m - 1) + 1 < ds.getD (m - 1) 0) :
    (mixL (idxL ds n) (idxL ds (n + 1)) m).set (m - 1) (digI ds n (m - 1) + 1) = idxL ds (n + 1) := by
  obtain ⟨k, rfl⟩ : ∃ k, m = k + 1 := ⟨m - 1, by omega⟩
  rw [Nat.add_sub_cancel] at h ⊢; have hl1 := idxL_len ds n; have hl2 := idxL_len ds (n + 1); have hy := dig_yes hd hn (show k < ds.length by omega) hP h; rw [← hy.1, ← idxL_get (show k < ds.length by omega), mix_down (by omega) (by omega)]; refine mix_full (by omega) (by omega) fun j hj => ?_; rw [idxL_get (by omega), idxL_get (by omega)]; exact dig_same hd hn (show k < ds.length by omega) hP h j hj
theorem idx_no {ds : List Int} (hd : ∀ d ∈ ds, 1 ≤ d) {n : Int} (hn : 0 ≤ n) {m : Nat} (h1 : 1 ≤ m) (hm : m ≤ ds.length) (hP : (n + 1) % prodI (ds.drop m) = 0) (h : ¬ digI ds n (m - 1) + 1 < ds.getD (m - 1) 0) :
    (mixL (idxL ds n) (idxL ds (n + 1)) m).set (m - 1) 0 = mixL (idxL ds n) (idxL ds (n + 1)) (m - 1) ∧ (n + 1) % prodI (ds.drop (m - 1)) = 0 := by
  obtain ⟨k, rfl⟩ : ∃ k, m = k + 1 := ⟨m - 1, by omega⟩
  rw [Nat.add_sub_cancel] at h ⊢; have hl1 := idxL_len ds n; have hl2 := idxL_len ds (n + 1); have hy := dig_no hd hn (show k < ds.length by omega) hP h; refine ⟨?_, hy.2⟩; rw [← mix_down (A := idxL ds n) (B := idxL ds (n + 1)) (k := k) (by omega) (by omega), idxL_get (show k < ds.length by omega), hy.1]
end Go.Proofs.Ytdkgaejmgnojhaa
namespace Go.Proofs.Ytdkgaejmgnojhaa
set_option maxRecDepth 100000
open Go.RowKit

theorem qs_close {n : Nat} {w0 : World} {K : Env} {HS : List PH} {Q : Exit → Act → World → Prop} {e : Exit} (A l : List PH) (hs : ∀ w, Sat w0 HS w → Sat w0 (A ++ l) w) (k : Made (joinP l) l → QS n w0 Q e K (joinP l :: A)) : QS n w0 Q e K HS :=
  fun a w en s => k (hs w s).close.2 a w en (hs w s).close.1
structure OwnL (xss : List (List Int)) (vs : List Value) (hs : List PH) : Prop where
  l1 : vs.length = xss.length
  l2 : hs.length = xss.length
  own : ∀ (i : Nat) (xs : List Int), xss[i]? = some xs → ∃ v h, vs[i]? = some v ∧ hs[i]? = some h ∧ IntsO xs v h
theorem OwnL.nil : OwnL [] [] [] := ⟨rfl, rfl, fun i xs h => by simp at h⟩
theorem OwnL.append {xss yss : List (List Int)} {vs us : List Value} {hs gs : List PH} (a : OwnL xss vs hs) (b : OwnL yss us gs) : OwnL (xss ++ yss) (vs ++ us) (hs ++ gs) := by
  refine ⟨by simp [a.l1, b.l1], by simp [a.l2, b.l2], fun i xs h => ?_⟩
  by_cases hi : i < xss.length
  · rw [List.getElem?_append_left hi] at h; rw [List.getElem?_append_left (by rw [a.l1]; exact hi), List.getElem?_append_left (by rw [a.l2]; exact hi)]; exact a.own i xs h
  · rw [List.getElem?_append_right (by omega)] at h; rw [List.getElem?_append_right (by rw [a.l1]; omega), List.getElem?_append_right (by rw [a.l2]; omega), a.l1, a.l2]; exact b.own _ xs h
theorem OwnL.three {l d x : List Int} {a b c : Value} {h1 h2 h3 : PH} (r1 : IntsO l a h1) (r2 : IntsO d b h2) (r3 : IntsO x c h3) : OwnL [l, d, x] [a, b, c] [h1, h2, h3] := by
  refine ⟨rfl, rfl, fun i xs h => ?_⟩
  match i, h with
  | 0, h => cases h; exact ⟨a, h1, rfl, rfl, r1⟩
  | 1, h => cases h; exact ⟨b, h2, rfl, rfl, r2⟩
  | 2, h => cases h; exact ⟨c, h3, rfl, rfl, r3⟩
  | i + 3, h => simp at h
theorem OwnL.set {xss : List (List Int)} {vs : List Value} {hs : List PH} (a : OwnL xss vs hs) {i : Nat} {v : Value} {ys : List Int} {h' : PH} (hv : vs[i]? = some v) (r : IntsO ys v h') : OwnL (xss.set i ys) vs (hs.set i h') := by
  have hi : i < vs.length := (List.getElem?_eq_some_iff.1 hv).1; refine ⟨by simp [a.l1], by simp [a.l2], fun j xs h => ?_⟩
  by_cases e : j = i
  · subst e; rw [List.getElem?_set_self (by rw [← a.l1]; exact hi)] at h
    cases h
    exact ⟨v, h', hv, List.getElem?_set_self (by rw [a.l2, ← a.l1]; exact hi), r⟩
  · rw [List.getElem?_set_ne (Ne.symm e)] at h; rw [List.getElem?_set_ne (Ne.symm e)]; exact a.own j xs h
def flat (ts : List Ten) : List (List Int) := ts.flatMap fun t => [t.l, t.d, t.x]
theorem flat_append (a b : List Ten) : flat (a ++ b) = flat a ++ flat b := by simp [flat]
theorem flat_len : ∀ ts : List Ten, (flat ts).length = ts.length * 3
  | [] => rfl
  | t :: r => by
    have := flat_len r; simp only [flat, List.flatMap_cons, List.length_append, List.length_cons, List.length_nil] at *
    omega
theorem tens_get : ∀ {ts : List Ten} {i : Nat} {t : Ten}, ts[i]? = some t → (flat ts)[i * 3]? = some t.l ∧ (flat ts)[i * 3 + 1]? = some t.d ∧ (flat ts)[i * 3 + 2]? = some t.x
  | [], i, t, h => by simp at h
  | u :: r, 0, t, h => by cases h; exact ⟨rfl, rfl, rfl⟩
  | u :: r, i + 1, t, h => by
    have := tens_get (ts := r) (i := i) (t := t) (by simpa using h); have e : ∀ j, (flat (u :: r))[(i + 1) * 3 + j]? = (flat r)[i * 3 + j]? := fun j => by
      show (u.l :: u.d :: u.x :: flat r)[(i + 1) * 3 + j]? = _
      rw [show (i + 1) * 3 + j = i * 3 + j + 1 + 1 + 1 by omega]
      simp
    exact ⟨by have := e 0; simp only [Nat.add_zero] at this; rw [this]; simp_all, by rw [e 1]; exact this.2.1, by rw [e 2]; exact this.2.2⟩
/-- Tensors that own their parts. -/
def TensO (ts : List Ten) (v : Value) (h : PH) : Prop := ∃ vs h0 hs, RowO 48 vs ts.length 3 v h0 ∧ OwnL (flat ts) vs hs ∧ Made h (h0 :: hs)
theorem three_at {vs : List Value} {i : Nat} {a b c : Value} (h0 : vs[i * 3]? = some a) (h1 : vs[i * 3 + 1]? = some b) (h2 : vs[i * 3 + 2]? = some c) : (vs.drop (i * 3)).take 3 = [a, b, c] := by
  apply List.ext_getElem?
  intro j; rw [List.getElem?_take]
  match j with
  | 0 => simpa using h0
  | 1 => simpa using h1
  | 2 => simpa using h2
  | j + 3 => rw [if_neg (by omega)]; simp
theorem OwnL.tens {ts : List Ten} {vs : List Value} {v : Value} {h : PH} {hs : List PH} (r0 : RowR vs ts.length 3 v h) (o : OwnL (flat ts) vs hs) (hle : ∀ x ∈ hs, PLe x h) : TensR ts v h := by
  refine ⟨vs, r0, fun i t ht => ?_⟩; obtain ⟨f1, f2, f3⟩ := tens_get ht; obtain ⟨a, h1, e1, g1, r1⟩ := o.own _ _ f1; obtain ⟨b, h2, e2, g2, r2⟩ := o.own _ _ f2; obtain ⟨c, h3, e3, g3, r3⟩ := o.own _ _ f3; exact ⟨a, b, c, three_at e1 e2 e3, r1.toR.mono (hle _ (List.mem_of_getElem? g1)), r2.toR.mono (hle _ (List.mem_of_getElem? g2)), r3.toR.mono (hle _ (List.mem_of_getElem? g3))⟩
theorem TensO.toR {ts : List Ten} {v : Value} {h : PH} (r : TensO ts v h) : TensR ts v h := by
  obtain ⟨vs, h0, hs, r0, o, m⟩ := r; exact OwnL.tens (r0.toR.mono (m.le h0 (by simp))) o (fun x hx => m.le x (by simp [hx]))
/-- A network that owns its parts. -/
def NetO (ts : List Ten) (op : List Int) (vt vo : Value) (h : PH) : Prop := ∃ vs h0 ho hs, RowO 48 vs ts.length 3 vt h0 ∧ IntsO op vo ho ∧ OwnL (flat ts) vs hs ∧ Made h (h0 :: ho :: hs)
theorem NetO.toR {ts : List Ten} {op : List Int} {vt vo : Value} {h : PH} (r : NetO ts op vt vo h) : TensR ts vt h ∧ IntsR op vo h := by
  obtain ⟨vs, h0, ho, hs, r0, r1, o, m⟩ := r; exact ⟨OwnL.tens (r0.toR.mono (m.le h0 (by simp))) o (fun x hx => m.le x (by simp [hx])), r1.toR.mono (m.le ho (by simp))⟩
def TenO (t : Ten) (u : Value) (h : PH) : Prop := ∃ a b c h1 h2 h3, u = tenV a b c ∧ IntsO t.l a h1 ∧ IntsO t.d b h2 ∧ IntsO t.x c h3 ∧ Made h [h1, h2, h3]
theorem ct_l_toTensor (t : Ten) (a b c : Value) (w : World) (r1 : IntsR t.l a (hp w)) (r2 : IntsR t.d b (hp w)) (r3 : IntsR t.x c (hp w)) (hs : tenSize t ≤ 1048576) :
    Calls Try.prog 57 [tenV a b c].toArray w (Ret w emp (TenO t)) := by
  unfold tenSize at hs
  refine calls_in Try.func57 rfl Try.ntmps57 rfl (Sat.start w) (wp_sc (wp_sq ?_)); refine sq_x rfl (x_box rfl rfl) rfl ?_; rintro _ _ ⟨b1, rfl, rfl⟩; refine sq_x rfl (x_alloc ty_48 rfl) rfl ?_; rintro _ _ ⟨b2, rfl, rfl⟩; refine sq_end (qs_n (wp_sc (wp_sq ?_))); refine sq_x rfl (x_alloc ty_48 rfl) rfl ?_; rintro _ _ ⟨b3, rfl, rfl⟩; refine sq_end (qs_n (wp_sc (wp_sq (sq_v rfl (v_fieldAddr fd_66_0 ty_25 (by decide) rfl) rfl (sq_v rfl (v_loadB 2 ty_25 rfl rfl rfl) rfl ?_))))); refine sq_x rfl (x_call rfl en_25 (fun w s => ct_l_toIntS _ _ w (r1.mono (s.get 3 rfl)) (by omega))) rfl ?_; rintro v6 h6 r6; refine sq_v rfl (v_fieldAddr fd_48_0 ty_25 (by decide) rfl) rfl ?_; refine sq_m 1 rfl rfl (m_store1 1 ty_25 rfl rfl r6.toR.sl.one rfl (Nat.le_of_ble_eq_true rfl)) rfl ?_; rintro _ _ ⟨rfl, rfl⟩; refine sq_end (qs_n (wp_sc (wp_sq (sq_v rfl (v_fieldAddr fd_66_1 ty_25 (by decide) rfl) rfl (sq_v rfl (v_loadB 3 ty_25 rfl rfl rfl) rfl ?_))))); refine sq_x rfl (x_call rfl en_25 (fun w s => ct_l_toIntS _ _ w (r2.mono (s.get 4 rfl)) (by omega))) rfl ?_; rintro v10 h10 r10; refine sq_v rfl (v_fieldAddr fd_48_1 ty_25 (by decide) rfl) rfl ?_; refine sq_m 2 rfl rfl (m_store1 2 ty_25 rfl rfl r10.toR.sl.one rfl (Nat.le_of_ble_eq_true rfl)) rfl ?_; rintro _ _ ⟨rfl, rfl⟩; refine sq_end (qs_n (wp_sc (wp_sq (sq_v rfl (v_fieldAddr fd_66_2 ty_25 (by decide) rfl) rfl (sq_v rfl (v_loadB 4 ty_25 rfl rfl rfl) rfl ?_))))); refine sq_x rfl (x_call rfl en_25 (fun w s => ct_l_toIntS _ _ w (r3.mono (s.get 5 rfl)) (by omega))) rfl ?_; rintro v14 h14 r14; refine sq_v rfl (v_fieldAddr fd_48_2 ty_25 (by decide) rfl) rfl ?_; refine sq_m 3 rfl rfl (m_store1 3 ty_25 rfl rfl r14.toR.sl.one rfl (Nat.le_of_ble_eq_true rfl)) rfl ?_; rintro _ _ ⟨rfl, rfl⟩; refine sq_end (qs_n (wp_sc (wp_sq (sq_v rfl (v_loadNB 3 ty_48 rfl rfl rfl rfl) rfl ?_)))); refine sq_m 4 rfl rfl (m_store 4 ty_48 rfl rfl rfl rfl (by simp [r6.toR.sl.one, r10.toR.sl.one, r14.toR.sl.one]) rfl (Nat.le_of_ble_eq_true rfl)) rfl ?_; rintro _ _ ⟨rfl, rfl⟩; refine sq_end (qs_n (wp_rt ?_)); refine qs_close [box b2 _ _, hp w] [h6, h10, h14] (fun _ s => s.pick [4, 6, 2, 1, 0] (by decide) rfl) (fun md => ?_); exact qs_retc 1 rfl ty_48 rfl rfl rfl (fin_t 0 (i := 2) rfl rfl rfl ⟨v6, v10, v14, h6, h10, h14, rfl, r6, r10, r14, md⟩)
def nil3 : List Value := [.slice none 0 0, .slice none 0 0, .slice none 0 0]
theorem row_step {vs : List Value} {i m : Nat} {a b c : Value} (hv : vs.length = i * 3) : (vs ++ (List.replicate (m + 1) nil3).flatten).take (i * 3) ++ [a, b, c] ++ (vs ++ (List.replicate (m + 1) nil3).flatten).drop (i * 3 + 3) = (vs ++ [a, b, c]) ++ (List.replicate m nil3).flatten := by
  rw [← hv, List.take_left, List.drop_append, List.drop_of_length_le (by omega), List.nil_append, List.replicate_succ, List.flatten_cons]; have : vs.length + 3 - vs.length = nil3.length := by simp [nil3]
  rw [this, List.drop_left]
theorem ct_l_toTensorS (ts : List Ten) (v : Value) (w : World) (r : TensR ts v (hp w)) (hs : ts.length + tensSize ts ≤ 1048576) :
    Calls Try.prog 24 [v].toArray w (Ret w emp (TensO ts)) := by
  have hx := r.le; have hn := tensSize_nn ts; obtain ⟨cells, rr, hc⟩ := r.at; refine calls_in Try.func24 rfl Try.ntmps24 rfl (Sat.start w) (wp_sc (wp_sq (sq_v rfl (v_assign rfl) rfl (sq_end (qs_n (wp_sc (wp_sq (sq_v rfl (v_move rfl) rfl (sq_v rfl (v_len Try.underlying24 rfl r.sl) rfl ?_))))))))); refine sq_x rfl (x_make Try.underlying29 ty_48 rfl rfl rfl rfl (by omega) (by omega) (by omega)) rfl ?_; intro v7 h7 r7; refine sq_v rfl (v_assign rfl) rfl (sq_end (qs_n (wp_sc (wp_sc (wp_sq (sq_v rfl (v_assign rfl) rfl (sq_end (qs_n (wp_bl (wp_lp (fun s : Nat × PH × List Value × List PH => [(0, v), (3, v7), (4, num s.1)]) (fun s => s.2.1 :: hp w :: s.2.2.2) (fun s => s.1 ≤ ts.length ∧ RowO 48 (s.2.2.1 ++ (List.replicate (ts.length - s.1) nil3).flatten) ts.length 3 v7 s.2.1 ∧ OwnL (flat (ts.take s.1)) s.2.2.1 s.2.2.2) (fun s => ts.length - s.1) (0, h7, [], []) ⟨by omega, by simpa [nil3] using r7, OwnL.nil⟩ ⟨rfl, rfl, rfl, trivial⟩ (fun _ s => s) ?_)))))))))); rintro ⟨i, h0, vs, hs'⟩ ⟨hi, r0, ow⟩; dsimp only at hi r0 ow ⊢; have hvl : vs.length = i * 3 := by rw [ow.l1, flat_len, List.length_take, Nat.min_eq_left hi]
  refine wp_sc (wp_sc (wp_sq (sq_v rfl (v_move rfl) rfl (sq_v rfl (v_move rfl) rfl (sq_v rfl (v_len Try.underlying24 rfl r.sl) rfl (sq_v rfl (v_lss rfl rfl) rfl (sq_end (qs_n ?_)))))))); refine wp_cd rfl (fun c11 => ?_) (fun c11 => ?_)
  · refine wp_sk (qs_n (wp_sc (wp_bl (wp_sq (sq_v rfl (v_move rfl) rfl (sq_v rfl (v_move rfl) rfl (sq_v rfl (v_move rfl) rfl (sq_v rfl (v_move rfl) rfl ?_)))))))); obtain ⟨t, a, b, c, ht, hcs, r1, r2, r3⟩ := hc i (by omega); have hst := tensSize_step ht; have htk := tensSize_take ts (i + 1); have hnd := tensSize_nn (ts.drop (i + 1)); have hnn := tensSize_nn (ts.take i); refine sq_v rfl (v_indexAddr Try.underlying24 ty_66 rfl rfl rr (by decide) (by omega) (by omega)) rfl ?_; refine sq_v rfl (v_loadNE 1 ty_66 rfl rfl rr (by have := rr.1; omega) rfl hcs) rfl ?_; refine sq_x rfl (x_call rfl en_57 (fun w s => ct_l_toTensor t _ _ _ w (r1.mono (s.get 1 rfl)) (r2.mono (s.get 1 rfl)) (r3.mono (s.get 1 rfl)) (by omega))) rfl ?_; rintro _ h20 ⟨a', b', c', h1, h2, h3, rfl, o1, o2, o3, md⟩; refine sq_v rfl (v_indexAddr Try.underlying29 ty_48 rfl rfl r0.toR (by decide) (by omega) (by omega)) rfl ?_; refine sq_m 1 rfl rfl (m_storeE 1 ty_48 rfl rfl (us := [a', b', c']) rfl rfl (by simp [o1.toR.sl.one, o2.toR.sl.one, o3.toR.sl.one]) rfl r0 (by decide) (by have := r0.1; simp only [Int.toNat_natCast]; omega)) rfl ?_; rintro _ h8 ⟨rfl, r8⟩; refine sq_end (qs_bn (qs_n (wp_sq (sq_v rfl (v_move rfl) rfl ?_)))); refine sq_v rfl (v_add rfl rfl ((by unfold I64; omega))) rfl ?_; refine sq_v rfl (v_assign rfl) rfl (sq_end ?_); obtain ⟨m, hm⟩ : ∃ m, ts.length - i = m + 1 := ⟨ts.length - i - 1, by omega⟩
    have hm' : ts.length - (i + 1) = m := by omega
    simp only [Int.toNat_natCast] at r8; rw [hm, row_step hvl] at r8; exact qs_bk (i + 1, h8, vs ++ [a', b', c'], hs' ++ [h1, h2, h3]) ⟨by simp only; omega, by simp only [hm']; exact r8, by simp only; rw [take_ten ht, flat_append]; exact ow.append (OwnL.three o1 o2 o3)⟩ (by simp only; omega) ⟨rfl, rfl, rfl, trivial⟩ (fun _ s => Sat.open md s)
  · refine wp_ex (qs_x (qs_x (qs_bx (qs_n (wp_sc (wp_sq (sq_v rfl (v_move rfl) rfl (sq_v rfl (v_assign rfl) rfl (sq_end (qs_n (wp_rt ?_))))))))))); have e : i = ts.length := by omega
    subst e; rw [Nat.sub_self, List.replicate_zero, List.flatten_nil, List.append_nil] at r0; rw [List.take_length] at ow; refine qs_close [hp w] (h0 :: hs') (fun _ s => Sat.pickT (A := [h0, hp w]) (A' := [hp w, h0]) s [1, 0] (by decide) rfl) (fun md => ?_); exact qs_ret1 rfl rfl (fin_t 0 (i := 1) rfl rfl rfl ⟨vs, h0, hs', r0, ow, md⟩)
theorem ct_l_toNetwork (k p n : Int) (ts : List Ten) (op : List Int) (vt vo : Value) (w : World) (r : TensR ts vt (hp w)) (r' : IntsR op vo (hp w)) (hs : ts.length + tensSize ts + op.length ≤ 1048576) :
    Calls Try.prog 6 [netV k p n vt vo].toArray w (Ret w emp (fun u h => ∃ vt' vo', u = netV k p n vt' vo' ∧ NetO ts op vt' vo' h)) := by
  have hn := tensSize_nn ts; refine calls_in Try.func6 rfl Try.ntmps6 rfl (Sat.start w) (wp_sc (wp_sq ?_)); refine sq_x rfl (x_box rfl rfl) rfl ?_; rintro _ _ ⟨b1, rfl, rfl⟩; refine sq_x rfl (x_alloc ty_34 rfl) rfl ?_; rintro _ _ ⟨b2, rfl, rfl⟩; refine sq_end (qs_n (wp_sc (wp_sq ?_))); refine sq_x rfl (x_alloc ty_34 rfl) rfl ?_; rintro _ _ ⟨b3, rfl, rfl⟩; refine sq_end (qs_n (wp_sc (wp_sq (sq_v rfl (v_fieldAddr fd_27_0 ty_23 (by decide) rfl) rfl (sq_v rfl (v_loadNB 2 ty_23 rfl rfl rfl rfl) rfl (sq_u rfl (x_callv rfl en_23 (fun w s => ct_l_toRing _ _ _ w)) rfl (sq_v rfl (v_fieldAddr fd_34_0 ty_32 (by decide) rfl) rfl ?_))))))); refine sq_m 0 rfl rfl (m_store 0 ty_32 rfl rfl rfl rfl (by simp [Value.oneCell']) rfl (Nat.le_of_ble_eq_true rfl)) rfl ?_; rintro _ _ ⟨rfl, rfl⟩; refine sq_end (qs_n (wp_sc (wp_sq (sq_v rfl (v_fieldAddr fd_27_1 ty_24 (by decide) rfl) rfl (sq_v rfl (v_loadB 2 ty_24 rfl rfl rfl) rfl ?_))))); refine sq_x rfl (x_call rfl en_24 (fun w s => ct_l_toTensorS _ _ w (r.mono (s.get 3 rfl)) (by omega))) rfl ?_; rintro v10 h10 r10; refine sq_v rfl (v_fieldAddr fd_34_1 ty_29 (by decide) rfl) rfl ?_; refine sq_m 1 rfl rfl (m_store1 1 ty_29 rfl rfl r10.toR.sl.one rfl (Nat.le_of_ble_eq_true rfl)) rfl ?_; rintro _ _ ⟨rfl, rfl⟩; refine sq_end (qs_n (wp_sc (wp_sq (sq_v rfl (v_fieldAddr fd_27_2 ty_25 (by decide) rfl) rfl (sq_v rfl (v_loadB 3 ty_25 rfl rfl rfl) rfl ?_))))); refine sq_x rfl (x_call rfl en_25 (fun w s => ct_l_toIntS _ _ w (r'.mono (s.get 4 rfl)) (by omega))) rfl ?_; rintro v14 h14 r14; refine sq_v rfl (v_fieldAddr fd_34_2 ty_25 (by decide) rfl) rfl ?_; refine sq_m 2 rfl rfl (m_store1 2 ty_25 rfl rfl r14.toR.sl.one rfl (Nat.le_of_ble_eq_true rfl)) rfl ?_; rintro _ _ ⟨rfl, rfl⟩; refine sq_end (qs_n (wp_sc (wp_sq (sq_v rfl (v_loadNB 2 ty_34 rfl rfl rfl rfl) rfl ?_)))); refine sq_m 3 rfl rfl (m_store 3 ty_34 rfl rfl rfl rfl (by simp [one_int, r10.toR.sl.one, r14.toR.sl.one]) rfl (Nat.le_of_ble_eq_true rfl)) rfl ?_; rintro _ _ ⟨rfl, rfl⟩; refine sq_end (qs_n (wp_rt ?_)); obtain ⟨vs, h0, hs', r0, ow, md0⟩ := id r10; refine qs_close [box b2 _ _, hp w] (h0 :: h14 :: hs') (fun _ s => Sat.pickT (A := [h14, box b2 _ _, hp w, h0]) (A' := [box b2 _ _, hp w, h0, h14]) (Sat.open (A := [h14, box b2 _ _, hp w]) md0 (s.pick [1, 0, 3, 5] (by decide) rfl)) [1, 2, 3, 0] (by decide) rfl) (fun md => ?_); exact qs_retc 1 rfl ty_34 rfl rfl rfl (fin_t 0 (i := 2) rfl rfl rfl ⟨_, _, rfl, vs, h0, h14, hs', r0, r14, ow, md⟩)
end Go.Proofs.Ytdkgaejmgnojhaa
namespace Go.Proofs.Ytdkgaejmgnojhaa
set_option maxRecDepth 100000
open Go.RowKit

/-- From k on, each number of the lists is one more than the number before it; the next would be k'. -/
def HeldL : Int → List (List Int) → Int → Prop
  | k, [], k' => k = k'
  | k, xs :: r, k' => xs = iota k xs.length ∧ HeldL (k + xs.length) r k'
theorem HeldL.le : ∀ {xss : List (List Int)} {k k' : Int}, HeldL k xss k' → k ≤ k'
  | [], k, k', h => by have : k = k' := h; omega
  | xs :: r, k, k', h => by have := HeldL.le h.2; omega
theorem HeldL.append : ∀ {xss yss : List (List Int)} {k k1 k' : Int}, HeldL k xss k1 → HeldL k1 yss k' → HeldL k (xss ++ yss) k'
  | [], yss, k, k1, k', h, g => by have : k = k1 := h; subst this; exact g
  | xs :: r, yss, k, k1, k', h, g => ⟨h.1, HeldL.append h.2 g⟩
theorem iota_held (k : Int) (m : Nat) : iota k m = iota k (iota k m).length := by rw [iota_len]
theorem held_three (q : Int) (m1 m2 m3 : Nat) {e : Int} (he : e = q + m1 + m2 + m3) : HeldL q [iota q m1, iota (q + m1) m2, iota (q + m1 + m2) m3] e := by
  refine ⟨iota_held _ _, by simp only [iota_len], by simp only [iota_len], ?_⟩; simp only [iota_len]
  show _ = _
  exact he.symm
theorem flat_cons (t : Ten) (r : List Ten) : flat (t :: r) = t.l :: t.d :: t.x :: flat r := rfl
theorem flat_set3 {A B : List Ten} {t : Ten} {i : Nat} (hA : A.length = i) (l d x : List Int) : (((flat (A ++ t :: B)).set (i * 3) l).set (i * 3 + 1) d).set (i * 3 + 2) x = flat (A ++ ⟨l, d, x⟩ :: B) := by
  have hl : (flat A).length = i * 3 := by rw [flat_len, hA]
  rw [flat_append, flat_append, flat_cons, flat_cons, List.set_append_right _ _ (by omega), List.set_append_right _ _ (by omega), List.set_append_right _ _ (by omega), hl]; have e1 : i * 3 - i * 3 = 0 := by omega
  have e2 : i * 3 + 1 - i * 3 = 1 := by omega
  have e3 : i * 3 + 2 - i * 3 = 2 := by omega
  rw [e1, e2, e3]
  rfl
theorem ct_l_markTensorS (ts : List Ten) (v : Value) (k : Int) (w : World) (h : PH) (hle : PLe h (hp w)) (r : TensO ts v h) (hk : 0 ≤ k ∧ k + tensSize ts ≤ 4611686018427387904) :
    Calls Try.prog 11 [v, num k].toArray w (Ret w h (fun u h' => u = num (k + tensSize ts) ∧ ∃ ts', TensO ts' v h' ∧ HeldL k (flat ts') (k + tensSize ts))) := by
  obtain ⟨vs, h0, hs, r0, ow, md⟩ := r; have hx : (ts.length : Int) ≤ 9223372036854775807 := by obtain ⟨_, _, _, _, ⟨h, _⟩, _⟩ := r0.toR; unfold maxLen at h; omega
  refine calls_in Try.func11 rfl Try.ntmps11 rfl (Sat.start2 hle) (wp_sc (wp_sq (sq_v rfl (v_assign rfl) rfl (sq_end (qs_n (wp_sc (wp_sc (wp_sq (sq_v rfl (v_assign rfl) rfl (sq_end (qs_n (wp_bl ?_)))))))))))); refine wp_lp (fun s : Nat × List Ten × List PH => [(0, v), (1, num (k + tensSize (ts.take s.1))), (5, num s.1)]) (fun s => restP w h :: h0 :: s.2.2) (fun s => s.1 ≤ ts.length ∧ s.2.1.length = s.1 ∧ OwnL (flat (s.2.1 ++ ts.drop s.1)) vs s.2.2 ∧ HeldL k (flat s.2.1) (k + tensSize (ts.take s.1))) (fun s => ts.length - s.1) (0, [], hs) ⟨by omega, rfl, ow, by simp [flat, HeldL, tensSize]⟩ ⟨rfl, by show _ = some (num (k + 0)); rw [Int.add_zero]; rfl, rfl, trivial⟩ (fun _ s => Sat.open (A := [restP w h]) md s) ?_; rintro ⟨i, A, hs'⟩ ⟨hi, hA, ow', hh⟩; dsimp only at hi hA ow' hh ⊢; refine wp_sc (wp_sc (wp_sq (sq_v rfl (v_move rfl) rfl (sq_v rfl (v_move rfl) rfl (sq_v rfl (v_len Try.underlying29 rfl r0.toR.sl) rfl (sq_v rfl (v_lss rfl rfl) rfl (sq_end (qs_n ?_)))))))); refine wp_cd rfl (fun c9 => ?_) (fun c9 => ?_)
  · refine wp_sk (qs_n (wp_sc (wp_bl (wp_sc (wp_sq (sq_v rfl (v_move rfl) rfl (sq_v rfl (v_move rfl) rfl ?_))))))); obtain ⟨t, ht⟩ : ∃ t, ts[i]? = some t := ⟨_, List.getElem?_eq_getElem (by omega)⟩; rw [drop_at ht] at ow'; obtain ⟨f1, f2, f3⟩ := tens_get (ts := A ++ t :: ts.drop (i + 1)) (i := i) (t := t) (by rw [← hA]; simp); obtain ⟨a, h1, e1, g1, o1⟩ := ow'.own _ _ f1; obtain ⟨b, h2, e2, g2, o2⟩ := ow'.own _ _ f2; obtain ⟨c, h3, e3, g3, o3⟩ := ow'.own _ _ f3; have hst := tensSize_step ht; have htk := tensSize_take ts (i + 1); have hnd := tensSize_nn (ts.drop (i + 1)); have hnn := tensSize_nn (ts.take i); have hts : tenSize t = t.l.length + t.d.length + t.x.length := rfl; have hvl := r0.1; refine sq_v rfl (v_indexAddr Try.underlying29 ty_48 rfl rfl r0.toR (by decide) (by omega) (by omega)) rfl ?_; refine sq_v rfl (v_fieldAddrE fd_48_0 ty_25 (by decide) rfl r0.toR (by simp only [Int.toNat_natCast]; omega)) rfl ?_; refine sq_v rfl (v_loadE 1 ty_25 rfl rfl r0.toR e1) rfl (sq_v rfl (v_move rfl) rfl ?_); refine sq_mT (A := [restP w h, h0]) (i * 3) (2 + i * 3) rfl rfl g1 (fun hp' => x_call rfl en_39 (fun w' s => ct_l_markIntS _ _ _ w' _ (s.get _ hp') o1 (by omega))) rfl ?_; rintro _ h18 ⟨rfl, o18⟩; refine sq_v rfl (v_assign rfl) rfl (sq_end (qs_n (wp_sc (wp_sq (sq_v rfl (v_move rfl) rfl (sq_v rfl (v_move rfl) rfl (sq_v rfl (v_indexAddr Try.underlying29 ty_48 rfl rfl r0.toR (by decide) (by omega) (by omega)) rfl ?_))))))); refine sq_v rfl (v_fieldAddrE fd_48_1 ty_25 (by decide) rfl r0.toR (by simp only [Int.toNat_natCast]; omega)) rfl ?_; refine sq_v rfl (v_loadE 1 ty_25 rfl rfl r0.toR e2) rfl (sq_v rfl (v_move rfl) rfl ?_); refine sq_mT (A := [restP w h, h0]) (i * 3 + 1) (2 + (i * 3 + 1)) rfl rfl (by rw [List.getElem?_set_ne (by omega)]; exact g2) (fun hp' => x_call rfl en_39 (fun w' s => ct_l_markIntS _ _ _ w' _ (s.get _ hp') o2 (by omega))) rfl ?_; rintro _ h25 ⟨rfl, o25⟩; refine sq_v rfl (v_assign rfl) rfl (sq_end (qs_n (wp_sq (sq_v rfl (v_move rfl) rfl (sq_v rfl (v_move rfl) rfl (sq_v rfl (v_indexAddr Try.underlying29 ty_48 rfl rfl r0.toR (by decide) (by omega) (by omega)) rfl ?_)))))); refine sq_v rfl (v_fieldAddrE fd_48_2 ty_25 (by decide) rfl r0.toR (by simp only [Int.toNat_natCast]; omega)) rfl ?_; refine sq_v rfl (v_loadE 1 ty_25 rfl rfl r0.toR e3) rfl (sq_v rfl (v_move rfl) rfl ?_); refine sq_mT (A := [restP w h, h0]) (i * 3 + 2) (2 + (i * 3 + 2)) rfl rfl (by rw [List.getElem?_set_ne (by omega), List.getElem?_set_ne (by omega)]; exact g3) (fun hp' => x_call rfl en_39 (fun w' s => ct_l_markIntS _ _ _ w' _ (s.get _ hp') o3 (by omega))) rfl ?_; rintro _ h32 ⟨rfl, o32⟩; refine sq_v rfl (v_assign rfl) rfl (sq_end (qs_bn (qs_n (wp_sq (sq_v rfl (v_move rfl) rfl ?_))))); refine sq_v rfl (v_add rfl rfl ((by unfold I64; omega))) rfl ?_; refine sq_v rfl (v_assign rfl) rfl (sq_end ?_); have ow3 := ((ow'.set e1 o18).set e2 o25).set e3 o32; rw [flat_set3 hA] at ow3; refine qs_bk (i + 1, A ++ [_], ((hs'.set (i * 3) h18).set (i * 3 + 1) h25).set (i * 3 + 2) h32) ⟨by simp only; omega, by simp [hA], by simp only; rw [List.append_assoc]; exact ow3, ?_⟩ (by simp only; omega) ⟨rfl, by rw [hst, hts, ← Int.add_assoc, ← Int.add_assoc, ← Int.add_assoc]; rfl, rfl, trivial⟩ (fun _ s => s)
    simp only
    rw [flat_append, hst, hts]; exact hh.append (held_three _ _ _ _ (by omega))
  · refine wp_ex (qs_x (qs_x (qs_bx (qs_n (wp_sc (wp_sq (sq_v rfl (v_move rfl) rfl (sq_v rfl (v_assign rfl) rfl (sq_end (qs_n (wp_rt ?_))))))))))); have e : i = ts.length := by omega
    subst e; rw [List.drop_length, List.append_nil] at ow'; rw [List.take_length] at hh; refine qs_close [restP w h] (h0 :: hs') (fun _ s => s) (fun md' => ?_); exact qs_ret1 rfl rfl (fin_m (i := 1) 0 rfl rfl rfl ⟨by rw [List.take_length], A, ⟨vs, h0, hs', by rw [hA]; exact r0, ow', md'⟩, hh⟩)
theorem three_get {cells : List Value} {i : Nat} {a b c : Value} (h : (cells.drop (i * 3)).take 3 = [a, b, c]) : cells[i * 3]? = some a ∧ cells[i * 3 + 1]? = some b ∧ cells[i * 3 + 2]? = some c := by
  have e : ∀ j, j < 3 → cells[i * 3 + j]? = [a, b, c][j]? := fun j hj => by rw [← h, List.getElem?_take, if_pos hj, List.getElem?_drop]
  exact ⟨e 0 (by omega), e 1 (by omega), e 2 (by omega)⟩
theorem ct_l_heldTensorS (ts : List Ten) (v : Value) (k k' : Int) (w : World) (r : TensR ts v (hp w)) (hh : HeldL k (flat ts) k') (hk : 0 ≤ k ∧ k' ≤ 4611686018427387904) :
    Calls Try.prog 12 [v, num k].toArray w (RetV w (num k')) := by
  have hx := r.le; obtain ⟨cells, rr, hc⟩ := r.at; refine calls_in Try.func12 rfl Try.ntmps12 rfl (Sat.start w) (wp_sc (wp_sq (sq_v rfl (v_assign rfl) rfl (sq_end (qs_n (wp_sc (wp_sc (wp_sq (sq_v rfl (v_assign rfl) rfl (sq_end (qs_n (wp_bl (wp_lp (fun s : Nat × Int => [(0, v), (1, num s.2), (5, num s.1)]) (fun _ => [hp w]) (fun s => s.1 ≤ ts.length ∧ 0 ≤ s.2 ∧ HeldL s.2 (flat (ts.drop s.1)) k') (fun s => ts.length - s.1) (0, k) ⟨by omega, hk.1, hh⟩ ⟨rfl, rfl, rfl, trivial⟩ (fun _ s => s) ?_))))))))))))); rintro ⟨i, q⟩ ⟨hi, hq, hr⟩; dsimp only at hi hq hr ⊢; refine wp_sc (wp_sc (wp_sq (sq_v rfl (v_move rfl) rfl (sq_v rfl (v_move rfl) rfl (sq_v rfl (v_len Try.underlying29 rfl r.sl) rfl (sq_v rfl (v_lss rfl rfl) rfl (sq_end (qs_n ?_)))))))); refine wp_cd rfl (fun c9 => ?_) (fun c9 => ?_)
  · refine wp_sk (qs_n (wp_sc (wp_bl (wp_sc (wp_sq (sq_v rfl (v_move rfl) rfl (sq_v rfl (v_move rfl) rfl ?_))))))); obtain ⟨t, a, b, c, ht, hcs, r1, r2, r3⟩ := hc i (by omega); obtain ⟨e1, e2, e3⟩ := three_get hcs; rw [drop_at ht, flat_cons] at hr; obtain ⟨i1, i2, i3, i4⟩ := hr; have hlast := i4.le; have hcl := rr.1; refine sq_v rfl (v_indexAddr Try.underlying29 ty_48 rfl rfl rr (by decide) (by omega) (by omega)) rfl ?_; refine sq_v rfl (v_fieldAddrE fd_48_0 ty_25 (by decide) rfl rr (by simp only [Int.toNat_natCast]; omega)) rfl ?_; refine sq_v rfl (v_loadE 0 ty_25 rfl rfl rr e1) rfl (sq_v rfl (v_move rfl) rfl (sq_u rfl (x_callv rfl en_40 (fun w s => ct_l_heldIntS _ _ _ w (r1.mono (s.get 0 rfl)) i1 (by omega))) rfl (sq_v rfl (v_assign rfl) rfl (sq_end (qs_n (wp_sc (wp_sc (wp_sq (sq_v rfl (v_move rfl) rfl (sq_v rfl (v_lss rfl rfl) rfl (sq_end (qs_n ?_)))))))))))); refine wp_cd rfl (fun c20 => ?_) (fun c20 => ?_)
    · refine wp_sc (wp_sq (sq_v rfl (v_assign rfl) rfl (sq_end (qs_n (wp_rt (qs_r (qs_br (qs_r (qs_r (qs_br (qs_r ?_))))))))))); exact absurd c20 (by omega)
    · refine wp_sk (qs_n (wp_sc (wp_sq (sq_v rfl (v_move rfl) rfl (sq_v rfl (v_move rfl) rfl (sq_v rfl (v_indexAddr Try.underlying29 ty_48 rfl rfl rr (by decide) (by omega) (by omega)) rfl ?_)))))); refine sq_v rfl (v_fieldAddrE fd_48_1 ty_25 (by decide) rfl rr (by simp only [Int.toNat_natCast]; omega)) rfl ?_; refine sq_v rfl (v_loadE 0 ty_25 rfl rfl rr e2) rfl (sq_v rfl (v_move rfl) rfl (sq_u rfl (x_callv rfl en_40 (fun w s => ct_l_heldIntS _ _ _ w (r2.mono (s.get 0 rfl)) i2 (by omega))) rfl (sq_v rfl (v_assign rfl) rfl (sq_end (qs_n (wp_sc (wp_sc (wp_sq (sq_v rfl (v_move rfl) rfl (sq_v rfl (v_lss rfl rfl) rfl (sq_end (qs_n ?_)))))))))))); refine wp_cd rfl (fun c29 => ?_) (fun c29 => ?_)
      · refine wp_sc (wp_sq (sq_v rfl (v_assign rfl) rfl (sq_end (qs_n (wp_rt (qs_r (qs_br (qs_r (qs_r (qs_br (qs_r ?_))))))))))); exact absurd c29 (by omega)
      · refine wp_sk (qs_n (wp_sc (wp_sq (sq_v rfl (v_move rfl) rfl (sq_v rfl (v_move rfl) rfl (sq_v rfl (v_indexAddr Try.underlying29 ty_48 rfl rfl rr (by decide) (by omega) (by omega)) rfl ?_)))))); refine sq_v rfl (v_fieldAddrE fd_48_2 ty_25 (by decide) rfl rr (by simp only [Int.toNat_natCast]; omega)) rfl ?_; refine sq_v rfl (v_loadE 0 ty_25 rfl rfl rr e3) rfl (sq_v rfl (v_move rfl) rfl (sq_u rfl (x_callv rfl en_40 (fun w s => ct_l_heldIntS _ _ _ w (r3.mono (s.get 0 rfl)) i3 (by omega))) rfl (sq_v rfl (v_assign rfl) rfl (sq_end (qs_n (wp_sc (wp_sq (sq_v rfl (v_move rfl) rfl (sq_v rfl (v_lss rfl rfl) rfl (sq_end (qs_n ?_))))))))))); refine wp_cd rfl (fun c38 => ?_) (fun c38 => ?_)
        · refine wp_sc (wp_sq (sq_v rfl (v_assign rfl) rfl (sq_end (qs_n (wp_rt (qs_br (qs_r (qs_r (qs_br (qs_r ?_)))))))))); exact absurd c38 (by omega)
        · refine wp_sk (qs_bn (qs_n (wp_sq (sq_v rfl (v_move rfl) rfl ?_)))); refine sq_v rfl (v_add rfl rfl ((by unfold I64; omega))) rfl ?_; refine sq_v rfl (v_assign rfl) rfl (sq_end ?_); exact qs_bk (i + 1, q + t.l.length + t.d.length + t.x.length) ⟨by simp only; omega, by simp only; omega, i4⟩ (by simp only; omega) ⟨rfl, rfl, rfl, trivial⟩ (fun _ s => s)
  · refine wp_ex (qs_x (qs_x (qs_bx (qs_n (wp_sc (wp_sq (sq_v rfl (v_move rfl) rfl (sq_v rfl (v_assign rfl) rfl (sq_end (qs_n (wp_rt ?_))))))))))); refine qs_ret1 rfl rfl (fin_q (i := 0) rfl ?_); rw [List.drop_of_length_le (by omega)] at hr; have : q = k' := hr; rw [this]
theorem ct_l_markNetwork (kd p n : Int) (ts : List Ten) (op : List Int) (vt vo : Value) (k : Int) (w : World) (h : PH) (hle : PLe h (hp w)) (r : NetO ts op vt vo h) (hk : 0 ≤ k ∧ k + tensSize ts + op.length ≤ 4611686018427387904) :
    Calls Try.prog 10 [netV kd p n vt vo, num k].toArray w (Ret w h (fun u h' => u = num (k + tensSize ts + op.length) ∧ ∃ ts' op', NetO ts' op' vt vo h' ∧ HeldL k (flat ts' ++ [op']) (k + tensSize ts + op.length))) := by
  obtain ⟨vs, h0, ho, hs, r0, r1, ow, md⟩ := r; have hnn := tensSize_nn ts; have md0 : Made (joinP (h0 :: hs)) (h0 :: hs) := Made.join ⟨fun x hx => md.sep.1 x (by simp [hx]), md.sep.2.2⟩; have hent : Sat w [joinP (h0 :: hs), ho, restP w h] w := by
    have s1 := Sat.open (A := [restP w h]) md (Sat.start2 hle); have s2 := Sat.pickT (A := [restP w h, h0, ho]) (A' := [ho, restP w h, h0]) s1 [2, 0, 1] (by decide) rfl; exact (Sat.close (A := [ho, restP w h]) (l := h0 :: hs) s2).1
  refine calls_in Try.func10 rfl Try.ntmps10 rfl hent (wp_sc (wp_sq ?_)); refine sq_x rfl (x_box rfl rfl) rfl ?_; rintro _ _ ⟨b2, rfl, rfl⟩; refine sq_v rfl (v_assign rfl) rfl (sq_end (qs_n (wp_sc (wp_sq (sq_v rfl (v_fieldAddr fd_34_1 ty_29 (by decide) rfl) rfl (sq_v rfl (v_loadB 0 ty_29 rfl rfl rfl) rfl (sq_v rfl (v_move rfl) rfl ?_))))))); refine sq_m 1 rfl rfl (x_call rfl en_11 (fun w s => ct_l_markTensorS ts _ _ w _ (s.get 1 rfl) ⟨vs, h0, hs, r0, ow, md0⟩ (by omega))) rfl ?_; rintro _ h8 ⟨rfl, ts', r8, hl8⟩; refine sq_v rfl (v_assign rfl) rfl (sq_end (qs_n (wp_sc (wp_sq (sq_v rfl (v_fieldAddr fd_34_2 ty_25 (by decide) rfl) rfl (sq_v rfl (v_loadB 0 ty_25 rfl rfl rfl) rfl (sq_v rfl (v_move rfl) rfl ?_))))))); refine sq_m 2 rfl rfl (x_call rfl en_39 (fun w s => ct_l_markIntS op _ _ w _ (s.get 2 rfl) r1 (by omega))) rfl ?_; rintro _ h12 ⟨rfl, r12⟩; refine sq_v rfl (v_assign rfl) rfl (sq_end (qs_n (wp_sc (wp_sq (sq_v rfl (v_move rfl) rfl (sq_v rfl (v_assign rfl) rfl (sq_end (qs_n (wp_rt ?_))))))))); obtain ⟨vs', g0, gs, q0, ow8, md8⟩ := id r8; refine qs_close [box b2 _ _, restP w h] (g0 :: h12 :: gs) (fun _ s => Sat.pickT (A := [box b2 _ _, h12, restP w h, g0]) (A' := [box b2 _ _, restP w h, g0, h12]) (Sat.open (A := [box b2 _ _, h12, restP w h]) md8 (s.pick [1, 0, 2, 3] (by decide) rfl)) [0, 2, 3, 1] (by decide) rfl) (fun md' => ?_); exact qs_ret1 rfl rfl (fin_m (i := 2) 0 rfl rfl rfl ⟨rfl, ts', _, ⟨vs', g0, h12, gs, q0, r12, ow8, md'⟩, hl8.append ⟨iota_held _ _, by rw [iota_len]; exact rfl⟩⟩)
theorem HeldL.part : ∀ {xss yss : List (List Int)} {k k' : Int}, HeldL k (xss ++ yss) k' → ∃ k1, HeldL k xss k1 ∧ HeldL k1 yss k'
  | [], yss, k, k', h => ⟨k, rfl, h⟩
  | xs :: r, yss, k, k', h => by
    obtain ⟨k1, h1, h2⟩ := HeldL.part (xss := r) (yss := yss) h.2; exact ⟨k1, ⟨h.1, h1⟩, h2⟩
end Go.Proofs.Ytdkgaejmgnojhaa
namespace Go.Proofs.Ytdkgaejmgnojhaa
set_option maxRecDepth 100000
open Go.RowKit
section
variable {P : Program} {n : Nat} {w0 : World} {K : Env} {HS : List PH} {d : Option Tmp} {ty : TypeId} {ps : String} {af : Array Edge} {g : Option (Nat × Bool)}
theorem v_neqs {t t' : TypeId} {x y : Operand} {k : IntKind} {a : Int} (hx : ev K x = some (.int k a)) (hy : ev K y = some (.int k a)) : StepV P n w0 K HS ⟨d, .binOp .neq t x y t', ty, ps, af, g⟩ (.bool false) := by
  have := v_neq (P := P) (n := n) (w0 := w0) (HS := HS) (d := d) (t := t) (t' := t') (ty := ty) (ps := ps) (af := af) (g := g) hx hy
  simpa using this
theorem v_neqsb {t t' : TypeId} {x y : Operand} {a : Bool} (ht : P.underlying t = some .bool) (hx : ev K x = some (.bool a)) (hy : ev K y = some (.bool a)) : StepV P n w0 K HS ⟨d, .binOp .neq t x y t', ty, ps, af, g⟩ (.bool false) := by
  have := v_neqb (P := P) (n := n) (w0 := w0) (HS := HS) (d := d) (t := t) (t' := t') (ty := ty) (ps := ps) (af := af) (g := g) ht hx hy
  simpa using this
end
/-- A network that owns its parts, as a call returns it. -/
def NetT (k p n : Int) (ts : List Ten) (op : List Int) (u : Value) (h : PH) : Prop := ∃ vt vo, u = netV k p n vt vo ∧ NetO ts op vt vo h
theorem ct_L_toNetwork (k p n : Int) (ts : List Ten) (op : List Int) (vt vo : Value) (w : World) (r : TensR ts vt (hp w)) (r' : IntsR op vo (hp w)) (hs : ts.length + tensSize ts + op.length ≤ 1048576) :
    Calls Try.prog 6 [netV k p n vt vo].toArray w (Ret w emp (NetT k p n ts op)) := ct_l_toNetwork k p n ts op vt vo w r r' hs
/-- The marks of a network. -/
def NetM (vt vo : Value) (k e : Int) (u : Value) (h : PH) : Prop := u = num e ∧ ∃ ts op, NetO ts op vt vo h ∧ HeldL k (flat ts ++ [op]) e
theorem ct_L_markNetwork (kd p n : Int) (ts : List Ten) (op : List Int) (vt vo : Value) (k : Int) (w : World) (h : PH) (hle : PLe h (hp w)) (r : NetO ts op vt vo h) (hk : 0 ≤ k ∧ k + tensSize ts + op.length ≤ 4611686018427387904) :
    Calls Try.prog 10 [netV kd p n vt vo, num k].toArray w (Ret w h (NetM vt vo k (k + tensSize ts + op.length))) := ct_l_markNetwork kd p n ts op vt vo k w h hle r hk
def TriO (t : Ten) (a b c : Value) (h : PH) : Prop := ∃ h1 h2 h3, IntsO t.l a h1 ∧ IntsO t.d b h2 ∧ IntsO t.x c h3 ∧ Made h [h1, h2, h3]
theorem TriO.toR {t : Ten} {a b c : Value} {h : PH} (r : TriO t a b c h) : IntsR t.l a h ∧ IntsR t.d b h ∧ IntsR t.x c h := by
  obtain ⟨h1, h2, h3, r1, r2, r3, m⟩ := r; exact ⟨r1.toR.mono (m.le h1 (by simp)), r2.toR.mono (m.le h2 (by simp)), r3.toR.mono (m.le h3 (by simp))⟩
def TenT (t : Ten) (u : Value) (h : PH) : Prop := ∃ a b c, u = tenV a b c ∧ TriO t a b c h
end Go.Proofs.Ytdkgaejmgnojhaa
namespace Go.Proofs.Ytdkgaejmgnojhaa
set_option maxRecDepth 100000
open Go.RowKit
def setP (xs ys : List Int) (j : Nat) : Prop := ys.getD j 0 ∈ xs ∧ ys.getD j 0 ∉ ys.take j
def setL (xs ys : List Int) : Prop := xs.length = ys.length ∧ ∀ j, j < ys.length → setP xs ys j
theorem perm_of : ∀ {xs ys : List Int}, xs.Nodup → (∀ x ∈ xs, x ∈ ys) → ys.length ≤ xs.length → xs.Perm ys
  | [], ys, _, _, hl => by
    have : ys = [] := List.eq_nil_of_length_eq_zero (by simpa using hl); rw [this]
  | x :: xs, ys, hn, hs, hl => by
    have hx := hs x (by simp); have hp := List.perm_cons_erase hx; have hnx := List.nodup_cons.1 hn; refine (List.Perm.cons x (perm_of hnx.2 (fun y hy => ?_) ?_)).trans hp.symm
    · exact (List.mem_erase_of_ne (fun e => hnx.1 (by rw [← e]; exact hy))).2 (hs y (by simp [hy]))
    · have := List.length_erase_of_mem hx; simp only [List.length_cons] at hl
      omega
theorem prodI_perm {a b : List Int} (h : a.Perm b) : prodI a = prodI b := by
  induction h with
  | nil => rfl
  | cons x _ ih => rw [prodI_cons, prodI_cons, ih]
  | swap x y l => rw [prodI_cons, prodI_cons, prodI_cons, prodI_cons, Int.mul_left_comm]
  | trans _ _ h1 h2 => exact h1.trans h2
def permD (t : Ten) (ls : List Int) : List Int := idxAt t.l t.d ls
def permX (wd : Int) (t : Ten) (ls ds : List Int) (m : Nat) : List Int := (List.range m).flatMap fun (i : Nat) => elt t.x wd (offL t.d (idxAt ls (idxL ds i) t.l))
noncomputable def permT (k n : Int) (t : Ten) (ls : List Int) : Ten := ⟨ls, permD t ls, permX (widthI k n) t ls (permD t ls) (prodI (permD t ls)).toNat⟩
theorem permX_step (wd : Int) (t : Ten) (ls ds : List Int) (m : Nat) : permX wd t ls ds (m + 1) = permX wd t ls ds m ++ elt t.x wd (offL t.d (idxAt ls (idxL ds m) t.l)) := by
  simp [permX, List.range_succ]
theorem permD_len (t : Ten) (ls : List Int) : (permD t ls).length = ls.length := List.length_map _
structure PermOK (k p n : Int) (t : Ten) (ls : List Int) : Prop where
  ring : ringL k p n
  ten : tensorL k p n t.l t.d t.x
  perm : ls.Perm t.l
section
variable {k p n : Int} {t : Ten} {ls : List Int}
theorem PermOK.axes (h : PermOK k p n t ls) : axesL t.l t.d := tensor_axes h.ten
theorem PermOK.nodup (h : PermOK k p n t ls) : ls.Nodup := (List.Perm.nodup_iff h.perm).2 (axes_nodup h.axes)
theorem PermOK.len (h : PermOK k p n t ls) : ls.length = t.l.length ∧ t.l.length = t.d.length ∧ ls.length ≤ 12 := by
  have := h.perm.length_eq; have := h.axes; exact ⟨by omega, this.2.1, by have := this.1; omega⟩
theorem PermOK.find (h : PermOK k p n t ls) {j : Nat} (hj : j < ls.length) : 0 ≤ findI t.l (ls.getD j 0) ∧ findI t.l (ls.getD j 0) < t.d.length ∧ t.l.getD (findI t.l (ls.getD j 0)).toNat 0 = ls.getD j 0 := by
  have hm : ls.getD j 0 ∈ t.l := h.perm.mem_iff.1 (mem_getD hj); have h1 := findI_ge.2 hm; have h2 := findI_get hm; have := h.len; exact ⟨h1, by omega, h2.2⟩
theorem PermOK.dims (h : PermOK k p n t ls) : dimsIn (permD t ls) := fun j hj => by
  rw [permD_len] at hj; have hf := h.find hj; rw [permD, idxAt, map_getD hj]; exact axes_dims h.axes _ (by omega)
theorem PermOK.prod (h : PermOK k p n t ls) : prodI (permD t ls) = prodI t.d := by
  have e : t.d = idxAt t.l t.d t.l := by
    apply ext_getD (by simp [idxAt, h.axes.2.1])
    intro j hj; have hj' : j < t.l.length := by rw [h.axes.2.1]; exact hj
    rw [idxAt, map_getD hj', find_at h.axes hj', Int.toNat_natCast]
  conv => rhs; rw [e]
  exact prodI_perm (h.perm.map _)
theorem PermOK.small (h : PermOK k p n t ls) : 1 ≤ prodI (permD t ls) ∧ prodI (permD t ls) ≤ 4096 := by
  refine ⟨prodI_one fun d hd => (dims_mem h.dims d hd).1, ?_⟩; rw [h.prod]; exact (sizeI_ge.1 h.ten.2.1).2
theorem PermOK.back (h : PermOK k p n t ls) {j : Nat} (hj : j < t.l.length) : (findI ls (t.l.getD j 0)).toNat < ls.length ∧ ls.getD (findI ls (t.l.getD j 0)).toNat 0 = t.l.getD j 0 :=
  findI_get (h.perm.mem_iff.2 (mem_getD hj))
theorem PermOK.idx (h : PermOK k p n t ls) (i : Int) : idxIn t.d (idxAt ls (idxL (permD t ls) i) t.l) := by
  have hd : ∀ d ∈ permD t ls, 1 ≤ d := fun d hd => (dims_mem h.dims d hd).1; refine ⟨by simp [idxAt, h.axes.2.1], fun j hj => ?_⟩; have hj' : j < t.l.length := by rw [h.axes.2.1]; exact hj
  have hb := h.back hj'; have hv := (idxL_in hd i).2 (findI ls (t.l.getD j 0)).toNat (by rw [permD_len]; exact hb.1); rw [idxAt, map_getD hj']; rw [show (permD t ls).getD (findI ls (t.l.getD j 0)).toNat 0 = t.d.getD j 0 by
    rw [permD, idxAt, map_getD hb.1, hb.2, find_at h.axes hj', Int.toNat_natCast]] at hv
  exact hv
theorem PermOK.off (h : PermOK k p n t ls) (i : Int) : 0 ≤ offL t.d (idxAt ls (idxL (permD t ls) i) t.l) ∧ offL t.d (idxAt ls (idxL (permD t ls) i) t.l) < prodI t.d := by
  have := offL_in (fun d hd => (dims_mem (axes_dims h.axes) d hd).1) (h.idx i)
  omega
end
end Go.Proofs.Ytdkgaejmgnojhaa
namespace Go.Proofs.Ytdkgaejmgnojhaa
set_option maxRecDepth 100000
open Go.RowKit
theorem ct_i_axisOf (ls : List Int) (x : Int) (a b c : Value) (w : World) (r : IntsR ls a (hp w)) (_hb : b.oneCell' = true) (_hc : c.oneCell' = true) : Calls Try.prog 67 [tenV a b c, num x].toArray w (RetV w (num (findI ls x))) := by
  refine calls_in Try.func67 rfl Try.ntmps67 rfl (Sat.start w) ?_; have hle0 := r.le; refine wp_sc (wp_sq ?_); refine sq_x rfl (x_box rfl rfl) rfl ?_; rintro _ _ ⟨b2, rfl, rfl⟩; refine sq_v rfl (v_assign rfl) rfl (sq_end (qs_n (wp_sc (wp_sc (wp_sq (sq_v rfl (v_fieldAddr fd_48_0 ty_25 (by decide) rfl) rfl (sq_v rfl (v_loadB 0 ty_25 rfl rfl rfl) rfl (sq_v rfl (v_len Try.underlying25 rfl r.sl) rfl (sq_v rfl (v_move rfl) rfl (sq_end (qs_n (wp_bl ?_)))))))))))); refine wp_lp (σ := Nat) (fun z_ => [(1, num x), (4, num 0), (8, a), (9, num ls.length), (10, num z_)]) (fun z_ => [box b2 [a, b, c] 48, hp w]) (fun z_ => z_ ≤ ls.length ∧ (∀ j, j < z_ → ls.getD j 0 ≠ x)) (fun z_ => ls.length - z_) 0 (⟨by omega, fun j hj => by omega⟩) ⟨rfl, rfl, rfl, rfl, (by first | rfl | exact ksub rfl (by first | omega | (simp; done) | (simp; omega))), trivial⟩ (fun _ s => s) ?_; rintro i ⟨hi, hv⟩; refine wp_sc (wp_sq (sq_v rfl (v_lss rfl rfl) rfl (sq_end (qs_n (wp_sc ?_))))); refine wp_cd rfl (fun c11 => ?_) (fun c11 => ?_)
  · refine wp_sk (qs_n (wp_sc (wp_bl (wp_sc (wp_sq (sq_v rfl (v_move rfl) rfl ?_)))))); refine sq_v rfl (v_idxI Try.underlying25 ty_3 rfl rfl r (by first | omega | (simp; omega) | (simp only [List.length_append, List.length_cons, List.length_nil]; omega) | (rw [List.length_set]; omega)) (by first | omega | (simp; omega) | (simp only [List.length_append, List.length_cons, List.length_nil]; omega) | (rw [List.length_set]; omega))) rfl ?_; refine sq_v rfl (v_loadI (k := i) 1 ty_3 rfl rfl r (by first | omega | (simp; omega) | (simp only [List.length_append, List.length_cons, List.length_nil]; omega) | (rw [List.length_set]; omega))) rfl ?_; refine sq_v rfl (v_assign rfl) rfl (sq_v rfl (v_assign rfl) rfl (sq_end (qs_n (wp_sc (wp_sq (sq_v rfl (v_move rfl) rfl (sq_v rfl (v_move rfl) rfl (sq_v rfl (v_eql rfl rfl) rfl (sq_end (qs_n ?_)))))))))); refine wp_cd rfl (fun c17 => ?_) (fun c17 => ?_)
    · refine wp_sc (wp_sq (sq_v rfl (v_move rfl) rfl (sq_v rfl (v_assign rfl) rfl (sq_end (qs_n (wp_rt (qs_br (qs_r (qs_r (qs_br (qs_r ?_))))))))))); exact qs_ret1 rfl rfl (fin_q (i := 1) rfl (by rw [idx_first hv (by omega) c17]))
    · refine wp_sk (qs_bn (qs_n (wp_sq ?_))); refine sq_v rfl (v_add rfl rfl ((by unfold I64; omega))) rfl ?_; refine sq_v rfl (v_move rfl) rfl (sq_end ?_); exact qs_bk (i + 1) ⟨by omega, step_all hv c17⟩ (by omega) ⟨rfl, rfl, rfl, rfl, (by first | rfl | exact ksub rfl (by first | omega | (simp; done) | (simp; omega))), trivial⟩ (fun _ s => s)
  · refine wp_ex (qs_x (qs_x (qs_bx (qs_n (wp_sc (wp_sq (sq_v rfl (v_assign rfl) rfl (sq_end (qs_n (wp_rt ?_)))))))))); exact qs_ret1 rfl rfl (fin_q (i := 1) rfl (by rw [findI_none (not_mem_of fun j hj => hv j (by omega))]))
theorem ct_u_axisOf (ls ds xs : List Int) (x : Int) (a b c : Value) (w : World) (r : IntsR ls a (hp w)) (r2 : IntsR ds b (hp w)) (r3 : IntsR xs c (hp w)) : Calls Try.prog 67 [tenV a b c, num x].toArray w (RetV w (num (findI ls x))) :=
  ct_i_axisOf ls x a b c w r r2.sl.one r3.sl.one
end Go.Proofs.Ytdkgaejmgnojhaa
namespace Go.Proofs.Ytdkgaejmgnojhaa
set_option maxRecDepth 100000
open Go.RowKit
/-- 'HK' is 'HS', some parts of it forgotten. -/
def WkL : List PH → List PH → Prop
  | [], [] => True
  | h :: HS, k :: HK => (k = h ∨ k = emp) ∧ WkL HS HK
  | _, _ => False
theorem WkL.refl : ∀ HS, WkL HS HS
  | [] => trivial
  | _ :: HS => ⟨.inl rfl, WkL.refl HS⟩
theorem WkL.le : ∀ {HS HK : List PH}, WkL HS HK → ∀ x ∈ HK, x = emp ∨ x ∈ HS
  | [], [], _, x, h => by simp at h
  | _ :: _, [], h, _, _ => h.elim
  | [], _ :: _, h, _, _ => h.elim
  | h :: HS, k :: HK, w, x, hx => by
    rcases List.mem_cons.1 hx with rfl | hx
    · rcases w.1 with e | e
      · exact .inr (by simp [e])
      · exact .inl e
    · rcases WkL.le w.2 x hx with e | e
      · exact .inl e
      · exact .inr (by simp [e])
theorem WkL.sep : ∀ {HS HK : List PH}, WkL HS HK → sepL HS → sepL HK
  | [], [], _, _ => trivial
  | _ :: _, [], h, _ => h.elim
  | [], _ :: _, h, _ => h.elim
  | h :: HS, k :: HK, w, s => by
    refine ⟨fun x hx => ?_, WkL.sep w.2 s.2⟩
    rcases w.1 with rfl | rfl
    · rcases WkL.le w.2 x hx with rfl | e
      · exact PDj.symm (PDj.emp _)
      · exact s.1 x e
    · exact PDj.emp _
theorem WkL.set : ∀ {HS HK : List PH} {p : Nat} {h' : PH}, WkL HS HK → HK[p]? = some emp → WkL (HS.set p h') HK
  | [], [], _, _, _, e => by simp at e
  | _ :: _, [], _, _, h, _ => h.elim
  | [], _ :: _, _, _, h, _ => h.elim
  | h :: HS, k :: HK, 0, h', w, e => by
    simp only [List.getElem?_cons_zero, Option.some.injEq] at e; exact ⟨.inr e, w.2⟩
  | h :: HS, k :: HK, p + 1, h', w, e => ⟨w.1, WkL.set (p := p) w.2 (by simpa using e)⟩
section
variable (P : Program) (n : Nat) (w0 : World)
end
section
variable {P : Program} {n : Nat} {w0 : World} {K : Env} {HS HK : List PH} {Q : Exit → Act → World → Prop} {ops : Array Oper} {m : Nat} {r : List (Nat × Bool)} {listed : Array Bool}
end
end Go.Proofs.Ytdkgaejmgnojhaa
namespace Go.Proofs.Ytdkgaejmgnojhaa
set_option maxRecDepth 100000
open Go.RowKit
structure Stp where
  a : Int
  b : Int
def stepCells (ss : List Stp) : List Value := ss.flatMap fun s => [num s.a, num s.b]
theorem stepCells_len : ∀ ss : List Stp, (stepCells ss).length = ss.length * 2
  | [] => rfl
  | s :: r => by
    have := stepCells_len r; simp only [stepCells, List.flatMap_cons, List.length_append, List.length_cons, List.length_nil] at *
    omega
theorem stepCells_at : ∀ {ss : List Stp} {i : Nat} {s : Stp}, ss[i]? = some s → ((stepCells ss).drop (i * 2)).take 2 = [num s.a, num s.b]
  | [], i, s, h => by simp at h
  | u :: r, 0, s, h => by cases h; rfl
  | u :: r, i + 1, s, h => by
    have ih := stepCells_at (ss := r) (i := i) (s := s) (by simpa using h); rw [show (i + 1) * 2 = i * 2 + 1 + 1 by omega]; exact ih
def StepsR (ss : List Stp) (v : Value) (h : PH) : Prop := RowR (stepCells ss) ss.length 2 v h
theorem StepsR.mono {ss : List Stp} {v : Value} {h h' : PH} (r : StepsR ss v h) (l : PLe h h') : StepsR ss v h' := RowR.mono r l
theorem StepsR.sl {ss : List Stp} {v : Value} {h : PH} (r : StepsR ss v h) : SlL v ss.length := RowR.sl r
theorem StepsR.le {ss : List Stp} {v : Value} {h : PH} (r : StepsR ss v h) : (ss.length : Int) ≤ 9223372036854775807 := by
  obtain ⟨_, a, c, _, ⟨h, _⟩, _⟩ := r
  unfold maxLen at h
  omega
theorem StepsR.at {ss : List Stp} {v : Value} {h : PH} (r : StepsR ss v h) : ∃ cells, RowR cells ss.length 2 v h ∧ ∀ i, i < ss.length → ∃ x, ss[i]? = some x ∧ (cells.drop (i * 2)).take 2 = [num x.a, num x.b] :=
  ⟨_, r, fun _ hi => ⟨_, List.getElem?_eq_getElem hi, stepCells_at (List.getElem?_eq_getElem hi)⟩⟩
section
variable {P : Program} {n : Nat} {w0 : World} {K : Env} {HS : List PH} {d : Option Tmp} {ty : TypeId} {ps : String} {af : Array Edge} {g : Option (Nat × Bool)}
end
structure Lv where
  n : Int
  l : List Int
def LvR (x : Lv) (cs : List Value) (h : PH) : Prop := ∃ v, cs = [num x.n, v] ∧ IntsR x.l v h
theorem LvR.mono {x : Lv} {cs : List Value} {h h' : PH} (r : LvR x cs h) (l : PLe h h') : LvR x cs h' := let ⟨v, e, r⟩ := r; ⟨v, e, r.mono l⟩
def LiveR (xs : List Lv) (v : Value) (h : PH) : Prop := RowsR 2 LvR xs v h
theorem LiveR.mono {xs : List Lv} {v : Value} {h h' : PH} (r : LiveR xs v h) (l : PLe h h') : LiveR xs v h' := RowsR.mono (R := LvR) LvR.mono r l
theorem LiveR.sl {xs : List Lv} {v : Value} {h : PH} (r : LiveR xs v h) : SlL v xs.length := RowsR.sl r
theorem LiveR.le {xs : List Lv} {v : Value} {h : PH} (r : LiveR xs v h) : (xs.length : Int) ≤ 9223372036854775807 := RowsR.le r
theorem LiveR.at {xs : List Lv} {v : Value} {h : PH} (r : LiveR xs v h) : ∃ cells, RowR cells xs.length 2 v h ∧ ∀ i, i < xs.length → ∃ x a, xs[i]? = some x ∧ (cells.drop (i * 2)).take 2 = [num x.n, a] ∧ IntsR x.l a h := by
  obtain ⟨cells, rr, hc⟩ := r; refine ⟨cells, rr, fun i hi => ?_⟩; have ht : xs[i]? = some xs[i] := List.getElem?_eq_getElem hi; obtain ⟨a, e, r1⟩ := hc i _ ht; exact ⟨_, a, ht, e, r1⟩
/-- The elements' cells, read in h. -/
def LvL (xs : List Lv) (cs : List Value) (h : PH) : Prop := cs.length = xs.length * 2 ∧ ∀ (i : Nat) (x : Lv), xs[i]? = some x → LvR x ((cs.drop (i * 2)).take 2) h
theorem LvL.nil (h : PH) : LvL [] [] h := ⟨rfl, fun i x e => by simp at e⟩
theorem LvL.mono {xs : List Lv} {cs : List Value} {h h' : PH} (r : LvL xs cs h) (l : PLe h h') : LvL xs cs h' := ⟨r.1, fun i x e => (r.2 i x e).mono l⟩
theorem LvL.snoc {xs : List Lv} {cs : List Value} {h : PH} (r : LvL xs cs h) {x : Lv} {a : Value} (r1 : IntsR x.l a h) : LvL (xs ++ [x]) (cs ++ [num x.n, a]) h := by
  refine ⟨by simp [r.1]; omega, fun i y e => ?_⟩
  by_cases hi : i < xs.length
  · rw [List.getElem?_append_left hi] at e; have := r.2 i y e; have e2 : ((cs ++ [num x.n, a]).drop (i * 2)).take 2 = (cs.drop (i * 2)).take 2 := by
      rw [List.drop_append, List.take_append]; have hl : 2 - (cs.drop (i * 2)).length = 0 := by simp [r.1]; omega
      rw [hl, List.take_zero, List.append_nil]
    rw [e2]; exact this
  · have hlt := (List.getElem?_eq_some_iff.1 e).1
    simp at hlt
    have : i = xs.length := by omega
    subst this; rw [List.getElem?_append_right (by omega)] at e
    simp at e
    subst e; have e2 : ((cs ++ [num x.n, a]).drop (xs.length * 2)).take 2 = [num x.n, a] := by
      rw [← r.1, List.drop_left]; rfl
    rw [e2]; exact ⟨a, rfl, r1⟩
theorem LvL.live {xs : List Lv} {cs : List Value} {v : Value} {h : PH} (r : LvL xs cs h) (rr : RowR cs xs.length 2 v h) : LiveR xs v h := ⟨cs, rr, r.2⟩
def joinI (a b : List Int) : List Int := a ++ b.filter fun x => decide (x ∉ a)
structure Sh where
  all : List (List Int)
  gone : List Bool
def Sh.lab (s : Sh) (i : Nat) : List Int := s.all.getD i []
def Sh.ok (s : Sh) : Prop := s.gone.length = s.all.length
def Sh.live (s : Sh) (a : Int) : Prop := 0 ≤ a ∧ a < s.all.length ∧ s.gone.getD a.toNat false = false
def Sh.ixs (s : Sh) : List Nat := (List.range s.all.length).filter fun i => !s.gone.getD i false
def Sh.lv (s : Sh) : List Lv := s.ixs.map fun (i : Nat) => ⟨i, s.lab i⟩
def Sh.kept (op : List Int) (s : Sh) (a b : Nat) (x : Int) : Prop := x ∈ op ∨ ∃ i ∈ s.ixs, i ≠ a ∧ i ≠ b ∧ x ∈ s.lab i
open Classical in
noncomputable def Sh.res (op : List Int) (s : Sh) (a b : Nat) : List Int := (joinI (s.lab a) (s.lab b)).filter fun x => decide (s.kept op a b x)
noncomputable def Sh.step (op : List Int) (s : Sh) (a b : Nat) : Sh := ⟨s.all ++ [s.res op a b], ((s.gone.set a true).set b true) ++ [false]⟩
theorem Sh.step_ok {op : List Int} {s : Sh} (h : s.ok) (a b : Nat) : (s.step op a b).ok := by simp only [Sh.ok, Sh.step, List.length_append, List.length_set] at *; simp [h]
theorem ixs_nodup (s : Sh) : s.ixs.Nodup := List.Pairwise.filter _ List.nodup_range
theorem mem_ixs {s : Sh} {i : Nat} : i ∈ s.ixs ↔ i < s.all.length ∧ s.gone.getD i false = false := by simp [Sh.ixs]
theorem live_ixs {s : Sh} {a : Int} : s.live a ↔ 0 ≤ a ∧ a.toNat ∈ s.ixs := by
  rw [mem_ixs]
  unfold Sh.live
  constructor
  · rintro ⟨h1, h2, h3⟩; exact ⟨h1, by omega, h3⟩
  · rintro ⟨h1, h2, h3⟩; exact ⟨h1, by omega, h3⟩
/-- The place of a number among what is live. -/
def Sh.place (s : Sh) (a : Int) : Int := findI (s.ixs.map Int.ofNat) a
theorem getD_append_left {α : Type} {l r : List α} {i : Nat} {d : α} (h : i < l.length) : (l ++ r).getD i d = l.getD i d := by simp [List.getD, List.getElem?_append_left h]
theorem step_ixs {op : List Int} {s : Sh} (h : s.ok) {a b : Nat} : (s.step op a b).ixs = (s.ixs.filter fun i => decide (i ≠ a ∧ i ≠ b)) ++ [s.all.length] := by
  have hl : (s.step op a b).all.length = s.all.length + 1 := by simp [Sh.step]
  have hg : (s.step op a b).gone.getD s.all.length false = false := by
    have : ((s.gone.set a true).set b true).length = s.all.length := by simpa [Sh.ok] using h
    simp only [Sh.step, List.getD]; rw [List.getElem?_append_right (by omega), this]
    simp
  unfold Sh.ixs
  rw [hl, List.range_succ, List.filter_append, List.filter_filter]
  congr 1
  · apply List.filter_congr
    intro i hi; have hi' : i < s.all.length := by simpa using hi
    have e : (s.step op a b).gone.getD i false = if i = a ∨ i = b then true else s.gone.getD i false := by
      have hlen : i < s.gone.length := by rw [h]; exact hi'
      rw [Sh.step, getD_append_left (by simpa using hlen)]; simp only [List.getD, List.getElem?_set, List.length_set]
      by_cases e1 : b = i
      · subst e1; simp [hlen]
      · by_cases e2 : a = i
        · subst e2; simp [hlen, e1]
        · simp [e1, e2, Ne.symm e1, Ne.symm e2]
    rw [e]
    by_cases hc : i = a ∨ i = b
    · rw [if_pos hc]; rcases hc with rfl | rfl <;> simp
    · rw [if_neg hc]; have : i ≠ a ∧ i ≠ b := ⟨fun e => hc (.inl e), fun e => hc (.inr e)⟩
      simp [this]
  · rw [List.filter_cons_of_pos (by rw [hg]; rfl)]; rfl
theorem step_lab {op : List Int} {s : Sh} {a b i : Nat} (hi : i < s.all.length) : (s.step op a b).lab i = s.lab i := by rw [Sh.lab, Sh.step, getD_append_left hi]; rfl
theorem step_lab_new {op : List Int} {s : Sh} {a b : Nat} : (s.step op a b).lab s.all.length = s.res op a b := by simp [Sh.lab, Sh.step, List.getD]
end Go.Proofs.Ytdkgaejmgnojhaa
namespace Go.Proofs.Ytdkgaejmgnojhaa
set_option maxRecDepth 100000
open Go.RowKit
abbrev stCells (arr : List Int) (vo lvv : Value) (nx : Int) : List Value := ints arr ++ [vo, lvv, num nx]
theorem pre_get {xs : List Int} {cs : List Value} {u : Value} (h : xs.length = 100) (j : Nat) (hj : cs[j]? = some u) : (ints xs ++ cs)[100 + j]? = some u := by
  rw [List.getElem?_append_right (by rw [ints_length]; omega), ints_length, h, Nat.add_sub_cancel_left]; exact hj
section
variable {P : Program} {n : Nat} {w0 : World} {K : Env} {HS : List PH} {d : Option Tmp} {ty : TypeId} {ps : String} {af : Array Edge} {g : Option (Nat × Bool)}
end
/-- The state as it is read. -/
structure StR (arr : List Int) (vo lvv : Value) (s : Sh) (b : Nat) (h : PH) : Prop where
  len : arr.length = 100
  ok : s.ok
  cells : ∀ (j : Nat) (u : Value), (stCells arr vo lvv s.all.length)[j]? = some u → cellP h b j = some u
  live : LiveR s.lv lvv h
theorem StR.mono {arr : List Int} {vo lvv : Value} {s : Sh} {b : Nat} {h h' : PH} (r : StR arr vo lvv s b h) (l : PLe h h') : StR arr vo lvv s b h' := ⟨r.len, r.ok, fun j u e => cellP.mono l (r.cells j u e), r.live.mono l⟩
theorem StR.c101 {arr : List Int} {vo lvv : Value} {s : Sh} {b : Nat} {h : PH} (r : StR arr vo lvv s b h) : cellP h b 101 = some lvv := r.cells 101 _ (pre_get r.len 1 rfl)
theorem StR.arr {arr : List Int} {vo lvv : Value} {s : Sh} {b : Nat} {h : PH} (r : StR arr vo lvv s b h) : (ints arr).length = 100 ∧ ∀ (j : Nat) (u : Value), (ints arr)[j]? = some u → cellP h b (0 + 0 + j) = some u :=
  ⟨by rw [ints_length]; exact r.len, fun j u e => by
    rw [show 0 + 0 + j = j by omega]; refine r.cells j u ?_; rw [List.getElem?_append_left (List.getElem?_eq_some_iff.1 e).1]; exact e⟩
end Go.Proofs.Ytdkgaejmgnojhaa
namespace Go.Proofs.Ytdkgaejmgnojhaa
set_option maxRecDepth 100000
open Go.RowKit
theorem filter_yes {xs : List Int} {p : Int → Bool} {i : Nat} (h : i < xs.length) (hp : p (xs.getD i 0) = true) : (xs.take (i + 1)).filter p = (xs.take i).filter p ++ [xs.getD i 0] := by
  rw [take_succ h, List.filter_append, List.filter_cons_of_pos hp]; rfl
theorem filter_no {xs : List Int} {p : Int → Bool} {i : Nat} (h : i < xs.length) (hp : p (xs.getD i 0) = false) : (xs.take (i + 1)).filter p = (xs.take i).filter p := by
  rw [take_succ h, List.filter_append, List.filter_cons_of_neg (by rw [hp]; decide)]; simp
theorem filter_take_len (xs : List Int) (p : Int → Bool) (i : Nat) : ((xs.take i).filter p).length ≤ xs.length := by
  have := List.length_filter_le p (xs.take i); simp only [List.length_take] at this
  omega
theorem joinI_len (xs ys : List Int) : (joinI xs ys).length ≤ xs.length + ys.length := by
  have := List.length_filter_le (fun x => decide (x ∉ xs)) ys; simp only [joinI, List.length_append]
  omega
end Go.Proofs.Ytdkgaejmgnojhaa
namespace Go.Proofs.Ytdkgaejmgnojhaa
set_option maxRecDepth 100000
open Go.RowKit
theorem RowO.nil {e : TypeId} {sz : Nat} : RowO e [] 0 sz (.slice none 0 0) emp := ⟨by simp, .inl ⟨rfl, rfl, rfl⟩⟩
def sh0 (ts : List Ten) : Sh := ⟨ts.map (·.l), List.replicate ts.length false⟩
theorem sh0_ok (ts : List Ten) : (sh0 ts).ok := by simp [Sh.ok, sh0]
theorem sh0_ixs (ts : List Ten) : (sh0 ts).ixs = List.range ts.length := by
  unfold Sh.ixs
  have : (sh0 ts).all.length = ts.length := by simp [sh0]
  rw [this, List.filter_eq_self]; intro i hi; simp only [sh0, List.getD, List.getElem?_replicate]
  split <;> rfl
end Go.Proofs.Ytdkgaejmgnojhaa
namespace Go.Proofs.Ytdkgaejmgnojhaa
set_option maxRecDepth 100000
open Go.RowKit
theorem Made.un {a b : PH} {la lb : List PH} (ma : Made a la) (mb : Made b lb) (hd : PDj a b) : Made (PUn a b) (la ++ lb) := by
  refine ⟨sepL_append.2 ⟨ma.sep, mb.sep, fun x hx y hy => (((hd.mono (ma.le x hx)).symm).mono (mb.le y hy)).symm⟩, fun x hx => ?_, fun k o e => ?_⟩
  · rcases List.mem_append.1 hx with hx | hx
    · exact (ma.le x hx).trans (PLe.un_l _ _)
    · exact (mb.le x hx).trans (PLe.un_r hd)
  · unfold PUn at e
    split at e
    · rename_i y hy
      cases e
      obtain ⟨x, hx, hxe⟩ := ma.dom k _ hy; exact ⟨x, by simp [hx], hxe⟩
    · obtain ⟨x, hx, hxe⟩ := mb.dom k _ e; exact ⟨x, by simp [hx], hxe⟩
/-- Slices that own their cells, all in one part. -/
def OwnH (xss : List (List Int)) (vs : List Value) (h : PH) : Prop := ∃ l, OwnL xss vs l ∧ Made h l
theorem OwnH.nil : OwnH [] [] emp := ⟨[], OwnL.nil, ⟨trivial, fun x hx => by simp at hx, fun k o e => by cases e⟩⟩
theorem OwnH.snoc {ts : List Ten} {t : Ten} {vs : List Value} {a b c : Value} {h h' : PH} (o : OwnH (flat ts) vs h) (r : TriO t a b c h') (hd : PDj h h') : OwnH (flat (ts ++ [t])) (vs ++ [a, b, c]) (PUn h h') := by
  obtain ⟨l, ol, m⟩ := o; obtain ⟨h1, h2, h3, r1, r2, r3, m'⟩ := r; refine ⟨l ++ [h1, h2, h3], ?_, m.un m' hd⟩; rw [flat_append]; exact ol.append (OwnL.three r1 r2 r3)
theorem ten_len {k p n : Int} {t : Ten} (h : tensorL k p n t.l t.d t.x) : t.l.length ≤ 12 ∧ t.d.length ≤ 12 ∧ t.x.length ≤ 17592186044416 := by
  have hax := tensor_axes h; have h1 := prodI_one fun d hd => (dims_mem (axes_dims hax) d hd).1; have := elt_fits h (i := 0) (by omega); exact ⟨hax.1, by have := hax.2.1; have := hax.1; omega, this.2⟩
theorem ct_s_l05Copy (t : Ten) (a b c : Value) (w : World) (r1 : IntsR t.l a (hp w)) (r2 : IntsR t.d b (hp w)) (r3 : IntsR t.x c (hp w)) (hl : t.l.length ≤ 12 ∧ t.d.length ≤ 12 ∧ t.x.length ≤ 17592186044416) :
    Calls Try.prog 48 [tenV a b c].toArray w (Ret w emp (TenT t)) := by
  refine calls_in Try.func48 rfl Try.ntmps48 rfl (Sat.start w) ?_; have hle0 := r1.le; have hle1 := r2.le; have hle2 := r3.le; refine wp_sc (wp_sq ?_); refine sq_x rfl (x_box rfl rfl) rfl ?_; rintro _ _ ⟨b1, rfl, rfl⟩; refine sq_x rfl (x_alloc ty_48 rfl) rfl ?_; rintro _ _ ⟨b2, rfl, rfl⟩; refine sq_end (qs_n (wp_sc (wp_rj 10 [(0, true), (1, true), (3, true), (4, true), (6, true), (7, true), (2, false), (5, false), (8, false), (9, true), (10, false)] mixed_ok (by kernel_rfl) (rj_v rfl rfl (v_fieldAddr fd_48_0 ty_25 (by decide) rfl) rfl (rj_v rfl rfl (v_loadB 1 ty_25 rfl rfl rfl) rfl (rj_v rfl rfl (v_fieldAddr fd_48_1 ty_25 (by decide) rfl) rfl (rj_v rfl rfl (v_loadB 1 ty_25 rfl rfl rfl) rfl (rj_v rfl rfl (v_fieldAddr fd_48_2 ty_25 (by decide) rfl) rfl (rj_v rfl rfl (v_loadB 1 ty_25 rfl rfl rfl) rfl ?_))))))))); refine rj_x rfl rfl (x_call rfl en_75 (fun w s => ct_s_l05Ints _ _ w (r1.mono (s.get 2 rfl)) (by first | assumption | omega))) rfl ?_; rintro v5 h5 r5; refine rj_x rfl rfl (x_call rfl en_75 (fun w s => ct_s_l05Ints _ _ w (r2.mono (s.get 3 rfl)) (by first | assumption | omega))) rfl ?_; rintro v8 h8 r8; refine rj_x rfl rfl (x_call rfl en_75 (fun w s => ct_s_l05Ints _ _ w (r3.mono (s.get 4 rfl)) (by first | assumption | omega))) rfl ?_; rintro v11 h11 r11; refine rj_v rfl rfl (v_build [v5, v8, v11] rfl (by obtain ⟨_, _, rfl⟩ := r5.toR.sl; obtain ⟨_, _, rfl⟩ := r8.toR.sl; obtain ⟨_, _, rfl⟩ := r11.toR.sl; kernel_rfl)) rfl ?_; refine rj_m 3 rfl rfl rfl rfl (m_store 3 ty_48 rfl rfl rfl rfl (by simp [r5.toR.sl.one, r8.toR.sl.one, r11.toR.sl.one]) rfl (Nat.le_of_ble_eq_true rfl)) rfl ?_; rintro _ _ ⟨rfl, rfl⟩; refine rj_end (qs_n (wp_rt ?_)); refine qs_close [box b2 _ _, hp w] [h5, h8, h11] (fun _ s => s.pick [3, 5, 2, 1, 0] (by decide) rfl) (fun md => ?_); exact qs_retc 1 rfl ty_48 rfl rfl rfl (fin_t 0 (i := 2) rfl rfl rfl ⟨_, _, _, rfl, _, _, _, r5, r8, r11, md⟩)
end Go.Proofs.Ytdkgaejmgnojhaa
namespace Go.Proofs.Ytdkgaejmgnojhaa
set_option maxRecDepth 100000
open Go.RowKit
theorem TriO.none : TriO ⟨[], [], []⟩ (.slice none 0 0) (.slice none 0 0) (.slice none 0 0) emp :=
  ⟨emp, emp, emp, IntsO.nil, IntsO.nil, IntsO.nil, ⟨by simp [sepL, PDj.emp], fun x hx => by simp at hx; subst hx; exact PLe.emp _, fun k o e => by cases e⟩⟩
def fitP (k p n : Int) (t u : Ten) : Prop := tensorL k p n t.l t.d t.x ∧ tensorL k p n u.l u.d u.x ∧ setL t.l u.l ∧ permD u t.l = t.d
def FitR (k p n : Int) (t u : Ten) (x : Value) (h : PH) : Prop := ∃ T a b c bb, x = .tuple [tenV a b c, .bool bb].toArray ∧ TriO T a b c h ∧ (bb = true ↔ fitP k p n t u) ∧ (bb = true → T = permT k n u t.l)
theorem FitR.no {k p n : Int} {t u : Ten} (h : ¬ fitP k p n t u) : FitR k p n t u (.tuple [tenV (.slice none 0 0) (.slice none 0 0) (.slice none 0 0), .bool false].toArray) emp :=
  ⟨⟨[], [], []⟩, _, _, _, false, rfl, TriO.none, ⟨fun e => (by cases e), fun e => absurd e h⟩, fun e => (by cases e)⟩
end Go.Proofs.Ytdkgaejmgnojhaa
namespace Go.Proofs.Ytdkgaejmgnojhaa
set_option maxRecDepth 100000
open Go.RowKit
theorem pigeon : ∀ {l m : List Int}, l.Nodup → (∀ x ∈ l, x ∈ m) → l.length ≤ m.length
  | [], _, _, _ => by simp
  | a :: r, m, hn, hs => by
    have ha := hs a (by simp); have hn' := List.nodup_cons.1 hn; have ih := pigeon (l := r) (m := m.erase a) hn'.2 (fun x hx => (List.mem_erase_of_ne (fun e => hn'.1 (by rw [← e]; exact hx))).2 (hs x (by simp [hx]))); rw [List.length_erase_of_mem ha] at ih; have : 0 < m.length := List.length_pos_of_mem ha; simp only [List.length_cons]
    omega
theorem joinI_nodup {a b : List Int} (ha : a.Nodup) (hb : b.Nodup) : (joinI a b).Nodup := by
  refine List.nodup_append.2 ⟨ha, List.Pairwise.filter _ hb, fun x hx y hy e => ?_⟩; subst e; have := (List.mem_filter.1 hy).2
  simp [hx] at this
theorem mem_joinI {a b : List Int} {x : Int} : x ∈ joinI a b ↔ x ∈ a ∨ x ∈ b := by
  simp only [joinI, List.mem_append, List.mem_filter, decide_eq_true_eq]
  constructor
  · rintro (h | h)
    · exact .inl h
    · exact .inr h.1
  · rintro (h | h)
    · exact .inl h
    · by_cases hx : x ∈ a
      · exact .inl hx
      · exact .inr ⟨h, hx⟩
/-- Each row of labels is without repetition and of labels of the network. -/
def Sh.fine (s : Sh) : Prop := s.ok ∧ ∀ i, (s.lab i).Nodup ∧ ∀ x ∈ s.lab i, 0 ≤ x ∧ x ≤ 99
theorem few_labels {l : List Int} (h : l.Nodup) (h1 : ∀ x ∈ l, 0 ≤ x ∧ x ≤ 99) : l.length ≤ 100 := by
  have := pigeon (m := (List.range 100).map Int.ofNat) h (fun x hx => by
    have := h1 x hx; simp only [List.mem_map, List.mem_range]; exact ⟨x.toNat, by omega, show ((x.toNat : Nat) : Int) = x by omega⟩)
  simpa using this
theorem Sh.fine.few {s : Sh} (h : s.fine) (i : Nat) : (s.lab i).length ≤ 100 := few_labels (h.2 i).1 (h.2 i).2
theorem res_mem {op : List Int} {s : Sh} {a b : Nat} {x : Int} (h : x ∈ s.res op a b) : x ∈ s.lab a ∨ x ∈ s.lab b := mem_joinI.1 (List.mem_filter.1 h).1
theorem Sh.fine.step {s : Sh} (h : s.fine) (op : List Int) (a b : Nat) : (s.step op a b).fine := by
  refine ⟨Sh.step_ok h.1 a b, fun i => ?_⟩
  rcases Nat.lt_trichotomy i s.all.length with hi | hi | hi
  · rw [step_lab hi]; exact h.2 i
  · subst hi; rw [step_lab_new]; refine ⟨List.Pairwise.filter _ (joinI_nodup (h.2 a).1 (h.2 b).1), fun x hx => ?_⟩
    rcases res_mem hx with hx | hx
    · exact (h.2 a).2 x hx
    · exact (h.2 b).2 x hx
  · have : (s.step op a b).lab i = [] := by simp only [Sh.lab, Sh.step, List.getD]; rw [List.getElem?_eq_none (by simp; omega)]; rfl
    rw [this]; exact ⟨List.nodup_nil, fun x hx => by simp at hx⟩
theorem sh0_fine {ts : List Ten} (h : ∀ t ∈ ts, axesL t.l t.d) : (sh0 ts).fine := by
  refine ⟨sh0_ok ts, fun i => ?_⟩
  by_cases hi : i < ts.length
  · have : (sh0 ts).lab i = ts[i].l := by simp [Sh.lab, sh0, List.getD, hi]
    rw [this]; have hax := h ts[i] (List.getElem_mem hi); exact ⟨axes_nodup hax, fun x hx => by obtain ⟨j, hj, e⟩ := getD_of_mem hx; have := (hax.2.2 j hj).1; rw [e] at this; exact this⟩
  · have : (sh0 ts).lab i = [] := by simp [Sh.lab, sh0, List.getD, Nat.le_of_not_lt hi]
    rw [this]; exact ⟨List.nodup_nil, fun x hx => by simp at hx⟩
/-- The state behind some steps. -/
noncomputable def shTo (op : List Int) (s : Sh) (ss : List Stp) : Sh := ss.foldl (fun s x => s.step op x.a.toNat x.b.toNat) s
theorem shTo_step {op : List Int} {s : Sh} {ss : List Stp} {i : Nat} {x : Stp} (h : ss[i]? = some x) : shTo op s (ss.take (i + 1)) = (shTo op s (ss.take i)).step op x.a.toNat x.b.toNat := by
  obtain ⟨hi, e⟩ := List.getElem?_eq_some_iff.1 h; rw [List.take_succ_eq_append_getElem hi, e, shTo, List.foldl_append]; rfl
theorem shTo_fine {op : List Int} {s : Sh} (h : s.fine) : ∀ ss, (shTo op s ss).fine
  | [] => h
  | x :: r => shTo_fine (h.step op x.a.toNat x.b.toNat) r
theorem shTo_all {op : List Int} : ∀ {s : Sh} {ss : List Stp}, (shTo op s ss).all.length = s.all.length + ss.length
  | s, [] => by simp [shTo]
  | s, x :: r => by
    have := shTo_all (op := op) (s := s.step op x.a.toNat x.b.toNat) (ss := r)
    show (shTo op (s.step op x.a.toNat x.b.toNat) r).all.length = _
    rw [this]
    simp [Sh.step]; omega
def stepOk (s : Sh) (x : Stp) : Prop := s.live x.a ∧ s.live x.b ∧ x.a < x.b
def okSteps (op : List Int) (s : Sh) (ss : List Stp) : Prop := ∀ i, i < ss.length → ∀ x, ss[i]? = some x → stepOk (shTo op s (ss.take i)) x
def orderL (k p n : Int) (ts : List Ten) (op : List Int) (ss : List Stp) : Prop := netL k p n ts op ∧ ss.length = ts.length - 1 ∧ okSteps op (sh0 ts) ss
end Go.Proofs.Ytdkgaejmgnojhaa
namespace Go.Proofs.Ytdkgaejmgnojhaa
set_option maxRecDepth 100000
open Go.RowKit
/-- Of the numbers ds those whose label fits p. -/
def selP (p : Int → Bool) : List Int → List Int → List Int
  | l :: ls, d :: ds => if p l then d :: selP p ls ds else selP p ls ds
  | _, _ => []
theorem selP_append (p : Int → Bool) : ∀ {ls ds ls' ds' : List Int}, ls.length = ds.length → selP p (ls ++ ls') (ds ++ ds') = selP p ls ds ++ selP p ls' ds'
  | [], [], _, _, _ => rfl
  | [], d :: ds, _, _, h => by simp at h
  | l :: ls, [], _, _, h => by simp at h
  | l :: ls, d :: ds, ls', ds', h => by
    have ih := selP_append p (ls := ls) (ds := ds) (ls' := ls') (ds' := ds') (by simpa using h); simp only [List.cons_append, selP, ih]
    split <;> simp
theorem selP_map (p : Int → Bool) (f : Int → Int) : ∀ ls : List Int, selP p ls (ls.map f) = (ls.filter p).map f
  | [] => rfl
  | l :: ls => by
    have ih := selP_map p f ls; simp only [List.map_cons, selP, List.filter_cons, ih]
    split <;> simp
theorem selP_len (p : Int → Bool) : ∀ ls ds : List Int, (selP p ls ds).length ≤ ls.length
  | [], ds => by cases ds <;> simp [selP]
  | l :: ls, [] => by simp [selP]
  | l :: ls, d :: ds => by
    have := selP_len p ls ds; simp only [selP]
    split <;> simp <;> omega
theorem selP_eqlen (p : Int → Bool) : ∀ {ls ds : List Int}, ls.length = ds.length → (selP p ls ds).length = (ls.filter p).length
  | [], [], _ => rfl
  | [], d :: ds, h => by simp at h
  | l :: ls, [], h => by simp at h
  | l :: ls, d :: ds, h => by
    have := selP_eqlen p (ls := ls) (ds := ds) (by simpa using h); simp only [selP, List.filter_cons]
    split <;> simp [this]
theorem selP_yes {p : Int → Bool} {ls ds : List Int} {i : Nat} (hl : ls.length = ds.length) (h : i < ls.length) (hp : p (ls.getD i 0) = true) : selP p (ls.take (i + 1)) (ds.take (i + 1)) = selP p (ls.take i) (ds.take i) ++ [ds.getD i 0] := by
  rw [take_succ h, take_succ (xs := ds) (by omega), selP_append p (by simp; omega)]; simp only [selP, hp, if_true]
theorem selP_no {p : Int → Bool} {ls ds : List Int} {i : Nat} (hl : ls.length = ds.length) (h : i < ls.length) (hp : p (ls.getD i 0) = false) : selP p (ls.take (i + 1)) (ds.take (i + 1)) = selP p (ls.take i) (ds.take i) := by
  rw [take_succ h, take_succ (xs := ds) (by omega), selP_append p (by simp; omega)]; simp only [selP, hp, Bool.false_eq_true, if_false, List.append_nil]
def joinD (a b : Ten) : List Int := a.d ++ selP (fun x => decide (x ∉ a.l)) b.l b.d
/-- A label of both has two dimensions. -/
def mism (a b : Ten) : Prop := ∃ i, i < b.l.length ∧ b.l.getD i 0 ∈ a.l ∧ a.d.getD (findI a.l (b.l.getD i 0)).toNat 0 ≠ b.d.getD i 0
def JoinR (a b : Ten) (u : Value) (h : PH) : Prop :=
  (mism a b → u = .tuple [.slice none 0 0, .slice none 0 0, .bool false].toArray) ∧ (¬ mism a b → ∃ v1 v2, u = .tuple [v1, v2, .bool true].toArray ∧ IntsR (joinI a.l b.l) v1 h ∧ IntsR (joinD a b) v2 h)
theorem findI_app {xs ys : List Int} {x : Int} (h : x ∈ xs) : findI (xs ++ ys) x = findI xs x := by
  have hg := findI_get h; have hf : findI xs x = ((findI xs x).toNat : Nat) := by have := findI_ge.2 h; omega
  rw [hf]; refine idx_first (fun j hj => ?_) (by simp; omega) (by simp only [List.getD]; rw [List.getElem?_append_left hg.1]; exact hg.2); intro e; simp only [List.getD] at e; rw [List.getElem?_append_left (by omega)] at e; have h1 := idx_first (xs := xs) (n := x) (i := j); have hj' : j < xs.idxOf x := by
    have : (findI xs x).toNat = xs.idxOf x := by simp [findI, h]
    omega
  have := List.not_of_lt_findIdx (xs := xs) (p := fun a => a == x) (i := j) hj'; have hlt : j < xs.length := by omega
  simp only [List.getElem?_eq_getElem hlt, Option.getD_some] at e
  simp [e] at this
theorem nodup_not_take {xs : List Int} (h : xs.Nodup) {i : Nat} (hi : i < xs.length) : xs.getD i 0 ∉ xs.take i := by
  intro hm; obtain ⟨j, hj, e⟩ := getD_of_mem hm; simp only [List.length_take] at hj; have e2 : (xs.take i).getD j 0 = xs.getD j 0 := by simp only [List.getD, List.getElem?_take]; rw [if_pos (by omega)]
  rw [e2] at e; have h1 : j < xs.length := by omega
  simp only [List.getD, List.getElem?_eq_getElem h1, List.getElem?_eq_getElem hi, Option.getD_some] at e; have := (List.getElem_inj h).1 e
  omega
theorem ct_s_l08Join (t u : Ten) (a b c a' b' c' : Value) (w : World) (r1 : IntsR t.l a (hp w)) (r2 : IntsR t.d b (hp w)) (r3 : IntsR u.l a' (hp w)) (r4 : IntsR u.d b' (hp w)) (ht : t.l.length = t.d.length) (hu : u.l.length = u.d.length) (hn : u.l.Nodup) (hs : t.l.length + u.l.length ≤ 1000000) :
    Calls Try.prog 76 [tenV a b c, tenV a' b' c'].toArray w (Ret w emp (JoinR t u)) := by
  refine calls_in Try.func76 rfl Try.ntmps76 rfl (Sat.start w) ?_; have hle0 := r1.le; have hle1 := r2.le; have hle2 := r3.le; have hle3 := r4.le; refine wp_sc (wp_sq ?_); refine sq_x rfl (x_box rfl rfl) rfl ?_; rintro _ _ ⟨b2, rfl, rfl⟩; refine sq_x rfl (x_box rfl rfl) rfl ?_; rintro _ _ ⟨b3, rfl, rfl⟩; refine sq_v rfl (v_assign rfl) rfl (sq_v rfl (v_assign rfl) rfl (sq_v rfl (v_assign rfl) rfl (sq_end (qs_n (wp_sc (wp_sq (sq_v rfl (v_fieldAddr fd_48_0 ty_25 (by decide) rfl) rfl (sq_v rfl (v_loadB 1 ty_25 rfl rfl rfl) rfl ?_)))))))); refine sq_x rfl (x_call rfl en_75 (fun w s => ct_s_l05Ints _ _ w (r1.mono (s.get 2 rfl)) (by first | assumption | omega))) rfl ?_; rintro v14 h14 r14; refine sq_v rfl (v_assign rfl) rfl (sq_end (qs_n (wp_sc (wp_sq (sq_v rfl (v_fieldAddr fd_48_1 ty_25 (by decide) rfl) rfl (sq_v rfl (v_loadB 2 ty_25 rfl rfl rfl) rfl ?_)))))); refine sq_x rfl (x_call rfl en_75 (fun w s => ct_s_l05Ints _ _ w (r2.mono (s.get 3 rfl)) (by first | assumption | omega))) rfl ?_; rintro v17 h17 r17; refine sq_v rfl (v_assign rfl) rfl (sq_end (qs_n (wp_sc (wp_sc (wp_sq (sq_v rfl (v_fieldAddr fd_48_0 ty_25 (by decide) rfl) rfl (sq_v rfl (v_loadB 2 ty_25 rfl rfl rfl) rfl (sq_v rfl (v_len Try.underlying25 rfl r3.sl) rfl (sq_v rfl (v_move rfl) rfl (sq_end (qs_n (wp_bl ?_)))))))))))); refine wp_lp (σ := Nat × Value × PH × Value × PH) (fun z_ => [(3, .pointer (some ⟨b3, 0, none⟩)), (4, .slice none 0 0), (5, .slice none 0 0), (6, .bool false), (7, z_.2.1), (8, z_.2.2.2.1), (19, a'), (20, num u.l.length), (21, num z_.1)]) (fun z_ => [z_.2.2.1, z_.2.2.2.2, box b3 [a', b', c'] 48, box b2 [a, b, c] 48, hp w]) (fun z_ => z_.1 ≤ u.l.length ∧ (∀ j, j < z_.1 → ¬ (u.l.getD j 0 ∈ t.l ∧ t.d.getD (findI t.l (u.l.getD j 0)).toNat 0 ≠ u.d.getD j 0)) ∧ IntsO (t.l ++ (u.l.take z_.1).filter fun x => decide (x ∉ t.l)) z_.2.1 z_.2.2.1 ∧ IntsO (t.d ++ selP (fun x => decide (x ∉ t.l)) (u.l.take z_.1) (u.d.take z_.1)) z_.2.2.2.1 z_.2.2.2.2) (fun z_ => u.l.length - z_.1) (0, v14, h14, v17, h17) (⟨by (try dsimp only); omega, fun j hj => by omega, by (try dsimp only); simpa using r14, by (try dsimp only); simpa [selP] using r17⟩) ⟨rfl, rfl, rfl, rfl, (by first | rfl | exact ksub rfl (by first | omega | (simp; done) | (simp; omega))), (by first | rfl | exact ksub rfl (by first | omega | (simp; done) | (simp; omega))), rfl, rfl, (by first | rfl | exact ksub rfl (by first | omega | (simp; done) | (simp; omega))), trivial⟩ (fun _ s => s.pick [1, 0, 2, 3, 4] (by decide) rfl) ?_; rintro ⟨i, v1, h1, v2, h2⟩ ⟨hi, hm, q1, q2⟩; dsimp only at hi hm q1 q2 ⊢; have hle_q1 := q1.toR.le; have hle_q2 := q2.toR.le; have hfl := filter_take_len u.l (fun x => decide (x ∉ t.l)) i; have hsl := selP_len (fun x => decide (x ∉ t.l)) (u.l.take i) (u.d.take i); rw [List.length_take] at hsl; have hff : ∀ x ∈ (u.l.take i).filter (fun x => decide (x ∉ t.l)), x ∈ u.l.take i := fun x hx => (List.mem_filter.1 hx).1; have hse := selP_eqlen (fun x => decide (x ∉ t.l)) (ls := u.l.take i) (ds := u.d.take i) (by simp; omega); have hl1 : (t.l ++ (u.l.take i).filter fun x => decide (x ∉ t.l)).length = t.l.length + ((u.l.take i).filter fun x => decide (x ∉ t.l)).length := List.length_append; have hl2 : (t.d ++ selP (fun x => decide (x ∉ t.l)) (u.l.take i) (u.d.take i)).length = t.d.length + (selP (fun x => decide (x ∉ t.l)) (u.l.take i) (u.d.take i)).length := List.length_append; refine wp_sc (wp_sq (sq_v rfl (v_lss rfl rfl) rfl (sq_end (qs_n (wp_sc ?_))))); refine wp_cd rfl (fun c22 => ?_) (fun c22 => ?_)
  · refine wp_sk (qs_n (wp_sc (wp_bl (wp_sc (wp_sq (sq_v rfl (v_move rfl) rfl ?_)))))); refine sq_v rfl (v_idxI Try.underlying25 ty_3 rfl rfl r3 (by first | omega | (simp; omega) | (simp only [List.length_append, List.length_cons, List.length_nil]; omega) | (rw [List.length_set]; omega)) (by first | omega | (simp; omega) | (simp only [List.length_append, List.length_cons, List.length_nil]; omega) | (rw [List.length_set]; omega))) rfl ?_; refine sq_v rfl (v_loadI (k := i) 4 ty_3 rfl rfl r3 (by first | omega | (simp; omega) | (simp only [List.length_append, List.length_cons, List.length_nil]; omega) | (rw [List.length_set]; omega))) rfl ?_; refine sq_v rfl (v_assign rfl) rfl (sq_v rfl (v_assign rfl) rfl (sq_end (qs_n (wp_sc (wp_sq (sq_v rfl (v_move rfl) rfl (sq_v rfl (v_move rfl) rfl (sq_u rfl (x_callv rfl en_45 (fun w s => ct_s_l05Find _ _ _ w (q1.toR.mono (s.get 0 rfl)))) rfl (sq_v rfl (v_assign rfl) rfl (sq_end ?_)))))))))); have hx := nodup_not_take hn (i := i) (by omega); have hfr := findI_range (t.l ++ (u.l.take i).filter fun x => decide (x ∉ t.l)) (u.l.getD i 0); have hmem : 0 ≤ findI (t.l ++ (u.l.take i).filter fun x => decide (x ∉ t.l)) (u.l.getD i 0) ↔ u.l.getD i 0 ∈ t.l := by rw [findI_ge, List.mem_append]; exact ⟨fun h => h.resolve_right (fun h => hx (hff _ h)), .inl⟩
    have hgt : u.l.getD i 0 ∈ t.l → (t.d ++ selP (fun x => decide (x ∉ t.l)) (u.l.take i) (u.d.take i)).getD (findI (t.l ++ (u.l.take i).filter fun x => decide (x ∉ t.l)) (u.l.getD i 0)).toNat 0 = t.d.getD (findI t.l (u.l.getD i 0)).toNat 0 := fun h => by rw [findI_app h]; have := (findI_get h).1; exact getD_append_left (by omega)
    refine qs_n (wp_sc (wp_sc (wp_rj 14 [(0, true), (1, true), (2, true), (3, true), (4, true), (5, true), (6, true), (7, true), (8, true), (9, true), (10, true), (11, true), (12, true), (13, true)] mixed_ok (by kernel_rfl) (rj_v rfl rfl (v_move rfl) rfl (rj_v rfl rfl (v_geq rfl rfl) rfl ?_))))); refine rj_bd 30 rfl (fun c30 => ?_) (fun c30 => ?_)
    · refine rj_v rfl rfl (v_move rfl) rfl (rj_v rfl rfl (v_move rfl) rfl (rj_v rfl rfl (v_move rfl) rfl ?_)); refine rj_v rfl rfl (v_idxI Try.underlying25 ty_3 rfl rfl q2.toR (by first | omega | (simp; omega) | (simp only [List.length_append, List.length_cons, List.length_nil]; omega) | (rw [List.length_set]; omega)) (by first | omega | (simp; omega) | (simp only [List.length_append, List.length_cons, List.length_nil]; omega) | (rw [List.length_set]; omega))) rfl ?_; refine rj_v rfl rfl (v_loadI  1 ty_3 rfl rfl q2.toR (by first | omega | (simp; omega) | (simp only [List.length_append, List.length_cons, List.length_nil]; omega) | (rw [List.length_set]; omega))) rfl ?_; refine rj_v rfl rfl (v_fieldAddr fd_48_1 ty_25 (by decide) rfl) rfl (rj_v rfl rfl (v_loadB 2 ty_25 rfl rfl rfl) rfl (rj_v rfl rfl (v_move rfl) rfl ?_)); refine rj_v rfl rfl (v_idxI Try.underlying25 ty_3 rfl rfl r4 (by first | omega | (simp; omega) | (simp only [List.length_append, List.length_cons, List.length_nil]; omega) | (rw [List.length_set]; omega)) (by first | omega | (simp; omega) | (simp only [List.length_append, List.length_cons, List.length_nil]; omega) | (rw [List.length_set]; omega))) rfl ?_; refine rj_v rfl rfl (v_loadI (k := i) 4 ty_3 rfl rfl r4 (by first | omega | (simp; omega) | (simp only [List.length_append, List.length_cons, List.length_nil]; omega) | (rw [List.length_set]; omega))) rfl ?_; refine rj_v rfl rfl (v_neq rfl rfl) rfl (rj_v rfl rfl (v_pickt rfl rfl) rfl (rj_end (qs_n ?_))); refine wp_cd rfl (fun c42 => ?_) (fun c42 => ?_)
      · refine wp_sc (wp_sq (sq_v rfl (v_assign rfl) rfl (sq_v rfl (v_assign rfl) rfl (sq_v rfl (v_assign rfl) rfl (sq_end (qs_n (wp_rt (qs_r (qs_br (qs_r (qs_r (qs_br (qs_r ?_))))))))))))); exact qs_ret3 rfl rfl rfl rfl (fin_e (i := 4) rfl (⟨fun _ => rfl, fun h => absurd ⟨i, by omega, hmem.1 c30, by rw [← hgt (hmem.1 c30)]; exact c42⟩ h⟩))
      · refine wp_sk (qs_n (wp_sc (wp_sq (sq_v rfl (v_move rfl) rfl (sq_v rfl (v_lss rfl rfl) rfl (sq_end (qs_n ?_))))))); refine wp_cd rfl (fun c44 => ?_) (fun c44 => ?_)
        · refine wp_sc (wp_sq (sq_v rfl (v_move rfl) rfl (sq_v rfl (v_move rfl) rfl ?_))); refine sq_x rfl (x_buildS [num (u.l.getD i 0)] Try.underlying25 ty_3 (by decide) rfl rfl rfl (by decide) (by decide) (by intro v hv; simp at hv; rcases hv with rfl <;> rfl)) rfl ?_; intro v47 h47 (r47 : IntsO [u.l.getD i 0] v47 h47); refine sq_m 1 rfl rfl (m_appI 1 0 Try.underlying25 ty_3 rfl rfl rfl rfl q1 rfl r47.toR (by first | omega | (simp; omega) | (simp only [List.length_append, List.length_cons, List.length_nil]; omega) | (rw [List.length_set]; omega))) rfl ?_; intro v48 h_r48 r48; refine sq_v rfl (v_assign rfl) rfl (sq_end (qs_n (wp_sq (sq_v rfl (v_move rfl) rfl (sq_v rfl (v_fieldAddr fd_48_1 ty_25 (by decide) rfl) rfl (sq_v rfl (v_loadB 3 ty_25 rfl rfl rfl) rfl (sq_v rfl (v_move rfl) rfl ?_))))))); refine sq_v rfl (v_idxI Try.underlying25 ty_3 rfl rfl r4 (by first | omega | (simp; omega) | (simp only [List.length_append, List.length_cons, List.length_nil]; omega) | (rw [List.length_set]; omega)) (by first | omega | (simp; omega) | (simp only [List.length_append, List.length_cons, List.length_nil]; omega) | (rw [List.length_set]; omega))) rfl ?_; refine sq_v rfl (v_loadI (k := i) 5 ty_3 rfl rfl r4 (by first | omega | (simp; omega) | (simp only [List.length_append, List.length_cons, List.length_nil]; omega) | (rw [List.length_set]; omega))) rfl ?_; refine sq_x rfl (x_buildS [num (u.d.getD i 0)] Try.underlying25 ty_3 (by decide) rfl rfl rfl (by decide) (by decide) (by intro v hv; simp at hv; rcases hv with rfl <;> rfl)) rfl ?_; intro v55 h55 (r55 : IntsO [u.d.getD i 0] v55 h55); refine sq_m 3 rfl rfl (m_appI 3 0 Try.underlying25 ty_3 rfl rfl rfl rfl q2 rfl r55.toR (by first | omega | (simp; omega) | (simp only [List.length_append, List.length_cons, List.length_nil]; omega) | (rw [List.length_set]; omega))) rfl ?_; intro v56 h_r56 r56; refine sq_v rfl (v_assign rfl) rfl (sq_end (qs_bn (qs_n (wp_sq ?_)))); refine sq_v rfl (v_add rfl rfl ((by unfold I64; omega))) rfl ?_; refine sq_v rfl (v_move rfl) rfl (sq_end ?_)
          exfalso; omega
        · refine wp_sk (qs_bn (qs_n (wp_sq ?_))); refine sq_v rfl (v_add rfl rfl ((by unfold I64; omega))) rfl ?_; refine sq_v rfl (v_move rfl) rfl (sq_end ?_); exact qs_bk (i + 1, v1, h1, v2, h2) ⟨by (try dsimp only); omega, step_all hm (fun h => h.2 (by rw [← hgt h.1]; omega)), by (try dsimp only); rw [filter_no (by omega) (by simpa using hmem.1 c30)]; exact q1, by (try dsimp only); rw [selP_no hu (by omega) (by simpa using hmem.1 c30)]; exact q2⟩ (by simp only; omega) ⟨rfl, rfl, rfl, rfl, (by first | rfl | exact ksub rfl (by first | omega | (simp; done) | (simp; omega))), (by first | rfl | exact ksub rfl (by first | omega | (simp; done) | (simp; omega))), rfl, rfl, (by first | rfl | exact ksub rfl (by first | omega | (simp; done) | (simp; omega))), trivial⟩ (fun _ s => s)
    · refine rj_v rfl rfl (v_move rfl) rfl (rj_s rfl rfl rfl (rj_s rfl rfl rfl (rj_s rfl rfl rfl (rj_s rfl rfl rfl (rj_s rfl rfl rfl (rj_s rfl rfl rfl (rj_s rfl rfl rfl (rj_s rfl rfl rfl (rj_s rfl rfl rfl ?_))))))))); refine rj_s rfl rfl rfl (rj_v rfl rfl (v_pickf rfl rfl) rfl (rj_end (qs_n (wp_cf rfl (wp_sk (qs_n (wp_sc (wp_sq (sq_v rfl (v_move rfl) rfl (sq_v rfl (v_lss rfl rfl) rfl (sq_end (qs_n ?_)))))))))))); refine wp_cd rfl (fun c44 => ?_) (fun c44 => ?_)
      · refine wp_sc (wp_sq (sq_v rfl (v_move rfl) rfl (sq_v rfl (v_move rfl) rfl ?_))); refine sq_x rfl (x_buildS [num (u.l.getD i 0)] Try.underlying25 ty_3 (by decide) rfl rfl rfl (by decide) (by decide) (by intro v hv; simp at hv; rcases hv with rfl <;> rfl)) rfl ?_; intro v47 h47 (r47 : IntsO [u.l.getD i 0] v47 h47); refine sq_m 1 rfl rfl (m_appI 1 0 Try.underlying25 ty_3 rfl rfl rfl rfl q1 rfl r47.toR (by first | omega | (simp; omega) | (simp only [List.length_append, List.length_cons, List.length_nil]; omega) | (rw [List.length_set]; omega))) rfl ?_; intro v48 h_r48 r48; refine sq_v rfl (v_assign rfl) rfl (sq_end (qs_n (wp_sq (sq_v rfl (v_move rfl) rfl (sq_v rfl (v_fieldAddr fd_48_1 ty_25 (by decide) rfl) rfl (sq_v rfl (v_loadB 3 ty_25 rfl rfl rfl) rfl (sq_v rfl (v_move rfl) rfl ?_))))))); refine sq_v rfl (v_idxI Try.underlying25 ty_3 rfl rfl r4 (by first | omega | (simp; omega) | (simp only [List.length_append, List.length_cons, List.length_nil]; omega) | (rw [List.length_set]; omega)) (by first | omega | (simp; omega) | (simp only [List.length_append, List.length_cons, List.length_nil]; omega) | (rw [List.length_set]; omega))) rfl ?_; refine sq_v rfl (v_loadI (k := i) 5 ty_3 rfl rfl r4 (by first | omega | (simp; omega) | (simp only [List.length_append, List.length_cons, List.length_nil]; omega) | (rw [List.length_set]; omega))) rfl ?_; refine sq_x rfl (x_buildS [num (u.d.getD i 0)] Try.underlying25 ty_3 (by decide) rfl rfl rfl (by decide) (by decide) (by intro v hv; simp at hv; rcases hv with rfl <;> rfl)) rfl ?_; intro v55 h55 (r55 : IntsO [u.d.getD i 0] v55 h55); refine sq_m 3 rfl rfl (m_appI 3 0 Try.underlying25 ty_3 rfl rfl rfl rfl q2 rfl r55.toR (by first | omega | (simp; omega) | (simp only [List.length_append, List.length_cons, List.length_nil]; omega) | (rw [List.length_set]; omega))) rfl ?_; intro v56 h_r56 r56; refine sq_v rfl (v_assign rfl) rfl (sq_end (qs_bn (qs_n (wp_sq ?_)))); refine sq_v rfl (v_add rfl rfl ((by unfold I64; omega))) rfl ?_; refine sq_v rfl (v_move rfl) rfl (sq_end ?_); exact qs_bk (i + 1, v48, h_r48, v56, h_r56) ⟨by (try dsimp only); omega, step_all hm (fun h => c30 (hmem.2 h.1)), by (try dsimp only); rw [filter_yes (by omega) (by simpa using fun h => c30 (hmem.2 h)), ← List.append_assoc]; exact r48, by (try dsimp only); rw [selP_yes hu (by omega) (by simpa using fun h => c30 (hmem.2 h)), ← List.append_assoc]; exact r56⟩ (by simp only; omega) ⟨rfl, rfl, rfl, rfl, (by first | rfl | exact ksub rfl (by first | omega | (simp; done) | (simp; omega))), (by first | rfl | exact ksub rfl (by first | omega | (simp; done) | (simp; omega))), rfl, rfl, (by first | rfl | exact ksub rfl (by first | omega | (simp; done) | (simp; omega))), trivial⟩ (fun _ s => s.pick [2, 3, 4, 5, 6] (by decide) rfl)
      · refine wp_sk (qs_bn (qs_n (wp_sq ?_))); refine sq_v rfl (v_add rfl rfl ((by unfold I64; omega))) rfl ?_; refine sq_v rfl (v_move rfl) rfl (sq_end ?_)
        exfalso; omega
  · refine wp_ex (qs_x (qs_x (qs_bx (qs_n (wp_sc (wp_sq (sq_v rfl (v_move rfl) rfl (sq_v rfl (v_move rfl) rfl (sq_v rfl (v_assign rfl) rfl (sq_v rfl (v_assign rfl) rfl (sq_v rfl (v_assign rfl) rfl (sq_end (qs_n (wp_rt ?_)))))))))))))); refine qs_close [hp w] [h1, h2] (fun _ s => s.pick [4, 0, 1] (by decide) rfl) (fun md => ?_); rw [List.take_of_length_le (by omega)] at q1; rw [List.take_of_length_le (by omega), List.take_of_length_le (by omega)] at q2; exact qs_ret3 rfl rfl rfl rfl (fin_t 0 (i := 1) rfl rfl rfl ⟨fun ⟨j, hj, hh⟩ => absurd hh (hm j (by omega)), fun _ => ⟨v1, v2, rfl, q1.toR.mono (md.le h1 (by simp)), q2.toR.mono (md.le h2 (by simp))⟩⟩)
theorem joinD_map {t u : Ten} {f : Int → Int} (ht : t.d = t.l.map f) (hu : u.d = u.l.map f) : joinD t u = (joinI t.l u.l).map f := by
  rw [joinD, ht, hu, selP_map, joinI, List.map_append]
theorem mism_not {t u : Ten} {f : Int → Int} (ht : t.d = t.l.map f) (hu : u.d = u.l.map f) : ¬ mism t u := by
  rintro ⟨i, hi, hm, hne⟩; have hg := findI_get hm; rw [ht, hu, map_getD hg.1, map_getD hi, hg.2] at hne; exact hne rfl
/-- Labels and dimensions of which p holds, as a tensor without numbers. -/
def KeepR (ls ds : List Int) (u : Value) (h : PH) : Prop := ∃ a b h1 h2, u = tenV a b (.slice none 0 0) ∧ IntsO ls a h1 ∧ IntsO ds b h2 ∧ Made h [h1, h2]
theorem ct_s_l08Keep (ls ds ks : List Int) (a b c : Value) (w : World) (r1 : IntsR ls a (hp w)) (r2 : IntsR ds b (hp w)) (r3 : IntsR ks c (hp w)) (hl : ls.length = ds.length) (hs : ls.length ≤ 1000000) :
    Calls Try.prog 77 [a, b, c].toArray w (Ret w emp (KeepR (ls.filter fun x => decide (x ∈ ks)) (selP (fun x => decide (x ∈ ks)) ls ds))) := by
  refine calls_in Try.func77 rfl Try.ntmps77 rfl (Sat.start w) ?_; have hle0 := r1.le; have hle1 := r2.le; have hle2 := r3.le; refine wp_sc (wp_sq ?_); refine sq_x rfl (x_alloc ty_48 rfl) rfl ?_; rintro _ _ ⟨b6, rfl, rfl⟩; refine sq_end (qs_n (wp_sc (wp_sq (sq_v rfl (v_build [.slice none 0 0, .slice none 0 0, .slice none 0 0] rfl (by kernel_rfl)) rfl ?_)))); refine sq_x rfl (x_alloc ty_48 rfl) rfl ?_; rintro _ _ ⟨b7, rfl, rfl⟩; refine sq_m 0 rfl rfl (m_store 0 ty_48 rfl rfl rfl rfl (by simp [one_sl]) rfl (Nat.le_of_ble_eq_true rfl)) rfl ?_; rintro _ _ ⟨rfl, rfl⟩; refine sq_end (qs_n (wp_sc (wp_sc (wp_sq (sq_v rfl (v_move rfl) rfl (sq_v rfl (v_len Try.underlying25 rfl r1.sl) rfl (sq_v rfl (v_move rfl) rfl (sq_end (qs_n (wp_bl ?_)))))))))); refine wp_lp (σ := Nat × Value × PH × Value × PH) (fun z_ => [(1, b), (2, c), (6, .pointer (some ⟨b6, 0, none⟩)), (7, .pointer (some ⟨b7, 0, none⟩)), (11, a), (12, num ls.length), (13, num z_.1)]) (fun z_ => [z_.2.2.1, z_.2.2.2.2, box b7 [z_.2.1, z_.2.2.2.1, .slice none 0 0] 48, box b6 [.slice none 0 0, .slice none 0 0, .slice none 0 0] 48, hp w]) (fun z_ => z_.1 ≤ ls.length ∧ IntsO ((ls.take z_.1).filter fun x => decide (x ∈ ks)) z_.2.1 z_.2.2.1 ∧ IntsO (selP (fun x => decide (x ∈ ks)) (ls.take z_.1) (ds.take z_.1)) z_.2.2.2.1 z_.2.2.2.2) (fun z_ => ls.length - z_.1) (0, .slice none 0 0, emp, .slice none 0 0, emp) (⟨by (try dsimp only); omega, IntsO.nil, IntsO.nil⟩) ⟨rfl, rfl, rfl, rfl, rfl, rfl, (by first | rfl | exact ksub rfl (by first | omega | (simp; done) | (simp; omega))), trivial⟩ (fun _ s => (emp_sat (emp_sat s))) ?_; rintro ⟨i, v1, h1, v2, h2⟩ ⟨hi, q1, q2⟩; dsimp only at hi q1 q2 ⊢; have hle_q1 := q1.toR.le; have hle_q2 := q2.toR.le; have hfl := filter_take_len ls (fun x => decide (x ∈ ks)) i; have hsl := selP_len (fun x => decide (x ∈ ks)) (ls.take i) (ds.take i); rw [List.length_take] at hsl; have hmem := findI_ge (xs := ks) (n := ls.getD i 0); refine wp_sc (wp_sq (sq_v rfl (v_lss rfl rfl) rfl (sq_end (qs_n (wp_sc ?_))))); refine wp_cd rfl (fun c14 => ?_) (fun c14 => ?_)
  · refine wp_sk (qs_n (wp_sc (wp_bl (wp_sc (wp_sq (sq_v rfl (v_move rfl) rfl ?_)))))); refine sq_v rfl (v_idxI Try.underlying25 ty_3 rfl rfl r1 (by first | omega | (simp; omega) | (simp only [List.length_append, List.length_cons, List.length_nil]; omega) | (rw [List.length_set]; omega)) (by first | omega | (simp; omega) | (simp only [List.length_append, List.length_cons, List.length_nil]; omega) | (rw [List.length_set]; omega))) rfl ?_; refine sq_v rfl (v_loadI (k := i) 4 ty_3 rfl rfl r1 (by first | omega | (simp; omega) | (simp only [List.length_append, List.length_cons, List.length_nil]; omega) | (rw [List.length_set]; omega))) rfl ?_; refine sq_v rfl (v_assign rfl) rfl (sq_v rfl (v_assign rfl) rfl (sq_end (qs_n (wp_sc (wp_sq (sq_v rfl (v_move rfl) rfl (sq_v rfl (v_move rfl) rfl (sq_u rfl (x_callv rfl en_45 (fun w s => ct_s_l05Find _ _ _ w (r3.mono (s.get 4 rfl)))) rfl (sq_v rfl (v_geq rfl rfl) rfl (sq_end (qs_n ?_))))))))))); refine wp_cd rfl (fun c21 => ?_) (fun c21 => ?_)
    · refine wp_sc (wp_sq (sq_v rfl (v_fieldAddr fd_48_0 ty_25 (by decide) rfl) rfl (sq_v rfl (v_loadB 2 ty_25 rfl rfl rfl) rfl (sq_v rfl (v_move rfl) rfl ?_)))); refine sq_x rfl (x_buildS [num (ls.getD i 0)] Try.underlying25 ty_3 (by decide) rfl rfl rfl (by decide) (by decide) (by intro v hv; simp at hv; rcases hv with rfl <;> rfl)) rfl ?_; intro v25 h25 (r25 : IntsO [ls.getD i 0] v25 h25); refine sq_m 1 rfl rfl (m_appI 1 0 Try.underlying25 ty_3 rfl rfl rfl rfl q1 rfl r25.toR (by first | omega | (simp; omega) | (simp only [List.length_append, List.length_cons, List.length_nil]; omega) | (rw [List.length_set]; omega))) rfl ?_; intro v26 h_r26 r26; refine sq_v rfl (v_fieldAddr fd_48_0 ty_25 (by decide) rfl) rfl ?_; refine sq_m 3 rfl rfl (m_store1 3 ty_25 rfl rfl r26.toR.sl.one rfl (Nat.le_of_ble_eq_true rfl)) rfl ?_; rintro _ _ ⟨rfl, rfl⟩; refine sq_end (qs_n (wp_rj 7 [(0, true), (1, true), (2, true), (3, true), (4, true), (5, true), (6, false), (7, false), (8, false), (9, false)] mixed_ok (by kernel_rfl) (rj_v rfl rfl (v_fieldAddr fd_48_1 ty_25 (by decide) rfl) rfl (rj_v rfl rfl (v_loadB 3 ty_25 rfl rfl rfl) rfl (rj_v rfl rfl (v_move rfl) rfl (rj_v rfl rfl (v_move rfl) rfl ?_)))))); refine rj_v rfl rfl (v_idxI Try.underlying25 ty_3 rfl rfl r2 (by first | omega | (simp; omega) | (simp only [List.length_append, List.length_cons, List.length_nil]; omega) | (rw [List.length_set]; omega)) (by first | omega | (simp; omega) | (simp only [List.length_append, List.length_cons, List.length_nil]; omega) | (rw [List.length_set]; omega))) rfl ?_; refine rj_v rfl rfl (v_loadI (k := i) 5 ty_3 rfl rfl r2 (by first | omega | (simp; omega) | (simp only [List.length_append, List.length_cons, List.length_nil]; omega) | (rw [List.length_set]; omega))) rfl ?_; refine rj_x rfl rfl (x_buildS [num (ds.getD i 0)] Try.underlying25 ty_3 (by decide) rfl rfl rfl (by decide) (by decide) (by intro v hv; simp at hv; rcases hv with rfl <;> rfl)) rfl ?_; intro v34 h34 (r34 : IntsO [ds.getD i 0] v34 h34); refine rj_m 3 rfl rfl rfl rfl (m_appI 3 0 Try.underlying25 ty_3 rfl rfl rfl rfl q2 rfl r34.toR (by first | omega | (simp; omega) | (simp only [List.length_append, List.length_cons, List.length_nil]; omega) | (rw [List.length_set]; omega))) rfl ?_; intro v35 h_r35 r35; refine rj_fv rfl rfl (v_fieldAddr fd_48_1 ty_25 (by decide) rfl) rfl ?_; refine rj_m 4 rfl rfl rfl rfl (m_store1 4 ty_25 rfl rfl r35.toR.sl.one rfl (Nat.le_of_ble_eq_true rfl)) rfl ?_; rintro _ _ ⟨rfl, rfl⟩; refine rj_end (qs_bn (qs_n (wp_sq ?_))); refine sq_v rfl (v_add rfl rfl ((by unfold I64; omega))) rfl ?_; refine sq_v rfl (v_move rfl) rfl (sq_end ?_); exact qs_bk (i + 1, v26, h_r26, v35, h_r35) ⟨by (try dsimp only); omega, by (try dsimp only); rw [filter_yes (by omega) (by simpa using hmem.1 c21)]; exact r26, by (try dsimp only); rw [selP_yes hl (by omega) (by simpa using hmem.1 c21)]; exact r35⟩ (by simp only; omega) ⟨rfl, rfl, rfl, rfl, rfl, rfl, (by first | rfl | exact ksub rfl (by first | omega | (simp; done) | (simp; omega))), trivial⟩ (fun _ s => s.pick [2, 3, 4, 5, 6] (by decide) rfl)
    · refine wp_sk (qs_bn (qs_n (wp_sq ?_))); refine sq_v rfl (v_add rfl rfl ((by unfold I64; omega))) rfl ?_; refine sq_v rfl (v_move rfl) rfl (sq_end ?_); exact qs_bk (i + 1, v1, h1, v2, h2) ⟨by (try dsimp only); omega, by (try dsimp only); rw [filter_no (by omega) (by simpa using fun h => c21 (hmem.2 h))]; exact q1, by (try dsimp only); rw [selP_no hl (by omega) (by simpa using fun h => c21 (hmem.2 h))]; exact q2⟩ (by simp only; omega) ⟨rfl, rfl, rfl, rfl, rfl, rfl, (by first | rfl | exact ksub rfl (by first | omega | (simp; done) | (simp; omega))), trivial⟩ (fun _ s => s)
  · refine wp_ex (qs_x (qs_x (qs_bx (qs_n (wp_sc (wp_sq (sq_v rfl (v_loadNB 2 ty_48 rfl rfl rfl rfl) rfl ?_))))))); refine sq_m 3 rfl rfl (m_store 3 ty_48 rfl rfl rfl rfl (by simp [q1.toR.sl.one, q2.toR.sl.one, one_sl]) rfl (Nat.le_of_ble_eq_true rfl)) rfl ?_; rintro _ _ ⟨rfl, rfl⟩; refine sq_end (qs_n (wp_rt ?_)); refine qs_close [box b6 _ _, hp w] [h1, h2] (fun _ s => s.pick [3, 4, 0, 1] (by decide) rfl) (fun md => ?_); rw [List.take_of_length_le (by omega)] at q1; rw [List.take_of_length_le (by omega), List.take_of_length_le (by omega)] at q2; exact qs_retc 1 rfl ty_48 rfl rfl rfl (fin_t 0 (i := 2) rfl rfl rfl ⟨v1, v2, h1, h2, rfl, q1, q2, md⟩)
theorem ct_u_l08Join (f : Int → Int) (t u : Ten) (a b c a' b' c' : Value) (w : World) (r1 : IntsR t.l a (hp w)) (r2 : IntsR t.d b (hp w)) (r3 : IntsR u.l a' (hp w)) (r4 : IntsR u.d b' (hp w)) (ht : t.d = t.l.map f) (hu : u.d = u.l.map f) (hn : u.l.Nodup) (hs : t.l.length + u.l.length ≤ 1000000) :
    Calls Try.prog 76 [tenV a b c, tenV a' b' c'].toArray w (Ret w emp (fun v h => ∃ v1 v2, v = .tuple [v1, v2, .bool true].toArray ∧ IntsR (joinI t.l u.l) v1 h ∧ IntsR ((joinI t.l u.l).map f) v2 h)) :=
  (ct_s_l08Join t u a b c a' b' c' w r1 r2 r3 r4 (by rw [ht, List.length_map]) (by rw [hu, List.length_map]) hn hs).mono fun _ _ hh => by
    obtain ⟨v, h', h1, h2, h3⟩ := hh; have := h3.2 (mism_not ht hu); rw [joinD_map ht hu] at this; exact ⟨v, h', h1, h2, this⟩
theorem map_dims {f : Int → Int} {l : List Int} (h : ∀ x ∈ l, 1 ≤ f x ∧ f x ≤ 8) : dimsIn (l.map f) := fun j hj => by
  rw [List.length_map] at hj; rw [map_getD hj]; exact h _ (mem_getD hj)
end Go.Proofs.Ytdkgaejmgnojhaa
namespace Go.Proofs.Ytdkgaejmgnojhaa
set_option maxRecDepth 100000
open Go.RowKit
set_option maxHeartbeats 1000000 in
theorem ct_s_l08Steps (ls ds xs labels : List Int) (a b c v : Value) (w : World) (r1 : IntsR ls a (hp w)) (r2 : IntsR ds b (hp w)) (r3 : IntsR xs c (hp w)) (r : IntsR labels v (hp w)) (hl : ls.length = ds.length) (hn : labels.Nodup) (hd : ∀ d ∈ ds, 1 ≤ d ∧ d ≤ 8) (hp1 : prodI ds ≤ 1000000000000) (hs : labels.length ≤ 1048576) (hm : ∀ l ∈ ls, l ∈ labels) :
    Calls Try.prog 78 [tenV a b c, v].toArray w (Ret w emp (IntsO (stepsL labels ls ds))) := by
  have hd1 : ∀ d ∈ ds, 1 ≤ d := fun d h => (hd d h).1; refine calls_in Try.func78 rfl Try.ntmps78 rfl (Sat.start w) ?_; have hle0 := r1.le; have hle1 := r2.le; have hle2 := r3.le; have hle3 := r.le; refine wp_sc (wp_sq ?_); refine sq_x rfl (x_box rfl rfl) rfl ?_; rintro _ _ ⟨b2, rfl, rfl⟩; refine sq_v rfl (v_assign rfl) rfl (sq_end (qs_n (wp_sc (wp_sq (sq_v rfl (v_move rfl) rfl (sq_v rfl (v_len Try.underlying25 rfl r.sl) rfl ?_)))))); refine sq_x rfl (x_makeI Try.underlying25 ty_3 rfl rfl (by first | omega | (simp; omega) | (simp only [List.length_append, List.length_cons, List.length_nil]; omega) | (rw [List.length_set]; omega)) (by first | omega | (simp; omega) | (simp only [List.length_append, List.length_cons, List.length_nil]; omega) | (rw [List.length_set]; omega)) (by first | omega | (simp; omega) | (simp only [List.length_append, List.length_cons, List.length_nil]; omega) | (rw [List.length_set]; omega))) rfl ?_; intro v11 h11 r11; refine sq_v rfl (v_assign rfl) rfl (sq_end (qs_n (wp_sc (wp_sq (sq_v rfl (v_assign rfl) rfl (sq_end (qs_n (wp_sc (wp_sc (wp_sq (sq_v rfl (v_fieldAddr fd_48_0 ty_25 (by decide) rfl) rfl (sq_v rfl (v_loadB 1 ty_25 rfl rfl rfl) rfl (sq_v rfl (v_len Try.underlying25 rfl r1.sl) rfl ?_))))))))))))); refine sq_v rfl (v_sub rfl rfl ((by unfold I64; omega))) rfl ?_; refine sq_v rfl (v_assign rfl) rfl (sq_end (qs_n (wp_bl ?_))); refine wp_lp (σ := Nat × Int × PH) (fun z_ => [(1, v), (2, .pointer (some ⟨b2, 0, none⟩)), (4, .slice none 0 0), (5, v11), (6, num z_.2.1), (7, num ((z_.1 : Int) - 1))]) (fun z_ => [z_.2.2, box b2 [a, b, c] 48, hp w]) (fun z_ => z_.1 ≤ ds.length ∧ z_.2.1 = prodI (ds.drop z_.1) ∧ IntsO (stepsL labels (ls.drop z_.1) (ds.drop z_.1)) v11 z_.2.2) (fun z_ => z_.1) (ds.length, 1, h11) (⟨by (try dsimp only); omega, by (try dsimp only); simp [prodI], by (try dsimp only); rw [steps_end (by omega)]; simpa using r11⟩) ⟨rfl, rfl, rfl, rfl, (by first | rfl | exact ksub rfl (by first | omega | (simp; done) | (simp; omega))), (by first | rfl | exact ksub rfl (by first | omega | (simp; done) | (simp; omega))), trivial⟩ (fun _ s => s) ?_; rintro ⟨m, st, g⟩ ⟨hm', hst, q⟩; dsimp only at hm' hst q ⊢; have hle_q := q.toR.le; have hpd := prodI_drop hd1 m; have hpd1 := prodI_drop hd1 (m - 1); have hlB := stepsL_len labels (ls.drop m) (ds.drop m); have em : ((m : Int) - 1).toNat = m - 1 := by omega
  refine wp_sc (wp_sc (wp_sq (sq_v rfl (v_move rfl) rfl (sq_v rfl (v_geq rfl rfl) rfl (sq_end (qs_n ?_)))))); refine wp_cd rfl (fun c17 => ?_) (fun c17 => ?_)
  · refine wp_sk (qs_n (wp_sc (wp_bl (wp_sc (wp_sc (wp_sq (sq_v rfl (v_move rfl) rfl (sq_v rfl (v_fieldAddr fd_48_0 ty_25 (by decide) rfl) rfl (sq_v rfl (v_loadB 1 ty_25 rfl rfl rfl) rfl (sq_v rfl (v_move rfl) rfl ?_)))))))))); refine sq_v rfl (v_idxI Try.underlying25 ty_3 rfl rfl r1 (by first | omega | (simp; omega) | (simp only [List.length_append, List.length_cons, List.length_nil]; omega) | (rw [List.length_set]; omega)) (by first | omega | (simp; omega) | (simp only [List.length_append, List.length_cons, List.length_nil]; omega) | (rw [List.length_set]; omega))) rfl ?_; refine sq_v rfl (v_loadI  2 ty_3 rfl rfl r1 (by first | omega | (simp; omega) | (simp only [List.length_append, List.length_cons, List.length_nil]; omega) | (rw [List.length_set]; omega))) rfl ?_; refine sq_u rfl (x_callv rfl en_45 (fun w s => ct_s_l05Find _ _ _ w (r.mono (s.get 2 rfl)))) rfl (sq_v rfl (v_assign rfl) rfl (sq_end ?_)); have hfm : ls.getD ((m : Int) - 1).toNat 0 ∈ labels := hm _ (mem_getD (by omega)); have hfg := findI_get hfm; have hf0 := findI_ge.2 hfm; refine qs_n (wp_sc (wp_sq (sq_v rfl (v_move rfl) rfl (sq_v rfl (v_geq rfl rfl) rfl (sq_end (qs_n ?_)))))); refine wp_cd rfl (fun c28 => ?_) (fun c28 => ?_)
    · refine wp_sq (sq_v rfl (v_move rfl) rfl (sq_v rfl (v_move rfl) rfl (sq_v rfl (v_move rfl) rfl ?_))); refine sq_v rfl (v_idxI Try.underlying25 ty_3 rfl rfl q.toR (by first | omega | (simp; omega) | (simp only [List.length_append, List.length_cons, List.length_nil]; omega) | (rw [List.length_set]; omega)) (by first | omega | (simp; omega) | (simp only [List.length_append, List.length_cons, List.length_nil]; omega) | (rw [List.length_set]; omega))) rfl ?_; refine sq_m 0 rfl rfl (m_storeI 0 ty_3 rfl rfl rfl q (by first | omega | (simp; omega) | (simp only [List.length_append, List.length_cons, List.length_nil]; omega) | (rw [List.length_set]; omega))) rfl ?_; rintro _ h_q8_4 ⟨rfl, q8_4⟩; refine sq_end (qs_n (wp_sq (sq_v rfl (v_move rfl) rfl (sq_v rfl (v_fieldAddr fd_48_1 ty_25 (by decide) rfl) rfl (sq_v rfl (v_loadB 1 ty_25 rfl rfl rfl) rfl (sq_v rfl (v_move rfl) rfl ?_)))))); refine sq_v rfl (v_idxI Try.underlying25 ty_3 rfl rfl r2 (by first | omega | (simp; omega) | (simp only [List.length_append, List.length_cons, List.length_nil]; omega) | (rw [List.length_set]; omega)) (by first | omega | (simp; omega) | (simp only [List.length_append, List.length_cons, List.length_nil]; omega) | (rw [List.length_set]; omega))) rfl ?_; refine sq_v rfl (v_loadI  2 ty_3 rfl rfl r2 (by first | omega | (simp; omega) | (simp only [List.length_append, List.length_cons, List.length_nil]; omega) | (rw [List.length_set]; omega))) rfl ?_; have hpn := prod_next (ds := ds) (m := m) (by omega) hm'; refine sq_v rfl (v_mul rfl rfl ((by rw [em, hst, ← hpn]; unfold I64; omega))) rfl ?_; refine sq_v rfl (v_assign rfl) rfl (sq_end (qs_bn (qs_n (wp_sq (sq_v rfl (v_move rfl) rfl ?_))))); refine sq_v rfl (v_sub rfl rfl ((by unfold I64; omega))) rfl ?_; refine sq_v rfl (v_assign rfl) rfl (sq_end ?_); exact qs_bk (m - 1, st * ds.getD ((m : Int) - 1).toNat 0, h_q8_4) ⟨by (try dsimp only); omega, by (try dsimp only); rw [em, hst, ← hpn], by (try dsimp only); rw [em] at q8_4; rw [drop_cons (xs := ls) (i := m - 1) (by omega), drop_cons (xs := ds) (i := m - 1) (by omega), show m - 1 + 1 = m by omega, steps_cons hn (by rw [← em]; exact hfm), ← hst]; exact q8_4⟩ (by simp only; omega) ⟨rfl, rfl, rfl, rfl, (by first | rfl | exact ksub rfl (by first | omega | (simp; done) | (simp; omega))), (by first | rfl | exact ksub rfl (by first | omega | (simp; done) | (simp; omega))), trivial⟩ (fun _ s => s)
    · refine wp_sk (qs_n (wp_sq (sq_v rfl (v_move rfl) rfl (sq_v rfl (v_fieldAddr fd_48_1 ty_25 (by decide) rfl) rfl (sq_v rfl (v_loadB 1 ty_25 rfl rfl rfl) rfl (sq_v rfl (v_move rfl) rfl ?_)))))); refine sq_v rfl (v_idxI Try.underlying25 ty_3 rfl rfl r2 (by first | omega | (simp; omega) | (simp only [List.length_append, List.length_cons, List.length_nil]; omega) | (rw [List.length_set]; omega)) (by first | omega | (simp; omega) | (simp only [List.length_append, List.length_cons, List.length_nil]; omega) | (rw [List.length_set]; omega))) rfl ?_; refine sq_v rfl (v_loadI  2 ty_3 rfl rfl r2 (by first | omega | (simp; omega) | (simp only [List.length_append, List.length_cons, List.length_nil]; omega) | (rw [List.length_set]; omega))) rfl ?_; have hpn := prod_next (ds := ds) (m := m) (by omega) hm'; refine sq_v rfl (v_mul rfl rfl ((by rw [em, hst, ← hpn]; unfold I64; omega))) rfl ?_; refine sq_v rfl (v_assign rfl) rfl (sq_end (qs_bn (qs_n (wp_sq (sq_v rfl (v_move rfl) rfl ?_))))); refine sq_v rfl (v_sub rfl rfl ((by unfold I64; omega))) rfl ?_; refine sq_v rfl (v_assign rfl) rfl (sq_end ?_); exact absurd hf0 (by omega)
  · refine wp_ex (qs_x (qs_x (qs_bx (qs_n (wp_sc (wp_sq (sq_v rfl (v_move rfl) rfl (sq_v rfl (v_assign rfl) rfl (sq_end (qs_n (wp_rt ?_))))))))))); exact qs_ret1 rfl rfl (fin_t 0 (i := 2) rfl rfl rfl (by rw [show m = 0 by omega] at q; exact q))
end Go.Proofs.Ytdkgaejmgnojhaa
namespace Go.Proofs.Ytdkgaejmgnojhaa
set_option maxRecDepth 100000
open Go.RowKit
def dimJ (t u : Ten) (x : Int) : Int := if x ∈ t.l then t.d.getD (findI t.l x).toNat 0 else u.d.getD (findI u.l x).toNat 0
theorem map_find {ls ds : List Int} (hn : ls.Nodup) (hl : ls.length = ds.length) : ds = ls.map fun x => ds.getD (findI ls x).toNat 0 := by
  apply ext_getD
  · simp [hl]
  · intro j hj; rw [map_getD (by omega), find_at' hn (by omega)]
    simp
theorem dimJ_l {t u : Ten} (hn : t.l.Nodup) (hl : t.l.length = t.d.length) : t.d = t.l.map (dimJ t u) := by
  conv => lhs; rw [map_find hn hl]
  exact List.map_congr_left fun x hx => by simp [dimJ, hx]
theorem dimJ_r {t u : Ten} (hn : u.l.Nodup) (hl : u.l.length = u.d.length) (hm : ¬ mism t u) : u.d = u.l.map (dimJ t u) := by
  conv => lhs; rw [map_find hn hl]
  refine List.map_congr_left fun x hx => ?_
  by_cases h : x ∈ t.l
  · have hg := findI_get hx; have : ¬ (t.d.getD (findI t.l x).toNat 0 ≠ u.d.getD (findI u.l x).toNat 0) := fun hne => hm ⟨(findI u.l x).toNat, hg.1, by rw [hg.2]; exact ⟨h, hne⟩⟩; simp only [dimJ, h, if_true]
    omega
  · simp [dimJ, h]
/-- Two tensors that can be joined. -/
structure PairOK (k p n : Int) (t u : Ten) (f : Int → Int) : Prop where
  tt : tensorL k p n t.l t.d t.x
  uu : tensorL k p n u.l u.d u.x
  ht : t.d = t.l.map f
  hu : u.d = u.l.map f
  work : prodI ((joinI t.l u.l).map f) ≤ 65536
theorem ten_axes {k p n : Int} {ls ds xs : List Int} (h : tensorL k p n ls ds xs) : axesL ls ds := (sizeI_ge.1 h.2.1).1
theorem ten_prod {k p n : Int} {ls ds xs : List Int} (h : tensorL k p n ls ds xs) : prodI ds ≤ 4096 := (sizeI_ge.1 h.2.1).2
theorem PairOK.nd {k p n : Int} {t u : Ten} {f : Int → Int} (h : PairOK k p n t u f) : (joinI t.l u.l).Nodup := joinI_nodup (axes_nodup (ten_axes h.tt)) (axes_nodup (ten_axes h.uu))
theorem PairOK.dim {k p n : Int} {t u : Ten} {f : Int → Int} (h : PairOK k p n t u f) : ∀ x ∈ joinI t.l u.l, 1 ≤ f x ∧ f x ≤ 8 := fun x hx => by
  rcases mem_joinI.1 hx with hx | hx
  · exact dims_mem (axes_dims (ten_axes h.tt)) _ (by rw [h.ht]; exact List.mem_map_of_mem hx)
  · exact dims_mem (axes_dims (ten_axes h.uu)) _ (by rw [h.hu]; exact List.mem_map_of_mem hx)
theorem map_dim {f : Int → Int} {L ls : List Int} (hf : ∀ x ∈ L, 1 ≤ f x ∧ f x ≤ 8) (hs : ∀ l ∈ ls, l ∈ L) : ∀ d ∈ ls.map f, 1 ≤ d ∧ d ≤ 8 := fun d hd => by
  obtain ⟨x, hx, rfl⟩ := List.mem_map.1 hd; exact hf x (hs x hx)
def atI (f : Int → Int) (L ls : List Int) (m : Int) : Int := dotL (stepsL L ls (ls.map f)) (idxL (L.map f) m)
theorem at_in {f : Int → Int} {L ls : List Int} (hn : L.Nodup) (hl : ls.Nodup) (hs : ∀ l ∈ ls, l ∈ L) (hf : ∀ x ∈ L, 1 ≤ f x ∧ f x ≤ 8) (m : Int) : 0 ≤ atI f L ls m ∧ atI f L ls m < prodI (ls.map f) := by
  have hd : ∀ d ∈ L.map f, 1 ≤ d := fun d hd => (map_dim hf (fun _ h => h) d hd).1; have hd2 : ∀ d ∈ ls.map f, 1 ≤ d := fun d hd => (map_dim hf hs d hd).1; have hi := idxL_in hd m; have ho := offL_in (ds := ls.map f) (is := idxAt L (idxL (L.map f) m) ls) hd2 ⟨by simp [idxAt], fun j hj => by
    have hj' : j < ls.length := by simpa using hj
    have hm := hs _ (mem_getD hj'); have hg := findI_get hm; have := hi.2 (findI L (ls.getD j 0)).toNat (by simpa using hg.1); rw [map_getD hg.1, hg.2] at this; rw [idxAt, map_getD hj', map_getD hj']; exact this⟩
  have e : atI f L ls m = offL (ls.map f) (idxAt L (idxL (L.map f) m) ls) := by
    unfold atI dotL; rw [stepsL_len]; exact dot_off hn (by simp) hl hs
  omega
def AllR (k p n P : Int) (xs : List Int) : Prop := (xs.length : Int) = P * widthI k n ∧ ∀ a ∈ xs, 0 ≤ a ∧ a ≤ topI k p n
theorem mul_room {P w i : Int} (hw : 0 ≤ w) (h0 : 0 ≤ i) (h1 : i < P) : 0 ≤ i * w ∧ i * w + w ≤ P * w := by
  have h2 := Int.mul_le_mul_of_nonneg_right (show i + 1 ≤ P by omega) hw; rw [Int.add_mul, Int.one_mul] at h2; exact ⟨Int.mul_nonneg h0 hw, h2⟩
theorem AllR.el {k p n P : Int} {xs : List Int} (h : AllR k p n P xs) (hr : ringL k p n) {i : Int} (h0 : 0 ≤ i) (h1 : i < P) : InR k p n (elt xs (widthI k n) i) := by
  have hw := width_range hr; have hm := mul_room (show 0 ≤ widthI k n by omega) h0 h1; have hl := h.1; refine ⟨?_, fun a ha => h.2 a (elt_mem ha)⟩; simp only [elt, List.length_take, List.length_drop]
  omega
theorem AllR.put {k p n P : Int} {xs ys : List Int} (h : AllR k p n P xs) (hr : ringL k p n) {i : Int} (h0 : 0 ≤ i) (h1 : i < P) (hy : InR k p n ys) : AllR k p n P (putL xs (i * widthI k n).toNat ys) := by
  have hw := width_range hr; have hm := mul_room (show 0 ≤ widthI k n by omega) h0 h1; have hl := h.1; have hyl := hy.1; refine ⟨by rw [putL_len (by omega)]; exact hl, fun a ha => ?_⟩; simp only [putL, List.mem_append] at ha
  rcases ha with (ha | ha) | ha
  · exact h.2 a (List.mem_of_mem_take ha)
  · exact hy.2 a ha
  · exact h.2 a (List.mem_of_mem_drop ha)
theorem flat_rep_len (z : List Int) : ∀ m : Nat, ((List.replicate m z).flatten).length = m * z.length
  | 0 => by simp
  | m + 1 => by rw [List.replicate_succ, List.flatten_cons, List.length_append, flat_rep_len z m, Nat.add_mul, Nat.one_mul]; omega
theorem flat_rep_succ (z : List Int) (m : Nat) : (List.replicate (m + 1) z).flatten = (List.replicate m z).flatten ++ z := by
  rw [List.replicate_succ', List.flatten_append]; simp
theorem zeroL_in {k p n : Int} (h : ringL k p n) : InR k p n (zeroL k p n) := by
  have ht := top_range h; refine ⟨zeroL_len k p n, fun a ha => ?_⟩
  unfold zeroL at ha
  split at ha
  · rename_i h4
    have := top_cap h (.inr (.inl h4))
    simp at ha; omega
  · have := List.eq_of_mem_replicate ha; omega
theorem AllR.zero {k p n P : Int} (hr : ringL k p n) (hP : 0 ≤ P) : AllR k p n P (List.replicate P.toNat (zeroL k p n)).flatten := by
  have hw := width_range hr; have hz := zeroL_in hr; refine ⟨?_, fun a ha => ?_⟩
  · rw [flat_rep_len, hz.1, Int.natCast_mul]; rw [show ((P.toNat : Nat) : Int) = P by omega, show (((widthI k n).toNat : Nat) : Int) = widthI k n by omega]
  · obtain ⟨l, hl, ha⟩ := List.mem_flatten.1 ha; rw [List.eq_of_mem_replicate hl] at ha; exact hz.2 a ha
noncomputable def pairX (k p n : Int) (f : Int → Int) (t u : Ten) (K : List Int) : Nat → List Int
  | 0 => (List.replicate (prodI (K.map f)).toNat (zeroL k p n)).flatten
  | m + 1 => putL (pairX k p n f t u K m) (atI f (joinI t.l u.l) K m * widthI k n).toNat
      (addL k p (elt (pairX k p n f t u K m) (widthI k n) (atI f (joinI t.l u.l) K m))
        (mulL k p n (elt t.x (widthI k n) (atI f (joinI t.l u.l) t.l m)) (elt u.x (widthI k n) (atI f (joinI t.l u.l) u.l m))))
noncomputable def pairT (k p n : Int) (f : Int → Int) (t u : Ten) (K : List Int) : Ten := ⟨K, K.map f, pairX k p n f t u K (prodI ((joinI t.l u.l).map f)).toNat⟩
theorem ten_all {k p n : Int} {t : Ten} (h : tensorL k p n t.l t.d t.x) : AllR k p n (prodI t.d) t.x := by
  have hs := sizeI_ge.1 h.2.1; have := h.2.2.1; rw [sizeI_yes hs.1 hs.2] at this; exact ⟨this, h.2.2.2⟩
structure KeepOK (t u : Ten) (f : Int → Int) (K : List Int) : Prop where
  sub : ∀ l ∈ K, l ∈ joinI t.l u.l
  nd : K.Nodup
  small : prodI (K.map f) ≤ 4096
section
variable {k p n : Int} {t u : Ten} {f : Int → Int} {K : List Int} (h : PairOK k p n t u f) (hk : KeepOK t u f K)
include h hk
theorem PairOK.at_k (m : Int) : 0 ≤ atI f (joinI t.l u.l) K m ∧ atI f (joinI t.l u.l) K m < prodI (K.map f) := at_in h.nd hk.nd hk.sub h.dim m
theorem PairOK.pos_k : 1 ≤ prodI (K.map f) := prodI_one fun d hd => (map_dim h.dim hk.sub d hd).1
omit hk in
theorem PairOK.at_t (m : Int) : 0 ≤ atI f (joinI t.l u.l) t.l m ∧ atI f (joinI t.l u.l) t.l m < prodI t.d := by
  have := at_in h.nd (axes_nodup (ten_axes h.tt)) (fun l hl => mem_joinI.2 (.inl hl)) h.dim m
  rwa [← h.ht] at this
omit hk in
theorem PairOK.at_u (m : Int) : 0 ≤ atI f (joinI t.l u.l) u.l m ∧ atI f (joinI t.l u.l) u.l m < prodI u.d := by
  have := at_in h.nd (axes_nodup (ten_axes h.uu)) (fun l hl => mem_joinI.2 (.inr hl)) h.dim m
  rwa [← h.hu] at this
omit hk in
theorem PairOK.el_t (m : Int) : InR k p n (elt t.x (widthI k n) (atI f (joinI t.l u.l) t.l m)) := elt_inR h.tt (h.at_t m).1 (h.at_t m).2
omit hk in
theorem PairOK.el_u (m : Int) : InR k p n (elt u.x (widthI k n) (atI f (joinI t.l u.l) u.l m)) := elt_inR h.uu (h.at_u m).1 (h.at_u m).2
theorem PairOK.all : ∀ m : Nat, AllR k p n (prodI (K.map f)) (pairX k p n f t u K m)
  | 0 => AllR.zero h.tt.1 (by have := h.pos_k hk; omega)
  | m + 1 => (PairOK.all m).put h.tt.1 (h.at_k hk m).1 (h.at_k hk m).2 (addL_in h.tt.1 ((PairOK.all m).el h.tt.1 (h.at_k hk m).1 (h.at_k hk m).2) (mulL_in h.tt.1 (h.el_t m) (h.el_u m)))
theorem PairOK.small (m : Nat) : (pairX k p n f t u K m).length ≤ 24576 := by
  have hw := width_range h.tt.1; have := (h.all hk m).1; have h3 : prodI (K.map f) * widthI k n ≤ 4096 * 6 := Int.mul_le_mul hk.small hw.2 (by omega) (by omega)
  omega
theorem PairOK.fits (m : Nat) : atI f (joinI t.l u.l) K m * widthI k n + widthI k n ≤ (pairX k p n f t u K m).length := by
  have hw := width_range h.tt.1; have := (h.all hk m).1; have := (mul_room (show 0 ≤ widthI k n by omega) (h.at_k hk m).1 (h.at_k hk m).2).2
  omega
end
end Go.Proofs.Ytdkgaejmgnojhaa
namespace Go.Proofs.Ytdkgaejmgnojhaa
set_option maxRecDepth 100000
open Go.RowKit
set_option maxHeartbeats 1000000 in
theorem ct_s_l05Zero (k p n : Int) (ls ds : List Int) (a b : Value) (w : World) (hr : ringL k p n) (r1 : IntsR ls a (hp w)) (r2 : IntsR ds b (hp w)) (hd : dimsIn ds) (hp1 : prodI ds ≤ 4096) (hl : ls.length ≤ 12) (hdl : ds.length ≤ 12) :
    Calls Try.prog 73 [ringV k p n, a, b].toArray w (Ret w emp (TenT ⟨ls, ds, (List.replicate (prodI ds).toNat (zeroL k p n)).flatten⟩)) := by
  have hp0 := prodI_one fun d h => (dims_mem hd d h).1; have hwr := width_range hr; have hzl := zeroL_len k p n; refine calls_in Try.func73 rfl Try.ntmps73 rfl (Sat.start w) ?_; have hle0 := r1.le; have hle1 := r2.le; refine wp_sc (wp_sq ?_); refine sq_x rfl (x_box rfl rfl) rfl ?_; rintro _ _ ⟨b3, rfl, rfl⟩; refine sq_x rfl (x_alloc ty_48 rfl) rfl ?_; rintro _ _ ⟨b6, rfl, rfl⟩; refine sq_end (qs_n (wp_sc (wp_sq (sq_v rfl (v_move rfl) rfl ?_)))); refine sq_x rfl (x_call rfl en_75 (fun w s => ct_s_l05Ints _ _ w (r1.mono (s.get 2 rfl)) (by first | assumption | omega))) rfl ?_; rintro v10 h10 r10; refine sq_v rfl (v_move rfl) rfl ?_; refine sq_x rfl (x_call rfl en_75 (fun w s => ct_s_l05Ints _ _ w (r2.mono (s.get 3 rfl)) (by first | assumption | omega))) rfl ?_; rintro v12 h12 r12; refine sq_v rfl (v_build [v10, v12, .slice none 0 0] rfl (by obtain ⟨_, _, rfl⟩ := r10.toR.sl; obtain ⟨_, _, rfl⟩ := r12.toR.sl; kernel_rfl)) rfl ?_; refine sq_x rfl (x_alloc ty_48 rfl) rfl ?_; rintro _ _ ⟨b7, rfl, rfl⟩; refine sq_m 0 rfl rfl (m_store 0 ty_48 rfl rfl rfl rfl (by simp [r10.toR.sl.one, r12.toR.sl.one, one_sl]) rfl (Nat.le_of_ble_eq_true rfl)) rfl ?_; rintro _ _ ⟨rfl, rfl⟩; refine sq_end (qs_n (wp_sc (wp_sc (wp_sq (sq_v rfl (v_move rfl) rfl (sq_u rfl (x_callv rfl en_53 (fun w s => ct_s_l05Product _ _ _ w (r2.mono (s.get 5 rfl)) (by first | assumption | omega) (by first | assumption | omega))) rfl (sq_v rfl (v_assign rfl) rfl (sq_end (qs_n (wp_bl ?_)))))))))); refine wp_lp (σ := Nat × Value × PH) (fun z_ => [(3, .pointer (some ⟨b3, 0, none⟩)), (6, .pointer (some ⟨b6, 0, none⟩)), (7, .pointer (some ⟨b7, 0, none⟩)), (8, num (prodI ds - z_.1))]) (fun z_ => [z_.2.2, box b7 [v10, v12, z_.2.1] 48, h12, h10, box b6 [.slice none 0 0, .slice none 0 0, .slice none 0 0] 48, box b3 [num k, num p, num n] 32, hp w]) (fun z_ => z_.1 ≤ (prodI ds).toNat ∧ IntsO ((List.replicate z_.1 (zeroL k p n)).flatten) z_.2.1 z_.2.2) (fun z_ => (prodI ds).toNat - z_.1) (0, .slice none 0 0, emp) (⟨by (try dsimp only); omega, by (try dsimp only); simpa using IntsO.nil⟩) ⟨rfl, rfl, rfl, (by first | rfl | exact ksub rfl (by first | omega | (simp; done) | (simp; omega))), trivial⟩ (fun _ s => (emp_sat s)) ?_; rintro ⟨i, v, g⟩ ⟨hi, q⟩; dsimp only at hi q ⊢; have hle_q := q.toR.le; have hfl := flat_rep_len (zeroL k p n) i; have hfb : i * (zeroL k p n).length ≤ 4096 * 6 := Nat.mul_le_mul (by omega) (by omega); refine wp_sc (wp_sc (wp_sq (sq_v rfl (v_move rfl) rfl (sq_v rfl (v_gtr rfl rfl) rfl (sq_end (qs_n ?_)))))); refine wp_cd rfl (fun c17 => ?_) (fun c17 => ?_)
  · refine wp_sk (qs_n (wp_sc (wp_bl (wp_rj 4 [(0, true), (1, true), (2, true), (3, false), (4, false), (5, false), (6, false)] mixed_ok (by kernel_rfl) (rj_v rfl rfl (v_fieldAddr fd_48_2 ty_25 (by decide) rfl) rfl (rj_v rfl rfl (v_loadB 1 ty_25 rfl rfl rfl) rfl (rj_v rfl rfl (v_loadNB 5 ty_32 rfl rfl rfl rfl) rfl ?_))))))); refine rj_x rfl rfl (x_call rfl en_92 (fun w s => ct_s_l02Zero _ _ _ w (by first | assumption | omega))) rfl ?_; rintro v23 h23 r23; refine rj_m 1 rfl rfl rfl rfl (m_appI 1 0 Try.underlying25 ty_3 rfl rfl rfl rfl q rfl r23.toR (by first | omega | (simp; omega) | (simp only [List.length_append, List.length_cons, List.length_nil]; omega) | (rw [List.length_set]; omega))) rfl ?_; intro v24 h_r24 r24; refine rj_fv rfl rfl (v_fieldAddr fd_48_2 ty_25 (by decide) rfl) rfl ?_; refine rj_m 2 rfl rfl rfl rfl (m_store1 2 ty_25 rfl rfl r24.toR.sl.one rfl (Nat.le_of_ble_eq_true rfl)) rfl ?_; rintro _ _ ⟨rfl, rfl⟩; refine rj_end (qs_bn (qs_n (wp_sq (sq_v rfl (v_move rfl) rfl ?_)))); refine sq_v rfl (v_sub rfl rfl ((by unfold I64; omega))) rfl ?_; refine sq_v rfl (v_assign rfl) rfl (sq_end ?_); exact qs_bk (i + 1, v24, h_r24) ⟨by (try dsimp only); omega, by (try dsimp only); rw [flat_rep_succ]; exact r24⟩ (by simp only; omega) ⟨rfl, rfl, rfl, (by first | rfl | exact ksub rfl (by first | omega | (simp; done) | (simp; omega))), trivial⟩ (fun _ s => s.pick [1, 2, 3, 4, 5, 6, 7] (by decide) rfl)
  · refine wp_ex (qs_x (qs_x (qs_bx (qs_n (wp_sc (wp_sq (sq_v rfl (v_loadNB 1 ty_48 rfl rfl rfl rfl) rfl ?_))))))); refine sq_m 4 rfl rfl (m_store 4 ty_48 rfl rfl rfl rfl (by simp [r10.toR.sl.one, r12.toR.sl.one, q.toR.sl.one]) rfl (Nat.le_of_ble_eq_true rfl)) rfl ?_; rintro _ _ ⟨rfl, rfl⟩; refine sq_end (qs_n (wp_rt ?_)); refine qs_close [box b6 _ _, hp w] [h10, h12, g] (fun _ s => s.pick [4, 6, 3, 2, 0] (by decide) rfl) (fun md => ?_); exact qs_retc 1 rfl ty_48 rfl rfl rfl (fin_t 0 (i := 2) rfl rfl rfl ⟨_, _, _, rfl, _, _, _, r10, r12, (by rw [show (prodI ds).toNat = i by omega]; exact q), md⟩)
theorem ct_s_l05Put (k p n i : Int) (ls ds xs ys : List Int) (a b c v : Value) (w : World) (h : PH) (hr : ringL k p n) (hle : PLe h (hp w)) (ra : IntsR ls a (restP w h)) (rb : IntsR ds b (restP w h)) (rx : IntsO xs c h) (ry : IntsR ys v (restP w h)) (hy : ys.length = (widthI k n).toNat) (hi : 0 ≤ i) (hl : i * widthI k n + widthI k n ≤ xs.length) (hs : xs.length ≤ 1000000) :
    Calls Try.prog 54 [ringV k p n, tenV a b c, num i, v].toArray w (Ret w h (fun _ h' => IntsO (putL xs (i * widthI k n).toNat ys) c h')) := by
  have hwr := width_range hr; have hm0 := Int.mul_nonneg hi (show 0 ≤ widthI k n by omega); have hE : ((xs.drop (i * widthI k n).toNat).take ys.length).length = ys.length := by simp; omega
  obtain ⟨E, hEe⟩ : ∃ E, E = (xs.drop (i * widthI k n).toNat).take ys.length := ⟨_, rfl⟩
  have hps := putL_self (xs := xs) (lo := (i * widthI k n).toNat) (m := ys.length) (by omega); rw [← hEe] at hE hps; refine calls_in Try.func54 rfl Try.ntmps54 rfl (Sat.start2 hle) ?_; have hle0 := ra.le; have hle1 := rb.le; have hle2 := rx.toR.le; have hle3 := ry.le; refine wp_sc (wp_sq ?_); refine sq_x rfl (x_box rfl rfl) rfl ?_; rintro _ _ ⟨b4, rfl, rfl⟩; refine sq_x rfl (x_box rfl rfl) rfl ?_; rintro _ _ ⟨b5, rfl, rfl⟩; refine sq_end (qs_n (wp_sc (wp_sq (sq_v rfl (v_loadNB 1 ty_32 rfl rfl rfl rfl) rfl (sq_u rfl (x_callv rfl en_79 (fun w s => ct_s_l02Width _ _ _ w)) rfl (sq_v rfl (v_assign rfl) rfl (sq_end (qs_n (wp_sc (wp_sq (sq_v rfl (v_move rfl) rfl (sq_v rfl (v_len Try.underlying25 rfl ry.sl) rfl (sq_v rfl (v_move rfl) rfl (sq_end (qs_n (wp_bl ?_)))))))))))))))); refine wp_lp (σ := Nat × PH) (fun z_ => [(2, num i), (3, v), (5, .pointer (some ⟨b5, 0, none⟩)), (8, num (widthI k n)), (13, num ys.length), (14, num z_.1)]) (fun z_ => [box b5 [a, b, c] 48, box b4 [num k, num p, num n] 32, z_.2, (restP w h)]) (fun z_ => z_.1 ≤ ys.length ∧ IntsO (putL xs (i * widthI k n).toNat (mixL ys E z_.1)) c z_.2) (fun z_ => ys.length - z_.1) (0, h) (⟨by (try dsimp only); omega, by (try dsimp only); rw [mix_zero, hps]; exact rx⟩) ⟨rfl, rfl, rfl, rfl, rfl, (by first | rfl | exact ksub rfl (by first | omega | (simp; done) | (simp; omega))), trivial⟩ (fun _ s => s) ?_; rintro ⟨j, g⟩ ⟨hj, q⟩; dsimp only at hj q ⊢; have hle_q := q.toR.le; have hml := mix_len (A := ys) (B := E) (k := j) (by omega) (by omega); have hpl := putL_len (xs := xs) (ys := mixL ys E j) (lo := (i * widthI k n).toNat) (by omega); refine wp_sc (wp_sq (sq_v rfl (v_lss rfl rfl) rfl (sq_end (qs_n (wp_sc ?_))))); refine wp_cd rfl (fun c15 => ?_) (fun c15 => ?_)
  · refine wp_sk (qs_n (wp_sc (wp_bl (wp_sc (wp_sq (sq_v rfl (v_move rfl) rfl (sq_v rfl (v_assign rfl) rfl (sq_end (qs_n (wp_rj 12 [(0, true), (1, true), (2, true), (3, true), (4, true), (5, true), (6, true), (7, true), (8, true), (9, true), (10, true), (11, true), (12, false)] mixed_ok (by kernel_rfl) (rj_v rfl rfl (v_fieldAddr fd_48_2 ty_25 (by decide) rfl) rfl (rj_v rfl rfl (v_loadB 0 ty_25 rfl rfl rfl) rfl (rj_v rfl rfl (v_move rfl) rfl (rj_v rfl rfl (v_move rfl) rfl ?_)))))))))))))); refine rj_v rfl rfl (v_mul rfl rfl ((by unfold I64; omega))) rfl ?_; refine rj_v rfl rfl (v_move rfl) rfl ?_; refine rj_v rfl rfl (v_add rfl rfl ((by unfold I64; omega))) rfl ?_; refine rj_v rfl rfl (v_move rfl) rfl (rj_v rfl rfl (v_move rfl) rfl ?_); refine rj_v rfl rfl (v_idxI Try.underlying25 ty_3 rfl rfl ry (by first | omega | (simp; omega) | (simp only [List.length_append, List.length_cons, List.length_nil]; omega) | (rw [List.length_set]; omega)) (by first | omega | (simp; omega) | (simp only [List.length_append, List.length_cons, List.length_nil]; omega) | (rw [List.length_set]; omega))) rfl ?_; refine rj_v rfl rfl (v_loadI (k := j) 3 ty_3 rfl rfl ry (by first | omega | (simp; omega) | (simp only [List.length_append, List.length_cons, List.length_nil]; omega) | (rw [List.length_set]; omega))) rfl ?_; refine rj_v rfl rfl (v_idxI Try.underlying25 ty_3 rfl rfl q.toR (by first | omega | (simp; omega) | (simp only [List.length_append, List.length_cons, List.length_nil]; omega) | (rw [List.length_set]; omega)) (by first | omega | (simp; omega) | (simp only [List.length_append, List.length_cons, List.length_nil]; omega) | (rw [List.length_set]; omega))) rfl ?_; refine rj_m 2 rfl rfl rfl rfl (m_storeI 2 ty_3 rfl rfl rfl q (by first | omega | (simp; omega) | (simp only [List.length_append, List.length_cons, List.length_nil]; omega) | (rw [List.length_set]; omega))) rfl ?_; rintro _ h_q5_12 ⟨rfl, q5_12⟩; refine rj_end (qs_bn (qs_n (wp_sq ?_))); refine sq_v rfl (v_add rfl rfl ((by unfold I64; omega))) rfl ?_; refine sq_v rfl (v_move rfl) rfl (sq_end ?_); exact qs_bk (j + 1, h_q5_12) ⟨by (try dsimp only); omega, by (try dsimp only); rw [show (i * widthI k n + (j : Int)).toNat = (i * widthI k n).toNat + j by omega, putL_set (by omega) (by omega), mix_set (by omega) (by omega)] at q5_12; exact q5_12⟩ (by simp only; omega) ⟨rfl, rfl, rfl, rfl, rfl, (by first | rfl | exact ksub rfl (by first | omega | (simp; done) | (simp; omega))), trivial⟩ (fun _ s => s)
  · refine wp_ex (qs_x (qs_x (qs_bx ?_))); exact qs_ret0 rfl (fin_m 2 (i := 3) rfl rfl rfl (by rw [mix_end (by omega) (by omega)] at q; exact q))
end Go.Proofs.Ytdkgaejmgnojhaa
namespace Go.Proofs.Ytdkgaejmgnojhaa
set_option maxRecDepth 100000
open Go.RowKit
theorem at_off {f : Int → Int} {L ls : List Int} (hn : L.Nodup) (hl : ls.Nodup) (hs : ∀ l ∈ ls, l ∈ L) (m : Int) : atI f L ls m = offL (ls.map f) (idxAt L (idxL (L.map f) m) ls) := by
  unfold atI dotL; rw [stepsL_len]; exact dot_off hn (by simp) hl hs
structure ValOK (k p n : Int) (ts : List Ten) (op : List Int) : Prop where
  net : netL k p n ts op
  work : prodI (dimsFor ts (labelsL ts)) ≤ 65536
theorem ValOK.nd {k p n : Int} {ts : List Ten} {op : List Int} (_ : ValOK k p n ts op) : (labelsL ts).Nodup := labels_nodup ts 100
section
variable {k p n : Int} {ts : List Ten} {op : List Int} (h : ValOK k p n ts op)
include h
theorem ValOK.f : ∀ x ∈ labelsL ts, 1 ≤ dimOf ts x ∧ dimOf ts x ≤ 8 := fun x hx => by
  have h1 := mem_labels.1 hx; have h2 := dimOf_range (net_ax h.net) x
  omega
theorem ValOK.opn : op.Nodup := axes_nodup (sizeI_ge.1 h.net.2.2.2.2).1
theorem ValOK.sub : ∀ l ∈ op, l ∈ labelsL ts := fun l hl => by
  obtain ⟨j, hj, rfl⟩ := getD_of_mem hl; have := open_at h.net.2.2.2.2 hj; exact mem_labels.2 ⟨by omega, by omega⟩
theorem ValOK.at_k (m : Int) : 0 ≤ atI (dimOf ts) (labelsL ts) op m ∧ atI (dimOf ts) (labelsL ts) op m < prodI (dimsFor ts op) := at_in h.nd h.opn h.sub h.f m
theorem ValOK.dims : ∀ d ∈ dimsFor ts (labelsL ts), 1 ≤ d ∧ d ≤ 8 := map_dim h.f fun _ h => h
theorem ValOK.odims : ∀ d ∈ dimsFor ts op, 1 ≤ d ∧ d ≤ 8 := map_dim h.f h.sub
theorem ValOK.idx (m : Int) : AtOK k p n ts (labelsL ts) (idxL (dimsFor ts (labelsL ts)) m) := by
  have hi := idxL_in (fun d hd => (h.dims d hd).1) m; exact assign_at (op := op) ⟨h.net, hi.1, fun j hj => hi.2 j (by rw [← hi.1]; exact hj)⟩
end
noncomputable def valX (k p n : Int) (ts : List Ten) (op : List Int) : Nat → List Int
  | 0 => (List.replicate (prodI (dimsFor ts op)).toNat (zeroL k p n)).flatten
  | m + 1 => putL (valX k p n ts op m) (atI (dimOf ts) (labelsL ts) op m * widthI k n).toNat
      (addL k p (elt (valX k p n ts op m) (widthI k n) (atI (dimOf ts) (labelsL ts) op m)) (weightTo k p n (labelsL ts) (idxL (dimsFor ts (labelsL ts)) m) ts))
section
variable {k p n : Int} {ts : List Ten} {op : List Int} (h : ValOK k p n ts op)
include h
theorem ValOK.weight (m : Int) : InR k p n (weightTo k p n (labelsL ts) (idxL (dimsFor ts (labelsL ts)) m) ts) := by
  have := weight_in (h.idx m) ts.length (Nat.le_refl _)
  rwa [List.take_length] at this
theorem ValOK.all : ∀ m : Nat, AllR k p n (prodI (dimsFor ts op)) (valX k p n ts op m)
  | 0 => AllR.zero h.net.1 (by have := prodI_one fun d hd => (h.odims d hd).1; omega)
  | m + 1 => (ValOK.all m).put h.net.1 (h.at_k m).1 (h.at_k m).2 (addL_in h.net.1 ((ValOK.all m).el h.net.1 (h.at_k m).1 (h.at_k m).2) (h.weight m))
theorem ValOK.small (m : Nat) : (valX k p n ts op m).length ≤ 24576 := by
  have hw := width_range h.net.1; have := (h.all m).1; have h3 : prodI (dimsFor ts op) * widthI k n ≤ 4096 * 6 := Int.mul_le_mul (sizeI_ge.1 h.net.2.2.2.2).2 hw.2 (by omega) (by omega)
  omega
theorem ValOK.fits (m : Nat) : atI (dimOf ts) (labelsL ts) op m * widthI k n + widthI k n ≤ (valX k p n ts op m).length := by
  have hw := width_range h.net.1; have := (h.all m).1; have := (mul_room (show 0 ≤ widthI k n by omega) (h.at_k m).1 (h.at_k m).2).2
  omega
end
end Go.Proofs.Ytdkgaejmgnojhaa
