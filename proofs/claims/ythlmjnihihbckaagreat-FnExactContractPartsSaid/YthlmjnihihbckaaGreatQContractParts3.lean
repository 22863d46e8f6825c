/-
  Parts of the proof of FnExactContractParts: laws of heaps, contracts of functions.
  Conditions: none.
-/
import Derived.Test.YthlmjnihihbckaaGreatQContractParts2
namespace Go.Proofs.YthlmjnihihbckaaGreat
set_option maxRecDepth 100000
open Go.RowKit

theorem szV_add {l a b : Int} (h : ¬ szV l a < 0) : szV (szV l a) b = szV l (a + b) := by
  rw [(szV_ge h).1]
  unfold szV
  by_cases h1 : l - a - b < 0
  · rw [if_pos h1, if_pos (by omega)]
  · rw [if_neg h1, if_neg (by omega)]; omega
theorem szV_neg {l a b : Int} (h : szV l a < 0) (hb : 0 ≤ b) : szV l (a + b) = -1 := by
  have := szV_lt h
  unfold szV
  rw [if_pos (by omega)]
def tenSize (t : Ten) : Int := t.l.length + t.d.length + t.x.length
theorem tenSize_nn (t : Ten) : 0 ≤ tenSize t := by unfold tenSize; omega
def tensSize : List Ten → Int
  | [] => 0
  | t :: r => tenSize t + tensSize r
theorem tensSize_nn : ∀ ts, 0 ≤ tensSize ts
  | [] => by simp [tensSize]
  | t :: r => by have := tenSize_nn t; have := tensSize_nn r; simp only [tensSize]; omega
theorem tensSize_append : ∀ a b, tensSize (a ++ b) = tensSize a + tensSize b
  | [], b => by simp [tensSize]
  | t :: r, b => by simp only [List.cons_append, tensSize, tensSize_append r b]; omega
theorem tensSize_take (ts : List Ten) (i : Nat) : tensSize ts = tensSize (ts.take i) + tensSize (ts.drop i) := by
  rw [← tensSize_append, List.take_append_drop]
theorem take_ten {ts : List Ten} {i : Nat} {t : Ten} (h : ts[i]? = some t) : ts.take (i + 1) = ts.take i ++ [t] := by
  obtain ⟨hi, e⟩ := List.getElem?_eq_some_iff.1 h; rw [List.take_succ_eq_append_getElem hi, e]
theorem tensSize_step {ts : List Ten} {i : Nat} {t : Ten} (h : ts[i]? = some t) : tensSize (ts.take (i + 1)) = tensSize (ts.take i) + tenSize t := by
  rw [take_ten h, tensSize_append]
  simp [tensSize]
theorem ct_l_szTensor (t : Ten) (a b c : Value) (left : Int) (w : World) (r1 : IntsR t.l a (hp w)) (r2 : IntsR t.d b (hp w)) (r3 : IntsR t.x c (hp w)) (hl : 0 ≤ left ∧ left ≤ 1048576) :
    Calls Tryz.prog 150 [tenV a b c, num left].toArray w (RetV w (num (szV left (tenSize t)))) := by
  refine calls_in Tryz.func150 rfl Tryz.ntmps150 rfl (Sat.start w) (wp_sc (wp_sq ?_)); refine sq_x rfl (x_box rfl rfl) rfl ?_; rintro _ _ ⟨b2, rfl, rfl⟩; refine sq_v rfl (v_assign rfl) rfl (sq_end (qs_n (wp_sc (wp_sq (sq_v rfl (v_fieldAddr fd_154_0 ty_25 (by decide) rfl) rfl (sq_v rfl (v_loadB 0 ty_25 rfl rfl rfl) rfl (sq_v rfl (v_move rfl) rfl (sq_u rfl (x_callv rfl en_62 (fun w s => ct_l_szIntS _ _ _ w (r1.mono (s.get 1 rfl)) hl)) rfl (sq_v rfl (v_assign rfl) rfl (sq_end (qs_n (wp_sc (wp_sc (wp_sq (sq_v rfl (v_move rfl) rfl (sq_v rfl (v_lss rfl rfl) rfl (sq_end (qs_n ?_)))))))))))))))))); refine wp_cd rfl (fun c10 => ?_) (fun c10 => ?_)
  · refine wp_sc (wp_sq (sq_v rfl (v_assign rfl) rfl (sq_end (qs_n (wp_rt (qs_r ?_)))))); exact qs_ret1 rfl rfl (fin_q (i := 1) rfl (by rw [tenSize, Int.add_assoc, szV_neg c10 (by omega)]))
  · refine wp_sk (qs_n (wp_sc (wp_sq (sq_v rfl (v_fieldAddr fd_154_1 ty_25 (by decide) rfl) rfl (sq_v rfl (v_loadB 0 ty_25 rfl rfl rfl) rfl (sq_v rfl (v_move rfl) rfl ?_)))))); have h1 := szV_ge c10; refine sq_u rfl (x_callv rfl en_62 (fun w s => ct_l_szIntS _ _ _ w (r2.mono (s.get 1 rfl)) (by omega))) rfl (sq_v rfl (v_assign rfl) rfl (sq_end (qs_n (wp_sc (wp_sc (wp_sq (sq_v rfl (v_move rfl) rfl (sq_v rfl (v_lss rfl rfl) rfl (sq_end (qs_n ?_)))))))))); refine wp_cd rfl (fun c16 => ?_) (fun c16 => ?_)
    · refine wp_sc (wp_sq (sq_v rfl (v_assign rfl) rfl (sq_end (qs_n (wp_rt (qs_r ?_)))))); exact qs_ret1 rfl rfl (fin_q (i := 1) rfl (by rw [szV_add c10] at c16; rw [tenSize, szV_neg c16 (by omega)]))
    · refine wp_sk (qs_n (wp_sc (wp_sq (sq_v rfl (v_fieldAddr fd_154_2 ty_25 (by decide) rfl) rfl (sq_v rfl (v_loadB 0 ty_25 rfl rfl rfl) rfl (sq_v rfl (v_move rfl) rfl ?_)))))); have h2 := szV_ge c16; refine sq_u rfl (x_callv rfl en_62 (fun w s => ct_l_szIntS _ _ _ w (r3.mono (s.get 1 rfl)) (by omega))) rfl (sq_v rfl (v_assign rfl) rfl (sq_end (qs_n (wp_sc (wp_sc (wp_sq (sq_v rfl (v_move rfl) rfl (sq_v rfl (v_lss rfl rfl) rfl (sq_end (qs_n ?_)))))))))); refine wp_cd rfl (fun c22 => ?_) (fun c22 => ?_)
      · refine wp_sc (wp_sq (sq_v rfl (v_assign rfl) rfl (sq_end (qs_n (wp_rt (qs_r ?_)))))); exact qs_ret1 rfl rfl (fin_q (i := 1) rfl (by rw [szV_add c16, szV_add c10] at c22; rw [tenSize, Int.add_assoc]; have := szV_lt c22; rw [szV, if_pos this]))
      · refine wp_sk (qs_n (wp_sc (wp_sq (sq_v rfl (v_move rfl) rfl (sq_v rfl (v_assign rfl) rfl (sq_end (qs_n (wp_rt ?_)))))))); exact qs_ret1 rfl rfl (fin_q (i := 1) rfl (by rw [szV_add c16, szV_add c10, tenSize, Int.add_assoc]))
theorem ct_l_szTensorS (ts : List Ten) (v : Value) (left : Int) (w : World) (r : TensR ts v (hp w)) (hl : 0 ≤ left ∧ left ≤ 1048576) :
    Calls Tryz.prog 61 [v, num left].toArray w (RetV w (num (szV left (ts.length + tensSize ts)))) := by
  have hx := r.le; obtain ⟨cells, rr, hc⟩ := r.at; refine calls_in Tryz.func61 rfl Tryz.ntmps61 rfl (Sat.start w) (wp_sc (wp_sq (sq_v rfl (v_assign rfl) rfl (sq_end (qs_n (wp_sc (wp_sq (sq_v rfl (v_move rfl) rfl (sq_v rfl (v_move rfl) rfl (sq_v rfl (v_len Tryz.underlying24 rfl r.sl) rfl ?_)))))))))); refine sq_v rfl (v_sub rfl rfl ((by unfold I64; omega))) rfl ?_; refine sq_v rfl (v_assign rfl) rfl (sq_end (qs_n (wp_sc (wp_sc (wp_sq (sq_v rfl (v_move rfl) rfl (sq_v rfl (v_lss rfl rfl) rfl (sq_end (qs_n ?_))))))))); refine wp_cd rfl (fun c11 => ?_) (fun c11 => ?_)
  · refine wp_sc (wp_sq (sq_v rfl (v_assign rfl) rfl (sq_end (qs_n (wp_rt (qs_r ?_)))))); exact qs_ret1 rfl rfl (fin_q (i := 0) rfl (by have := tensSize_nn ts; rw [szV, if_pos (by omega)]))
  · refine wp_sk (qs_n (wp_sc (wp_sc (wp_sq (sq_v rfl (v_assign rfl) rfl (sq_end (qs_n (wp_bl ?_)))))))); refine wp_lp (fun s : Nat × Int => [(0, v), (1, num s.2), (5, num s.1)]) (fun _ => [hp w]) (fun s => s.1 ≤ ts.length ∧ s.2 = left - ts.length - tensSize (ts.take s.1) ∧ 0 ≤ s.2) (fun s => ts.length - s.1) (0, left - ts.length) ⟨by omega, by simp [tensSize], by simp only; omega⟩ ⟨rfl, rfl, rfl, trivial⟩ (fun _ s => s) ?_; rintro ⟨i, q⟩ ⟨hi, hq, hq0⟩; dsimp only at hi hq hq0 ⊢; refine wp_sc (wp_sc (wp_sq (sq_v rfl (v_move rfl) rfl (sq_v rfl (v_move rfl) rfl (sq_v rfl (v_len Tryz.underlying24 rfl r.sl) rfl (sq_v rfl (v_lss rfl rfl) rfl (sq_end (qs_n ?_)))))))); refine wp_cd rfl (fun c15 => ?_) (fun c15 => ?_)
    · refine wp_sk (qs_n (wp_sc (wp_bl (wp_sc (wp_sq (sq_v rfl (v_move rfl) rfl (sq_v rfl (v_move rfl) rfl ?_))))))); obtain ⟨t, a, b, c, ht, hcs, r1, r2, r3⟩ := hc i (by omega); have hst := tensSize_step ht; have hnn := tensSize_nn (ts.take i); have htk := tensSize_take ts (i + 1); have hnd := tensSize_nn (ts.drop (i + 1)); have htn := tenSize_nn t; refine sq_v rfl (v_indexAddr Tryz.underlying24 ty_154 rfl rfl rr (by decide) (by omega) (by omega)) rfl ?_; refine sq_v rfl (v_loadNE 0 ty_154 rfl rfl rr (by have := rr.1; omega) rfl hcs) rfl ?_; refine sq_v rfl (v_move rfl) rfl (sq_u rfl (x_callv rfl en_150 (fun w s => ct_l_szTensor t _ _ _ _ w (r1.mono (s.get 0 rfl)) (r2.mono (s.get 0 rfl)) (r3.mono (s.get 0 rfl)) (by omega))) rfl (sq_v rfl (v_assign rfl) rfl (sq_end (qs_n (wp_sc (wp_sq (sq_v rfl (v_move rfl) rfl (sq_v rfl (v_lss rfl rfl) rfl (sq_end (qs_n ?_)))))))))); refine wp_cd rfl (fun c25 => ?_) (fun c25 => ?_)
      · refine wp_sc (wp_sq (sq_v rfl (v_assign rfl) rfl (sq_end (qs_n (wp_rt (qs_br (qs_r (qs_r (qs_br (qs_r ?_)))))))))); exact qs_ret1 rfl rfl (fin_q (i := 0) rfl (by have := szV_lt c25; rw [szV, if_pos (by omega)]))
      · refine wp_sk (qs_bn (qs_n (wp_sq (sq_v rfl (v_move rfl) rfl ?_)))); refine sq_v rfl (v_add rfl rfl ((by unfold I64; omega))) rfl ?_; refine sq_v rfl (v_assign rfl) rfl (sq_end ?_); have hge := szV_ge c25; exact qs_bk (i + 1, szV q (tenSize t)) ⟨by simp only; omega, by simp only; omega, by simp only; omega⟩ (by simp only; omega) ⟨rfl, rfl, rfl, trivial⟩ (fun _ s => s)
    · refine wp_ex (qs_x (qs_x (qs_bx (qs_n (wp_sc (wp_sq (sq_v rfl (v_move rfl) rfl (sq_v rfl (v_assign rfl) rfl (sq_end (qs_n (wp_rt ?_))))))))))); exact qs_ret1 rfl rfl (fin_q (i := 0) rfl (by rw [List.take_of_length_le (by omega)] at hq; rw [szV, if_neg (by omega)]; congr 1; omega))
theorem ct_l_szNetwork (k p n : Int) (ts : List Ten) (op : List Int) (vt vo : Value) (left : Int) (w : World) (r : TensR ts vt (hp w)) (r' : IntsR op vo (hp w)) (hl : 0 ≤ left ∧ left ≤ 1048576) :
    Calls Tryz.prog 10 [netV k p n vt vo, num left].toArray w (RetV w (num (szV left (ts.length + tensSize ts + op.length)))) := by
  refine calls_in Tryz.func10 rfl Tryz.ntmps10 rfl (Sat.start w) (wp_sc (wp_sq ?_)); refine sq_x rfl (x_box rfl rfl) rfl ?_; rintro _ _ ⟨b2, rfl, rfl⟩; refine sq_v rfl (v_assign rfl) rfl (sq_end (qs_n (wp_sc (wp_sq (sq_v rfl (v_fieldAddr fd_27_1 ty_24 (by decide) rfl) rfl (sq_v rfl (v_loadB 0 ty_24 rfl rfl rfl) rfl (sq_v rfl (v_move rfl) rfl (sq_u rfl (x_callv rfl en_61 (fun w s => ct_l_szTensorS _ _ _ w (r.mono (s.get 1 rfl)) hl)) rfl (sq_v rfl (v_assign rfl) rfl (sq_end (qs_n (wp_sc (wp_sc (wp_sq (sq_v rfl (v_move rfl) rfl (sq_v rfl (v_lss rfl rfl) rfl (sq_end (qs_n ?_)))))))))))))))))); refine wp_cd rfl (fun c10 => ?_) (fun c10 => ?_)
  · refine wp_sc (wp_sq (sq_v rfl (v_assign rfl) rfl (sq_end (qs_n (wp_rt (qs_r ?_)))))); exact qs_ret1 rfl rfl (fin_q (i := 1) rfl (by rw [szV_neg c10 (by omega)]))
  · refine wp_sk (qs_n (wp_sc (wp_sq (sq_v rfl (v_fieldAddr fd_27_2 ty_25 (by decide) rfl) rfl (sq_v rfl (v_loadB 0 ty_25 rfl rfl rfl) rfl (sq_v rfl (v_move rfl) rfl ?_)))))); have h1 := szV_ge c10; have hnn := tensSize_nn ts; refine sq_u rfl (x_callv rfl en_62 (fun w s => ct_l_szIntS _ _ _ w (r'.mono (s.get 1 rfl)) (by omega))) rfl (sq_v rfl (v_assign rfl) rfl (sq_end (qs_n (wp_sc (wp_sc (wp_sq (sq_v rfl (v_move rfl) rfl (sq_v rfl (v_lss rfl rfl) rfl (sq_end (qs_n ?_)))))))))); refine wp_cd rfl (fun c16 => ?_) (fun c16 => ?_)
    · refine wp_sc (wp_sq (sq_v rfl (v_assign rfl) rfl (sq_end (qs_n (wp_rt (qs_r ?_)))))); exact qs_ret1 rfl rfl (fin_q (i := 1) rfl (by rw [szV_add c10] at c16; have := szV_lt c16; rw [szV, if_pos this]))
    · refine wp_sk (qs_n (wp_sc (wp_sq (sq_v rfl (v_move rfl) rfl (sq_v rfl (v_assign rfl) rfl (sq_end (qs_n (wp_rt ?_)))))))); exact qs_ret1 rfl rfl (fin_q (i := 1) rfl (by rw [szV_add c10]))
theorem ct_l_eqRing (k p n : Int) (w : World) : Calls Tryz.prog 76 [ringV k p n, ringV k p n].toArray w (RetV w (.bool true)) := by
  refine calls_in Tryz.func76 rfl Tryz.ntmps76 rfl (Sat.start w) (wp_sc (wp_sq ?_)); refine sq_x rfl (x_box rfl rfl) rfl ?_; rintro _ _ ⟨b2, rfl, rfl⟩; refine sq_x rfl (x_box rfl rfl) rfl ?_; rintro _ _ ⟨b3, rfl, rfl⟩; refine sq_v rfl (v_assign rfl) rfl (sq_end (qs_n (wp_sc (wp_sc (wp_sq (sq_v rfl (v_fieldAddr fd_37_0 ty_3 (by decide) rfl) rfl (sq_v rfl (v_loadB 1 ty_3 rfl rfl rfl) rfl (sq_v rfl (v_fieldAddr fd_37_0 ty_3 (by decide) rfl) rfl (sq_v rfl (v_loadB 0 ty_3 rfl rfl rfl) rfl (sq_v rfl (v_neq rfl rfl) rfl (sq_end (qs_n ?_)))))))))))); refine wp_cd rfl (fun c9 => ?_) (fun c9 => ?_)
  · refine wp_sc (wp_sq (sq_v rfl (v_assign rfl) rfl (sq_end (qs_n (wp_rt (qs_r ?_)))))); exact absurd rfl c9
  · refine wp_sk (qs_n (wp_sc (wp_sc (wp_sq (sq_v rfl (v_fieldAddr fd_37_1 ty_3 (by decide) rfl) rfl (sq_v rfl (v_loadB 1 ty_3 rfl rfl rfl) rfl (sq_v rfl (v_fieldAddr fd_37_1 ty_3 (by decide) rfl) rfl (sq_v rfl (v_loadB 0 ty_3 rfl rfl rfl) rfl (sq_v rfl (v_neq rfl rfl) rfl (sq_end (qs_n ?_))))))))))); refine wp_cd rfl (fun c14 => ?_) (fun c14 => ?_)
    · refine wp_sc (wp_sq (sq_v rfl (v_assign rfl) rfl (sq_end (qs_n (wp_rt (qs_r ?_)))))); exact absurd rfl c14
    · refine wp_sk (qs_n (wp_sc (wp_sc (wp_sq (sq_v rfl (v_fieldAddr fd_37_2 ty_3 (by decide) rfl) rfl (sq_v rfl (v_loadB 1 ty_3 rfl rfl rfl) rfl (sq_v rfl (v_fieldAddr fd_37_2 ty_3 (by decide) rfl) rfl (sq_v rfl (v_loadB 0 ty_3 rfl rfl rfl) rfl (sq_v rfl (v_neq rfl rfl) rfl (sq_end (qs_n ?_))))))))))); refine wp_cd rfl (fun c19 => ?_) (fun c19 => ?_)
      · refine wp_sc (wp_sq (sq_v rfl (v_assign rfl) rfl (sq_end (qs_n (wp_rt (qs_r ?_)))))); exact absurd rfl c19
      · refine wp_sk (qs_n (wp_sc (wp_sq (sq_v rfl (v_assign rfl) rfl (sq_end (qs_n (wp_rt ?_))))))); exact qs_ret1 rfl rfl (fin_q (i := 2) rfl rfl)
theorem ct_l_eqTensor (t : Ten) (a b c a' b' c' : Value) (w : World) (r1 : IntsR t.l a (hp w)) (r2 : IntsR t.d b (hp w)) (r3 : IntsR t.x c (hp w)) (r1' : IntsR t.l a' (hp w)) (r2' : IntsR t.d b' (hp w)) (r3' : IntsR t.x c' (hp w)) :
    Calls Tryz.prog 16 [tenV a b c, tenV a' b' c'].toArray w (RetV w (.bool true)) := by
  refine calls_in Tryz.func16 rfl Tryz.ntmps16 rfl (Sat.start w) (wp_sc (wp_sq ?_)); refine sq_x rfl (x_box rfl rfl) rfl ?_; rintro _ _ ⟨b2, rfl, rfl⟩; refine sq_x rfl (x_box rfl rfl) rfl ?_; rintro _ _ ⟨b3, rfl, rfl⟩; refine sq_v rfl (v_assign rfl) rfl (sq_end (qs_n (wp_sc (wp_sc (wp_sq (sq_v rfl (v_fieldAddr fd_34_0 ty_25 (by decide) rfl) rfl (sq_v rfl (v_loadB 1 ty_25 rfl rfl rfl) rfl (sq_v rfl (v_fieldAddr fd_34_0 ty_25 (by decide) rfl) rfl (sq_v rfl (v_loadB 0 ty_25 rfl rfl rfl) rfl (sq_u rfl (x_callv rfl en_75 (fun w s => ct_l_eqIntS _ _ _ _ w (r1.mono (s.get 2 rfl)) (r1'.mono (s.get 2 rfl)) rfl)) rfl (sq_v rfl (v_not rfl) rfl (sq_end (qs_n ?_))))))))))))); refine wp_cn _ rfl (fun c10 => ?_) (fun c10 => ?_)
  · refine wp_sc (wp_sq (sq_v rfl (v_assign rfl) rfl (sq_end (qs_n (wp_rt (qs_r ?_))))))
    cases c10
  · refine wp_sk (qs_n (wp_sc (wp_sc (wp_sq (sq_v rfl (v_fieldAddr fd_34_1 ty_25 (by decide) rfl) rfl (sq_v rfl (v_loadB 1 ty_25 rfl rfl rfl) rfl (sq_v rfl (v_fieldAddr fd_34_1 ty_25 (by decide) rfl) rfl (sq_v rfl (v_loadB 0 ty_25 rfl rfl rfl) rfl (sq_u rfl (x_callv rfl en_75 (fun w s => ct_l_eqIntS _ _ _ _ w (r2.mono (s.get 2 rfl)) (r2'.mono (s.get 2 rfl)) rfl)) rfl (sq_v rfl (v_not rfl) rfl (sq_end (qs_n ?_)))))))))))); refine wp_cn _ rfl (fun c16 => ?_) (fun c16 => ?_)
    · refine wp_sc (wp_sq (sq_v rfl (v_assign rfl) rfl (sq_end (qs_n (wp_rt (qs_r ?_))))))
      cases c16
    · refine wp_sk (qs_n (wp_sc (wp_sc (wp_sq (sq_v rfl (v_fieldAddr fd_34_2 ty_25 (by decide) rfl) rfl (sq_v rfl (v_loadB 1 ty_25 rfl rfl rfl) rfl (sq_v rfl (v_fieldAddr fd_34_2 ty_25 (by decide) rfl) rfl (sq_v rfl (v_loadB 0 ty_25 rfl rfl rfl) rfl (sq_u rfl (x_callv rfl en_75 (fun w s => ct_l_eqIntS _ _ _ _ w (r3.mono (s.get 2 rfl)) (r3'.mono (s.get 2 rfl)) rfl)) rfl (sq_v rfl (v_not rfl) rfl (sq_end (qs_n ?_)))))))))))); refine wp_cn _ rfl (fun c22 => ?_) (fun c22 => ?_)
      · refine wp_sc (wp_sq (sq_v rfl (v_assign rfl) rfl (sq_end (qs_n (wp_rt (qs_r ?_))))))
        cases c22
      · refine wp_sk (qs_n (wp_sc (wp_sq (sq_v rfl (v_assign rfl) rfl (sq_end (qs_n (wp_rt ?_))))))); exact qs_ret1 rfl rfl (fin_q (i := 2) rfl rfl)
theorem ct_l_eqTensorS (ts : List Ten) (v u : Value) (w : World) (r : TensR ts v (hp w)) (r' : TensR ts u (hp w)) : Calls Tryz.prog 77 [v, u].toArray w (RetV w (.bool true)) := by
  have hx := r.le; obtain ⟨cells, rr, hc⟩ := r.at; obtain ⟨cells', rr', hc'⟩ := r'.at; refine calls_in Tryz.func77 rfl Tryz.ntmps77 rfl (Sat.start w) (wp_sc (wp_sq (sq_v rfl (v_assign rfl) rfl (sq_end (qs_n (wp_sc (wp_sc (wp_sq (sq_v rfl (v_move rfl) rfl (sq_v rfl (v_len Tryz.underlying38 rfl r.sl) rfl (sq_v rfl (v_move rfl) rfl (sq_v rfl (v_len Tryz.underlying38 rfl r'.sl) rfl (sq_v rfl (v_neq rfl rfl) rfl (sq_end (qs_n ?_))))))))))))))); refine wp_cd rfl (fun c10 => ?_) (fun c10 => ?_)
  · refine wp_sc (wp_sq (sq_v rfl (v_assign rfl) rfl (sq_end (qs_n (wp_rt (qs_r ?_)))))); exact absurd rfl c10
  · refine wp_sk (qs_n (wp_sc (wp_sc (wp_sq (sq_v rfl (v_assign rfl) rfl (sq_end (qs_n (wp_bl (wp_lp (fun i : Nat => [(0, v), (1, u), (5, num i)]) (fun _ => [hp w]) (fun i => i ≤ ts.length) (fun i => ts.length - i) 0 (by omega) ⟨rfl, rfl, rfl, trivial⟩ (fun _ s => s) ?_))))))))); intro i hi; refine wp_sc (wp_sc (wp_sq (sq_v rfl (v_move rfl) rfl (sq_v rfl (v_move rfl) rfl (sq_v rfl (v_len Tryz.underlying38 rfl r.sl) rfl (sq_v rfl (v_lss rfl rfl) rfl (sq_end (qs_n ?_)))))))); refine wp_cd rfl (fun c14 => ?_) (fun c14 => ?_)
    · refine wp_sk (qs_n (wp_sc (wp_bl (wp_sc (wp_rj 10 [(0, true), (1, true), (2, true), (3, true), (4, true), (5, true), (6, true), (7, true), (8, false), (9, true)] mixed_ok (by kernel_rfl) (rj_v rfl rfl (v_move rfl) rfl (rj_v rfl rfl (v_move rfl) rfl ?_))))))); obtain ⟨t, a, b, c, ht, hcs, r1, r2, r3⟩ := hc i (by omega); obtain ⟨t', a', b', c', ht', hcs', r1', r2', r3'⟩ := hc' i (by omega); obtain rfl : t = t' := (by rw [ht] at ht'; exact Option.some.inj ht')
      refine rj_v rfl rfl (v_indexAddr Tryz.underlying38 ty_34 rfl rfl rr (by decide) (by omega) (by omega)) rfl ?_; refine rj_v rfl rfl (v_loadNE 0 ty_34 rfl rfl rr (by have := rr.1; omega) rfl hcs) rfl ?_; refine rj_v rfl rfl (v_move rfl) rfl (rj_v rfl rfl (v_move rfl) rfl (rj_v rfl rfl (v_indexAddr Tryz.underlying38 ty_34 rfl rfl rr' (by decide) (by omega) (by omega)) rfl ?_)); refine rj_v rfl rfl (v_loadNE 0 ty_34 rfl rfl rr' (by have := rr'.1; omega) rfl hcs') rfl ?_; refine rj_u rfl rfl (x_callv rfl en_16 (fun w s => ct_l_eqTensor _ _ _ _ _ _ _ w (r1.mono (s.get 0 rfl)) (r2.mono (s.get 0 rfl)) (r3.mono (s.get 0 rfl)) (r1'.mono (s.get 0 rfl)) (r2'.mono (s.get 0 rfl)) (r3'.mono (s.get 0 rfl)))) rfl (rj_v rfl rfl (v_not rfl) rfl (rj_end (qs_n ?_))); refine wp_cn _ rfl (fun c26 => ?_) (fun c26 => ?_)
      · refine wp_sc (wp_sq (sq_v rfl (v_assign rfl) rfl (sq_end (qs_n (wp_rt (qs_br (qs_r (qs_r (qs_br (qs_r ?_))))))))))
        cases c26
      · refine wp_sk (qs_bn (qs_n (wp_sq (sq_v rfl (v_move rfl) rfl ?_)))); refine sq_v rfl (v_add rfl rfl ((by unfold I64; omega))) rfl ?_; refine sq_v rfl (v_assign rfl) rfl (sq_end ?_); exact qs_bk (i + 1) (by omega) (by omega) ⟨rfl, rfl, rfl, trivial⟩ (fun _ s => s)
    · refine wp_ex (qs_x (qs_x (qs_bx (qs_n (wp_sc (wp_sq (sq_v rfl (v_assign rfl) rfl (sq_end (qs_n (wp_rt ?_)))))))))); exact qs_ret1 rfl rfl (fin_q (i := 0) rfl rfl)
theorem ct_l_eqNetwork (k p n : Int) (ts : List Ten) (op : List Int) (vt vo ut uo : Value) (w : World) (r : TensR ts vt (hp w)) (ro : IntsR op vo (hp w)) (r' : TensR ts ut (hp w)) (ro' : IntsR op uo (hp w)) :
    Calls Tryz.prog 17 [netV k p n vt vo, netV k p n ut uo].toArray w (RetV w (.bool true)) := by
  refine calls_in Tryz.func17 rfl Tryz.ntmps17 rfl (Sat.start w) (wp_sc (wp_sq ?_)); refine sq_x rfl (x_box rfl rfl) rfl ?_; rintro _ _ ⟨b2, rfl, rfl⟩; refine sq_x rfl (x_box rfl rfl) rfl ?_; rintro _ _ ⟨b3, rfl, rfl⟩; refine sq_v rfl (v_assign rfl) rfl (sq_end (qs_n (wp_sc (wp_sc (wp_sq (sq_v rfl (v_fieldAddr fd_40_0 ty_37 (by decide) rfl) rfl (sq_v rfl (v_loadNB 1 ty_37 rfl rfl rfl rfl) rfl (sq_v rfl (v_fieldAddr fd_40_0 ty_37 (by decide) rfl) rfl (sq_v rfl (v_loadNB 0 ty_37 rfl rfl rfl rfl) rfl (sq_u rfl (x_callv rfl en_76 (fun w s => ct_l_eqRing _ _ _ w)) rfl (sq_v rfl (v_not rfl) rfl (sq_end (qs_n ?_))))))))))))); refine wp_cn _ rfl (fun c10 => ?_) (fun c10 => ?_)
  · refine wp_sc (wp_sq (sq_v rfl (v_assign rfl) rfl (sq_end (qs_n (wp_rt (qs_r ?_))))))
    cases c10
  · refine wp_sk (qs_n (wp_sc (wp_sc (wp_sq (sq_v rfl (v_fieldAddr fd_40_1 ty_38 (by decide) rfl) rfl (sq_v rfl (v_loadB 1 ty_38 rfl rfl rfl) rfl (sq_v rfl (v_fieldAddr fd_40_1 ty_38 (by decide) rfl) rfl (sq_v rfl (v_loadB 0 ty_38 rfl rfl rfl) rfl (sq_u rfl (x_callv rfl en_77 (fun w s => ct_l_eqTensorS _ _ _ w (r.mono (s.get 2 rfl)) (r'.mono (s.get 2 rfl)))) rfl (sq_v rfl (v_not rfl) rfl (sq_end (qs_n ?_)))))))))))); refine wp_cn _ rfl (fun c16 => ?_) (fun c16 => ?_)
    · refine wp_sc (wp_sq (sq_v rfl (v_assign rfl) rfl (sq_end (qs_n (wp_rt (qs_r ?_))))))
      cases c16
    · refine wp_sk (qs_n (wp_sc (wp_sc (wp_sq (sq_v rfl (v_fieldAddr fd_40_2 ty_25 (by decide) rfl) rfl (sq_v rfl (v_loadB 1 ty_25 rfl rfl rfl) rfl (sq_v rfl (v_fieldAddr fd_40_2 ty_25 (by decide) rfl) rfl (sq_v rfl (v_loadB 0 ty_25 rfl rfl rfl) rfl (sq_u rfl (x_callv rfl en_75 (fun w s => ct_l_eqIntS _ _ _ _ w (ro.mono (s.get 2 rfl)) (ro'.mono (s.get 2 rfl)) rfl)) rfl (sq_v rfl (v_not rfl) rfl (sq_end (qs_n ?_)))))))))))); refine wp_cn _ rfl (fun c22 => ?_) (fun c22 => ?_)
      · refine wp_sc (wp_sq (sq_v rfl (v_assign rfl) rfl (sq_end (qs_n (wp_rt (qs_r ?_))))))
        cases c22
      · refine wp_sk (qs_n (wp_sc (wp_sq (sq_v rfl (v_assign rfl) rfl (sq_end (qs_n (wp_rt ?_))))))); exact qs_ret1 rfl rfl (fin_q (i := 2) rfl rfl)
def iota (k : Int) (m : Nat) : List Int := (List.range m).map fun (j : Nat) => k + j
theorem iota_len (k : Int) (m : Nat) : (iota k m).length = m := by simp [iota]
theorem iota_get {k : Int} {m j : Nat} (h : j < m) : (iota k m).getD j 0 = k + j := by simp [iota, List.getD, h]
theorem iota_step (k : Int) (m : Nat) : iota k (m + 1) = iota k m ++ [k + m] := by simp [iota, List.range_succ]
theorem iota_set {k : Int} {xs : List Int} {i : Nat} (h : i < xs.length) : (iota k i ++ xs.drop i).set i (k + i) = iota k (i + 1) ++ xs.drop (i + 1) := by
  rw [List.set_append_right _ _ (by rw [iota_len]; exact Nat.le_refl _), iota_len, Nat.sub_self, iota_step, List.drop_eq_getElem_cons h, List.append_assoc]
  rfl
theorem ct_l_markIntS (xs : List Int) (v : Value) (k : Int) (w : World) (h : PH) (hle : PLe h (hp w)) (r : IntsO xs v h) (hk : 0 ≤ k ∧ k + xs.length ≤ 4611686018427387904) :
    Calls Tryz.prog 80 [v, num k].toArray w (Ret w h (fun u h' => u = num (k + xs.length) ∧ IntsO (iota k xs.length) v h')) := by
  refine calls_in Tryz.func80 rfl Tryz.ntmps80 rfl (Sat.start2 hle) (wp_sc (wp_sq (sq_v rfl (v_assign rfl) rfl (sq_end (qs_n (wp_sc (wp_sc (wp_sq (sq_v rfl (v_assign rfl) rfl (sq_end (qs_n (wp_bl ?_)))))))))))); refine wp_lp (fun s : Nat × PH => [(0, v), (1, num (k + s.1)), (5, num s.1)]) (fun s => [s.2, restP w h]) (fun s => s.1 ≤ xs.length ∧ IntsO (iota k s.1 ++ xs.drop s.1) v s.2) (fun s => xs.length - s.1) (0, h) ⟨by omega, by simpa [iota] using r⟩ ⟨rfl, by show _ = some (num (k + ((0 : Nat) : Int))); rw [show k + ((0 : Nat) : Int) = k by omega]; rfl, rfl, trivial⟩ (fun _ s => s) ?_; rintro ⟨i, hh⟩ ⟨hi, ro⟩; dsimp only at hi ro ⊢; have hl : (iota k i ++ xs.drop i).length = xs.length := by rw [List.length_append, iota_len, List.length_drop]; omega
  refine wp_sc (wp_sc (wp_sq (sq_v rfl (v_move rfl) rfl (sq_v rfl (v_move rfl) rfl ?_)))); refine sq_v rfl (v_len Tryz.underlying25 rfl (by have := ro.toR.sl; rwa [hl] at this)) rfl ?_; refine sq_v rfl (v_lss rfl rfl) rfl (sq_end (qs_n ?_)); refine wp_cd rfl (fun c9 => ?_) (fun c9 => ?_)
  · refine wp_sk (qs_n (wp_sc (wp_bl (wp_sc (wp_sq (sq_v rfl (v_move rfl) rfl (sq_v rfl (v_move rfl) rfl (sq_v rfl (v_move rfl) rfl (sq_v rfl (v_idxI Tryz.underlying25 ty_3 rfl rfl ro.toR (by omega) (by omega)) rfl ?_))))))))); refine sq_m 0 rfl rfl (m_storeI 0 ty_3 rfl rfl rfl ro (by omega)) rfl ?_; rintro _ h_ro8 ⟨rfl, ro8⟩; refine sq_end (qs_n (wp_sq (sq_v rfl (v_move rfl) rfl ?_))); refine sq_v rfl (v_add rfl rfl ((by unfold I64; omega))) rfl ?_; refine sq_v rfl (v_assign rfl) rfl (sq_end (qs_bn (qs_n (wp_sq (sq_v rfl (v_move rfl) rfl ?_))))); refine sq_v rfl (v_add rfl rfl ((by unfold I64; omega))) rfl ?_; refine sq_v rfl (v_assign rfl) rfl (sq_end ?_); exact qs_bk (i + 1, h_ro8) ⟨by simp only; omega, by simp only; rw [← iota_set (by omega)]; exact ro8⟩ (by simp only; omega) ⟨rfl, by simp only [Int.natCast_add, Int.natCast_one, ← Int.add_assoc]; rfl, rfl, trivial⟩ (fun _ s => s)
  · refine wp_ex (qs_x (qs_x (qs_bx (qs_n (wp_sc (wp_sq (sq_v rfl (v_move rfl) rfl (sq_v rfl (v_assign rfl) rfl (sq_end (qs_n (wp_rt ?_))))))))))); refine qs_ret1 rfl rfl (fin_m (i := 1) 0 rfl rfl rfl ?_); have e : i = xs.length := by omega
    subst e; rw [List.drop_length, List.append_nil] at ro; exact ⟨rfl, ro⟩
theorem ct_l_heldIntS (xs : List Int) (v : Value) (k : Int) (w : World) (r : IntsR xs v (hp w)) (he : xs = iota k xs.length) (hk : 0 ≤ k ∧ k + xs.length ≤ 4611686018427387904) :
    Calls Tryz.prog 82 [v, num k].toArray w (RetV w (num (k + xs.length))) := by
  refine calls_in Tryz.func82 rfl Tryz.ntmps82 rfl (Sat.start w) (wp_sc (wp_sq (sq_v rfl (v_assign rfl) rfl (sq_end (qs_n (wp_sc (wp_sc (wp_sq (sq_v rfl (v_assign rfl) rfl (sq_end (qs_n (wp_bl ?_)))))))))))); refine wp_lp (fun i : Nat => [(0, v), (1, num (k + i)), (5, num i)]) (fun _ => [hp w]) (fun i => i ≤ xs.length) (fun i => xs.length - i) 0 (by omega) ⟨rfl, by show _ = some (num (k + ((0 : Nat) : Int))); rw [show k + ((0 : Nat) : Int) = k by omega]; rfl, rfl, trivial⟩ (fun _ s => s) ?_; intro i hi; refine wp_sc (wp_sc (wp_sq (sq_v rfl (v_move rfl) rfl (sq_v rfl (v_move rfl) rfl (sq_v rfl (v_len Tryz.underlying25 rfl r.sl) rfl (sq_v rfl (v_lss rfl rfl) rfl (sq_end (qs_n ?_)))))))); refine wp_cd rfl (fun c9 => ?_) (fun c9 => ?_)
  · refine wp_sk (qs_n (wp_sc (wp_bl (wp_sc (wp_sc (wp_sq (sq_v rfl (v_move rfl) rfl (sq_v rfl (v_move rfl) rfl (sq_v rfl (v_idxI Tryz.underlying25 ty_3 rfl rfl r (by omega) (by omega)) rfl (sq_v rfl (v_loadI (k := i) 0 ty_3 rfl rfl r (by omega)) rfl (sq_v rfl (v_move rfl) rfl (sq_v rfl (v_neq rfl rfl) rfl (sq_end (qs_n ?_)))))))))))))); refine wp_cd rfl (fun c17 => ?_) (fun c17 => ?_)
    · refine wp_sc (wp_sq (sq_v rfl (v_assign rfl) rfl (sq_end (qs_n (wp_rt (qs_r (qs_br (qs_r (qs_r (qs_br (qs_r ?_))))))))))); exact absurd (by rw [he]; exact iota_get (by omega)) c17
    · refine wp_sk (qs_n (wp_sq (sq_v rfl (v_move rfl) rfl ?_))); refine sq_v rfl (v_add rfl rfl ((by unfold I64; omega))) rfl ?_; refine sq_v rfl (v_assign rfl) rfl (sq_end (qs_bn (qs_n (wp_sq (sq_v rfl (v_move rfl) rfl ?_))))); refine sq_v rfl (v_add rfl rfl ((by unfold I64; omega))) rfl ?_; refine sq_v rfl (v_assign rfl) rfl (sq_end ?_); exact qs_bk (i + 1) (by omega) (by omega) ⟨rfl, by simp only [Int.natCast_add, Int.natCast_one, ← Int.add_assoc]; rfl, rfl, trivial⟩ (fun _ s => s)
  · refine wp_ex (qs_x (qs_x (qs_bx (qs_n (wp_sc (wp_sq (sq_v rfl (v_move rfl) rfl (sq_v rfl (v_assign rfl) rfl (sq_end (qs_n (wp_rt ?_))))))))))); exact qs_ret1 rfl rfl (fin_q (i := 0) rfl (by congr 1; omega))
end Go.Proofs.YthlmjnihihbckaaGreat
namespace Go.Proofs.YthlmjnihihbckaaGreat
set_option maxRecDepth 100000
open Go.RowKit

theorem qs_close {n : Nat} {w0 : World} {K : Env} {HS : List PH} {Q : Exit → Act → World → Prop} {e : Exit} (A l : List PH) (hs : ∀ w, Sat w0 HS w → Sat w0 (A ++ l) w) (k : Made (joinP l) l → QS n w0 Q e K (joinP l :: A)) : QS n w0 Q e K HS :=
  fun a w en s => k (hs w s).close.2 a w en (hs w s).close.1
structure OwnL (xss : List (List Int)) (vs : List Value) (hs : List PH) : Prop where
  l1 : vs.length = xss.length
  l2 : hs.length = xss.length
  own : ∀ (i : Nat) (xs : List Int), xss[i]? = some xs → ∃ v h, vs[i]? = some v ∧ hs[i]? = some h ∧ IntsO xs v h
theorem OwnL.nil : OwnL [] [] [] := ⟨rfl, rfl, fun i xs h => by simp at h⟩
theorem OwnL.append {xss yss : List (List Int)} {vs us : List Value} {hs gs : List PH} (a : OwnL xss vs hs) (b : OwnL yss us gs) : OwnL (xss ++ yss) (vs ++ us) (hs ++ gs) := by
  refine ⟨by simp [a.l1, b.l1], by simp [a.l2, b.l2], fun i xs h => ?_⟩
  by_cases hi : i < xss.length
  · rw [List.getElem?_append_left hi] at h; rw [List.getElem?_append_left (by rw [a.l1]; exact hi), List.getElem?_append_left (by rw [a.l2]; exact hi)]; exact a.own i xs h
  · rw [List.getElem?_append_right (by omega)] at h; rw [List.getElem?_append_right (by rw [a.l1]; omega), List.getElem?_append_right (by rw [a.l2]; omega), a.l1, a.l2]; exact b.own _ xs h
theorem OwnL.three {l d x : List Int} {a b c : Value} {h1 h2 h3 : PH} (r1 : IntsO l a h1) (r2 : IntsO d b h2) (r3 : IntsO x c h3) : OwnL [l, d, x] [a, b, c] [h1, h2, h3] := by
  refine ⟨rfl, rfl, fun i xs h => ?_⟩
  match i, h with
  | 0, h => cases h; exact ⟨a, h1, rfl, rfl, r1⟩
  | 1, h => cases h; exact ⟨b, h2, rfl, rfl, r2⟩
  | 2, h => cases h; exact ⟨c, h3, rfl, rfl, r3⟩
  | i + 3, h => simp at h
theorem OwnL.set {xss : List (List Int)} {vs : List Value} {hs : List PH} (a : OwnL xss vs hs) {i : Nat} {v : Value} {ys : List Int} {h' : PH} (hv : vs[i]? = some v) (r : IntsO ys v h') : OwnL (xss.set i ys) vs (hs.set i h') := by
  have hi : i < vs.length := (List.getElem?_eq_some_iff.1 hv).1; refine ⟨by simp [a.l1], by simp [a.l2], fun j xs h => ?_⟩
  by_cases e : j = i
  · subst e; rw [List.getElem?_set_self (by rw [← a.l1]; exact hi)] at h
    cases h
    exact ⟨v, h', hv, List.getElem?_set_self (by rw [a.l2, ← a.l1]; exact hi), r⟩
  · rw [List.getElem?_set_ne (Ne.symm e)] at h; rw [List.getElem?_set_ne (Ne.symm e)]; exact a.own j xs h
def flat (ts : List Ten) : List (List Int) := ts.flatMap fun t => [t.l, t.d, t.x]
theorem flat_append (a b : List Ten) : flat (a ++ b) = flat a ++ flat b := by simp [flat]
theorem flat_len : ∀ ts : List Ten, (flat ts).length = ts.length * 3
  | [] => rfl
  | t :: r => by
    have := flat_len r; simp only [flat, List.flatMap_cons, List.length_append, List.length_cons, List.length_nil] at *
    omega
theorem tens_get : ∀ {ts : List Ten} {i : Nat} {t : Ten}, ts[i]? = some t → (flat ts)[i * 3]? = some t.l ∧ (flat ts)[i * 3 + 1]? = some t.d ∧ (flat ts)[i * 3 + 2]? = some t.x
  | [], i, t, h => by simp at h
  | u :: r, 0, t, h => by cases h; exact ⟨rfl, rfl, rfl⟩
  | u :: r, i + 1, t, h => by
    have := tens_get (ts := r) (i := i) (t := t) (by simpa using h); have e : ∀ j, (flat (u :: r))[(i + 1) * 3 + j]? = (flat r)[i * 3 + j]? := fun j => by
      show (u.l :: u.d :: u.x :: flat r)[(i + 1) * 3 + j]? = _
      rw [show (i + 1) * 3 + j = i * 3 + j + 1 + 1 + 1 by omega]
      simp
    exact ⟨by have := e 0; simp only [Nat.add_zero] at this; rw [this]; simp_all, by rw [e 1]; exact this.2.1, by rw [e 2]; exact this.2.2⟩
/-- Tensors that own their parts. -/
def TensO (ts : List Ten) (v : Value) (h : PH) : Prop := ∃ vs h0 hs, RowO 34 vs ts.length 3 v h0 ∧ OwnL (flat ts) vs hs ∧ Made h (h0 :: hs)
theorem three_at {vs : List Value} {i : Nat} {a b c : Value} (h0 : vs[i * 3]? = some a) (h1 : vs[i * 3 + 1]? = some b) (h2 : vs[i * 3 + 2]? = some c) : (vs.drop (i * 3)).take 3 = [a, b, c] := by
  apply List.ext_getElem?
  intro j; rw [List.getElem?_take]
  match j with
  | 0 => simpa using h0
  | 1 => simpa using h1
  | 2 => simpa using h2
  | j + 3 => rw [if_neg (by omega)]; simp
theorem OwnL.tens {ts : List Ten} {vs : List Value} {v : Value} {h : PH} {hs : List PH} (r0 : RowR vs ts.length 3 v h) (o : OwnL (flat ts) vs hs) (hle : ∀ x ∈ hs, PLe x h) : TensR ts v h := by
  refine ⟨vs, r0, fun i t ht => ?_⟩; obtain ⟨f1, f2, f3⟩ := tens_get ht; obtain ⟨a, h1, e1, g1, r1⟩ := o.own _ _ f1; obtain ⟨b, h2, e2, g2, r2⟩ := o.own _ _ f2; obtain ⟨c, h3, e3, g3, r3⟩ := o.own _ _ f3; exact ⟨a, b, c, three_at e1 e2 e3, r1.toR.mono (hle _ (List.mem_of_getElem? g1)), r2.toR.mono (hle _ (List.mem_of_getElem? g2)), r3.toR.mono (hle _ (List.mem_of_getElem? g3))⟩
theorem TensO.toR {ts : List Ten} {v : Value} {h : PH} (r : TensO ts v h) : TensR ts v h := by
  obtain ⟨vs, h0, hs, r0, o, m⟩ := r; exact OwnL.tens (r0.toR.mono (m.le h0 (by simp))) o (fun x hx => m.le x (by simp [hx]))
/-- A network that owns its parts. -/
def NetO (ts : List Ten) (op : List Int) (vt vo : Value) (h : PH) : Prop := ∃ vs h0 ho hs, RowO 34 vs ts.length 3 vt h0 ∧ IntsO op vo ho ∧ OwnL (flat ts) vs hs ∧ Made h (h0 :: ho :: hs)
theorem NetO.toR {ts : List Ten} {op : List Int} {vt vo : Value} {h : PH} (r : NetO ts op vt vo h) : TensR ts vt h ∧ IntsR op vo h := by
  obtain ⟨vs, h0, ho, hs, r0, r1, o, m⟩ := r; exact ⟨OwnL.tens (r0.toR.mono (m.le h0 (by simp))) o (fun x hx => m.le x (by simp [hx])), r1.toR.mono (m.le ho (by simp))⟩
def TenO (t : Ten) (u : Value) (h : PH) : Prop := ∃ a b c h1 h2 h3, u = tenV a b c ∧ IntsO t.l a h1 ∧ IntsO t.d b h2 ∧ IntsO t.x c h3 ∧ Made h [h1, h2, h3]
theorem ct_l_toTensor (t : Ten) (a b c : Value) (w : World) (r1 : IntsR t.l a (hp w)) (r2 : IntsR t.d b (hp w)) (r3 : IntsR t.x c (hp w)) (hs : tenSize t ≤ 1048576) :
    Calls Tryz.prog 166 [tenV a b c].toArray w (Ret w emp (TenO t)) := by
  unfold tenSize at hs
  refine calls_in Tryz.func166 rfl Tryz.ntmps166 rfl (Sat.start w) (wp_sc (wp_sq ?_)); refine sq_x rfl (x_box rfl rfl) rfl ?_; rintro _ _ ⟨b1, rfl, rfl⟩; refine sq_x rfl (x_alloc ty_34 rfl) rfl ?_; rintro _ _ ⟨b2, rfl, rfl⟩; refine sq_end (qs_n (wp_sc (wp_sq ?_))); refine sq_x rfl (x_alloc ty_34 rfl) rfl ?_; rintro _ _ ⟨b3, rfl, rfl⟩; refine sq_end (qs_n (wp_sc (wp_sq (sq_v rfl (v_fieldAddr fd_154_0 ty_25 (by decide) rfl) rfl (sq_v rfl (v_loadB 2 ty_25 rfl rfl rfl) rfl ?_))))); refine sq_x rfl (x_call rfl en_70 (fun w s => ct_l_toIntS _ _ w (r1.mono (s.get 3 rfl)) (by omega))) rfl ?_; rintro v6 h6 r6; refine sq_v rfl (v_fieldAddr fd_34_0 ty_25 (by decide) rfl) rfl ?_; refine sq_m 1 rfl rfl (m_store1 1 ty_25 rfl rfl r6.toR.sl.one rfl (Nat.le_of_ble_eq_true rfl)) rfl ?_; rintro _ _ ⟨rfl, rfl⟩; refine sq_end (qs_n (wp_sc (wp_sq (sq_v rfl (v_fieldAddr fd_154_1 ty_25 (by decide) rfl) rfl (sq_v rfl (v_loadB 3 ty_25 rfl rfl rfl) rfl ?_))))); refine sq_x rfl (x_call rfl en_70 (fun w s => ct_l_toIntS _ _ w (r2.mono (s.get 4 rfl)) (by omega))) rfl ?_; rintro v10 h10 r10; refine sq_v rfl (v_fieldAddr fd_34_1 ty_25 (by decide) rfl) rfl ?_; refine sq_m 2 rfl rfl (m_store1 2 ty_25 rfl rfl r10.toR.sl.one rfl (Nat.le_of_ble_eq_true rfl)) rfl ?_; rintro _ _ ⟨rfl, rfl⟩; refine sq_end (qs_n (wp_sc (wp_sq (sq_v rfl (v_fieldAddr fd_154_2 ty_25 (by decide) rfl) rfl (sq_v rfl (v_loadB 4 ty_25 rfl rfl rfl) rfl ?_))))); refine sq_x rfl (x_call rfl en_70 (fun w s => ct_l_toIntS _ _ w (r3.mono (s.get 5 rfl)) (by omega))) rfl ?_; rintro v14 h14 r14; refine sq_v rfl (v_fieldAddr fd_34_2 ty_25 (by decide) rfl) rfl ?_; refine sq_m 3 rfl rfl (m_store1 3 ty_25 rfl rfl r14.toR.sl.one rfl (Nat.le_of_ble_eq_true rfl)) rfl ?_; rintro _ _ ⟨rfl, rfl⟩; refine sq_end (qs_n (wp_sc (wp_sq (sq_v rfl (v_loadNB 3 ty_34 rfl rfl rfl rfl) rfl ?_)))); refine sq_m 4 rfl rfl (m_store 4 ty_34 rfl rfl rfl rfl (by simp [r6.toR.sl.one, r10.toR.sl.one, r14.toR.sl.one]) rfl (Nat.le_of_ble_eq_true rfl)) rfl ?_; rintro _ _ ⟨rfl, rfl⟩; refine sq_end (qs_n (wp_rt ?_)); refine qs_close [box b2 _ _, hp w] [h6, h10, h14] (fun _ s => s.pick [4, 6, 2, 1, 0] (by decide) rfl) (fun md => ?_); exact qs_retc 1 rfl ty_34 rfl rfl rfl (fin_t 0 (i := 2) rfl rfl rfl ⟨v6, v10, v14, h6, h10, h14, rfl, r6, r10, r14, md⟩)
def nil3 : List Value := [.slice none 0 0, .slice none 0 0, .slice none 0 0]
theorem row_step {vs : List Value} {i m : Nat} {a b c : Value} (hv : vs.length = i * 3) : (vs ++ (List.replicate (m + 1) nil3).flatten).take (i * 3) ++ [a, b, c] ++ (vs ++ (List.replicate (m + 1) nil3).flatten).drop (i * 3 + 3) = (vs ++ [a, b, c]) ++ (List.replicate m nil3).flatten := by
  rw [← hv, List.take_left, List.drop_append, List.drop_of_length_le (by omega), List.nil_append, List.replicate_succ, List.flatten_cons]; have : vs.length + 3 - vs.length = nil3.length := by simp [nil3]
  rw [this, List.drop_left]
theorem ct_l_toTensorS (ts : List Ten) (v : Value) (w : World) (r : TensR ts v (hp w)) (hs : ts.length + tensSize ts ≤ 1048576) :
    Calls Tryz.prog 69 [v].toArray w (Ret w emp (TensO ts)) := by
  have hx := r.le; have hn := tensSize_nn ts; obtain ⟨cells, rr, hc⟩ := r.at; refine calls_in Tryz.func69 rfl Tryz.ntmps69 rfl (Sat.start w) (wp_sc (wp_sq (sq_v rfl (v_assign rfl) rfl (sq_end (qs_n (wp_sc (wp_sq (sq_v rfl (v_move rfl) rfl (sq_v rfl (v_len Tryz.underlying24 rfl r.sl) rfl ?_))))))))); refine sq_x rfl (x_make Tryz.underlying38 ty_34 rfl rfl rfl rfl (by omega) (by omega) (by omega)) rfl ?_; intro v7 h7 r7; refine sq_v rfl (v_assign rfl) rfl (sq_end (qs_n (wp_sc (wp_sc (wp_sq (sq_v rfl (v_assign rfl) rfl (sq_end (qs_n (wp_bl (wp_lp (fun s : Nat × PH × List Value × List PH => [(0, v), (3, v7), (4, num s.1)]) (fun s => s.2.1 :: hp w :: s.2.2.2) (fun s => s.1 ≤ ts.length ∧ RowO 34 (s.2.2.1 ++ (List.replicate (ts.length - s.1) nil3).flatten) ts.length 3 v7 s.2.1 ∧ OwnL (flat (ts.take s.1)) s.2.2.1 s.2.2.2) (fun s => ts.length - s.1) (0, h7, [], []) ⟨by omega, by simpa [nil3] using r7, OwnL.nil⟩ ⟨rfl, rfl, rfl, trivial⟩ (fun _ s => s) ?_)))))))))); rintro ⟨i, h0, vs, hs'⟩ ⟨hi, r0, ow⟩; dsimp only at hi r0 ow ⊢; have hvl : vs.length = i * 3 := by rw [ow.l1, flat_len, List.length_take, Nat.min_eq_left hi]
  refine wp_sc (wp_sc (wp_sq (sq_v rfl (v_move rfl) rfl (sq_v rfl (v_move rfl) rfl (sq_v rfl (v_len Tryz.underlying24 rfl r.sl) rfl (sq_v rfl (v_lss rfl rfl) rfl (sq_end (qs_n ?_)))))))); refine wp_cd rfl (fun c11 => ?_) (fun c11 => ?_)
  · refine wp_sk (qs_n (wp_sc (wp_bl (wp_sq (sq_v rfl (v_move rfl) rfl (sq_v rfl (v_move rfl) rfl (sq_v rfl (v_move rfl) rfl (sq_v rfl (v_move rfl) rfl ?_)))))))); obtain ⟨t, a, b, c, ht, hcs, r1, r2, r3⟩ := hc i (by omega); have hst := tensSize_step ht; have htk := tensSize_take ts (i + 1); have hnd := tensSize_nn (ts.drop (i + 1)); have hnn := tensSize_nn (ts.take i); refine sq_v rfl (v_indexAddr Tryz.underlying24 ty_154 rfl rfl rr (by decide) (by omega) (by omega)) rfl ?_; refine sq_v rfl (v_loadNE 1 ty_154 rfl rfl rr (by have := rr.1; omega) rfl hcs) rfl ?_; refine sq_x rfl (x_call rfl en_166 (fun w s => ct_l_toTensor t _ _ _ w (r1.mono (s.get 1 rfl)) (r2.mono (s.get 1 rfl)) (r3.mono (s.get 1 rfl)) (by omega))) rfl ?_; rintro _ h20 ⟨a', b', c', h1, h2, h3, rfl, o1, o2, o3, md⟩; refine sq_v rfl (v_indexAddr Tryz.underlying38 ty_34 rfl rfl r0.toR (by decide) (by omega) (by omega)) rfl ?_; refine sq_m 1 rfl rfl (m_storeE 1 ty_34 rfl rfl (us := [a', b', c']) rfl rfl (by simp [o1.toR.sl.one, o2.toR.sl.one, o3.toR.sl.one]) rfl r0 (by decide) (by have := r0.1; simp only [Int.toNat_natCast]; omega)) rfl ?_; rintro _ h8 ⟨rfl, r8⟩; refine sq_end (qs_bn (qs_n (wp_sq (sq_v rfl (v_move rfl) rfl ?_)))); refine sq_v rfl (v_add rfl rfl ((by unfold I64; omega))) rfl ?_; refine sq_v rfl (v_assign rfl) rfl (sq_end ?_); obtain ⟨m, hm⟩ : ∃ m, ts.length - i = m + 1 := ⟨ts.length - i - 1, by omega⟩
    have hm' : ts.length - (i + 1) = m := by omega
    simp only [Int.toNat_natCast] at r8; rw [hm, row_step hvl] at r8; exact qs_bk (i + 1, h8, vs ++ [a', b', c'], hs' ++ [h1, h2, h3]) ⟨by simp only; omega, by simp only [hm']; exact r8, by simp only; rw [take_ten ht, flat_append]; exact ow.append (OwnL.three o1 o2 o3)⟩ (by simp only; omega) ⟨rfl, rfl, rfl, trivial⟩ (fun _ s => Sat.open md s)
  · refine wp_ex (qs_x (qs_x (qs_bx (qs_n (wp_sc (wp_sq (sq_v rfl (v_move rfl) rfl (sq_v rfl (v_assign rfl) rfl (sq_end (qs_n (wp_rt ?_))))))))))); have e : i = ts.length := by omega
    subst e; rw [Nat.sub_self, List.replicate_zero, List.flatten_nil, List.append_nil] at r0; rw [List.take_length] at ow; refine qs_close [hp w] (h0 :: hs') (fun _ s => Sat.pickT (A := [h0, hp w]) (A' := [hp w, h0]) s [1, 0] (by decide) rfl) (fun md => ?_); exact qs_ret1 rfl rfl (fin_t 0 (i := 1) rfl rfl rfl ⟨vs, h0, hs', r0, ow, md⟩)
theorem ct_l_toNetwork (k p n : Int) (ts : List Ten) (op : List Int) (vt vo : Value) (w : World) (r : TensR ts vt (hp w)) (r' : IntsR op vo (hp w)) (hs : ts.length + tensSize ts + op.length ≤ 1048576) :
    Calls Tryz.prog 13 [netV k p n vt vo].toArray w (Ret w emp (fun u h => ∃ vt' vo', u = netV k p n vt' vo' ∧ NetO ts op vt' vo' h)) := by
  have hn := tensSize_nn ts; refine calls_in Tryz.func13 rfl Tryz.ntmps13 rfl (Sat.start w) (wp_sc (wp_sq ?_)); refine sq_x rfl (x_box rfl rfl) rfl ?_; rintro _ _ ⟨b1, rfl, rfl⟩; refine sq_x rfl (x_alloc ty_40 rfl) rfl ?_; rintro _ _ ⟨b2, rfl, rfl⟩; refine sq_end (qs_n (wp_sc (wp_sq ?_))); refine sq_x rfl (x_alloc ty_40 rfl) rfl ?_; rintro _ _ ⟨b3, rfl, rfl⟩; refine sq_end (qs_n (wp_sc (wp_sq (sq_v rfl (v_fieldAddr fd_27_0 ty_23 (by decide) rfl) rfl (sq_v rfl (v_loadNB 2 ty_23 rfl rfl rfl rfl) rfl (sq_u rfl (x_callv rfl en_68 (fun w s => ct_l_toRing _ _ _ w)) rfl (sq_v rfl (v_fieldAddr fd_40_0 ty_37 (by decide) rfl) rfl ?_))))))); refine sq_m 0 rfl rfl (m_store 0 ty_37 rfl rfl rfl rfl (by simp [Value.oneCell']) rfl (Nat.le_of_ble_eq_true rfl)) rfl ?_; rintro _ _ ⟨rfl, rfl⟩; refine sq_end (qs_n (wp_sc (wp_sq (sq_v rfl (v_fieldAddr fd_27_1 ty_24 (by decide) rfl) rfl (sq_v rfl (v_loadB 2 ty_24 rfl rfl rfl) rfl ?_))))); refine sq_x rfl (x_call rfl en_69 (fun w s => ct_l_toTensorS _ _ w (r.mono (s.get 3 rfl)) (by omega))) rfl ?_; rintro v10 h10 r10; refine sq_v rfl (v_fieldAddr fd_40_1 ty_38 (by decide) rfl) rfl ?_; refine sq_m 1 rfl rfl (m_store1 1 ty_38 rfl rfl r10.toR.sl.one rfl (Nat.le_of_ble_eq_true rfl)) rfl ?_; rintro _ _ ⟨rfl, rfl⟩; refine sq_end (qs_n (wp_sc (wp_sq (sq_v rfl (v_fieldAddr fd_27_2 ty_25 (by decide) rfl) rfl (sq_v rfl (v_loadB 3 ty_25 rfl rfl rfl) rfl ?_))))); refine sq_x rfl (x_call rfl en_70 (fun w s => ct_l_toIntS _ _ w (r'.mono (s.get 4 rfl)) (by omega))) rfl ?_; rintro v14 h14 r14; refine sq_v rfl (v_fieldAddr fd_40_2 ty_25 (by decide) rfl) rfl ?_; refine sq_m 2 rfl rfl (m_store1 2 ty_25 rfl rfl r14.toR.sl.one rfl (Nat.le_of_ble_eq_true rfl)) rfl ?_; rintro _ _ ⟨rfl, rfl⟩; refine sq_end (qs_n (wp_sc (wp_sq (sq_v rfl (v_loadNB 2 ty_40 rfl rfl rfl rfl) rfl ?_)))); refine sq_m 3 rfl rfl (m_store 3 ty_40 rfl rfl rfl rfl (by simp [one_int, r10.toR.sl.one, r14.toR.sl.one]) rfl (Nat.le_of_ble_eq_true rfl)) rfl ?_; rintro _ _ ⟨rfl, rfl⟩; refine sq_end (qs_n (wp_rt ?_)); obtain ⟨vs, h0, hs', r0, ow, md0⟩ := id r10; refine qs_close [box b2 _ _, hp w] (h0 :: h14 :: hs') (fun _ s => Sat.pickT (A := [h14, box b2 _ _, hp w, h0]) (A' := [box b2 _ _, hp w, h0, h14]) (Sat.open (A := [h14, box b2 _ _, hp w]) md0 (s.pick [1, 0, 3, 5] (by decide) rfl)) [1, 2, 3, 0] (by decide) rfl) (fun md => ?_); exact qs_retc 1 rfl ty_40 rfl rfl rfl (fin_t 0 (i := 2) rfl rfl rfl ⟨_, _, rfl, vs, h0, h14, hs', r0, r14, ow, md⟩)
end Go.Proofs.YthlmjnihihbckaaGreat
namespace Go.Proofs.YthlmjnihihbckaaGreat
set_option maxRecDepth 100000
open Go.RowKit

/-- From k on, each number of the lists is one more than the number before it; the next would be k'. -/
def HeldL : Int → List (List Int) → Int → Prop
  | k, [], k' => k = k'
  | k, xs :: r, k' => xs = iota k xs.length ∧ HeldL (k + xs.length) r k'
theorem HeldL.le : ∀ {xss : List (List Int)} {k k' : Int}, HeldL k xss k' → k ≤ k'
  | [], k, k', h => by have : k = k' := h; omega
  | xs :: r, k, k', h => by have := HeldL.le h.2; omega
theorem HeldL.append : ∀ {xss yss : List (List Int)} {k k1 k' : Int}, HeldL k xss k1 → HeldL k1 yss k' → HeldL k (xss ++ yss) k'
  | [], yss, k, k1, k', h, g => by have : k = k1 := h; subst this; exact g
  | xs :: r, yss, k, k1, k', h, g => ⟨h.1, HeldL.append h.2 g⟩
theorem iota_held (k : Int) (m : Nat) : iota k m = iota k (iota k m).length := by rw [iota_len]
theorem held_three (q : Int) (m1 m2 m3 : Nat) {e : Int} (he : e = q + m1 + m2 + m3) : HeldL q [iota q m1, iota (q + m1) m2, iota (q + m1 + m2) m3] e := by
  refine ⟨iota_held _ _, by simp only [iota_len], by simp only [iota_len], ?_⟩; simp only [iota_len]
  show _ = _
  exact he.symm
theorem flat_cons (t : Ten) (r : List Ten) : flat (t :: r) = t.l :: t.d :: t.x :: flat r := rfl
theorem flat_set3 {A B : List Ten} {t : Ten} {i : Nat} (hA : A.length = i) (l d x : List Int) : (((flat (A ++ t :: B)).set (i * 3) l).set (i * 3 + 1) d).set (i * 3 + 2) x = flat (A ++ ⟨l, d, x⟩ :: B) := by
  have hl : (flat A).length = i * 3 := by rw [flat_len, hA]
  rw [flat_append, flat_append, flat_cons, flat_cons, List.set_append_right _ _ (by omega), List.set_append_right _ _ (by omega), List.set_append_right _ _ (by omega), hl]; have e1 : i * 3 - i * 3 = 0 := by omega
  have e2 : i * 3 + 1 - i * 3 = 1 := by omega
  have e3 : i * 3 + 2 - i * 3 = 2 := by omega
  rw [e1, e2, e3]
  rfl
theorem ct_l_markTensorS (ts : List Ten) (v : Value) (k : Int) (w : World) (h : PH) (hle : PLe h (hp w)) (r : TensO ts v h) (hk : 0 ≤ k ∧ k + tensSize ts ≤ 4611686018427387904) :
    Calls Tryz.prog 79 [v, num k].toArray w (Ret w h (fun u h' => u = num (k + tensSize ts) ∧ ∃ ts', TensO ts' v h' ∧ HeldL k (flat ts') (k + tensSize ts))) := by
  obtain ⟨vs, h0, hs, r0, ow, md⟩ := r; have hx : (ts.length : Int) ≤ 9223372036854775807 := by obtain ⟨_, _, _, _, ⟨h, _⟩, _⟩ := r0.toR; unfold maxLen at h; omega
  refine calls_in Tryz.func79 rfl Tryz.ntmps79 rfl (Sat.start2 hle) (wp_sc (wp_sq (sq_v rfl (v_assign rfl) rfl (sq_end (qs_n (wp_sc (wp_sc (wp_sq (sq_v rfl (v_assign rfl) rfl (sq_end (qs_n (wp_bl ?_)))))))))))); refine wp_lp (fun s : Nat × List Ten × List PH => [(0, v), (1, num (k + tensSize (ts.take s.1))), (5, num s.1)]) (fun s => restP w h :: h0 :: s.2.2) (fun s => s.1 ≤ ts.length ∧ s.2.1.length = s.1 ∧ OwnL (flat (s.2.1 ++ ts.drop s.1)) vs s.2.2 ∧ HeldL k (flat s.2.1) (k + tensSize (ts.take s.1))) (fun s => ts.length - s.1) (0, [], hs) ⟨by omega, rfl, ow, by simp [flat, HeldL, tensSize]⟩ ⟨rfl, by show _ = some (num (k + 0)); rw [Int.add_zero]; rfl, rfl, trivial⟩ (fun _ s => Sat.open (A := [restP w h]) md s) ?_; rintro ⟨i, A, hs'⟩ ⟨hi, hA, ow', hh⟩; dsimp only at hi hA ow' hh ⊢; refine wp_sc (wp_sc (wp_sq (sq_v rfl (v_move rfl) rfl (sq_v rfl (v_move rfl) rfl (sq_v rfl (v_len Tryz.underlying38 rfl r0.toR.sl) rfl (sq_v rfl (v_lss rfl rfl) rfl (sq_end (qs_n ?_)))))))); refine wp_cd rfl (fun c9 => ?_) (fun c9 => ?_)
  · refine wp_sk (qs_n (wp_sc (wp_bl (wp_sc (wp_sq (sq_v rfl (v_move rfl) rfl (sq_v rfl (v_move rfl) rfl ?_))))))); obtain ⟨t, ht⟩ : ∃ t, ts[i]? = some t := ⟨_, List.getElem?_eq_getElem (by omega)⟩; rw [drop_at ht] at ow'; obtain ⟨f1, f2, f3⟩ := tens_get (ts := A ++ t :: ts.drop (i + 1)) (i := i) (t := t) (by rw [← hA]; simp); obtain ⟨a, h1, e1, g1, o1⟩ := ow'.own _ _ f1; obtain ⟨b, h2, e2, g2, o2⟩ := ow'.own _ _ f2; obtain ⟨c, h3, e3, g3, o3⟩ := ow'.own _ _ f3; have hst := tensSize_step ht; have htk := tensSize_take ts (i + 1); have hnd := tensSize_nn (ts.drop (i + 1)); have hnn := tensSize_nn (ts.take i); have hts : tenSize t = t.l.length + t.d.length + t.x.length := rfl; have hvl := r0.1; refine sq_v rfl (v_indexAddr Tryz.underlying38 ty_34 rfl rfl r0.toR (by decide) (by omega) (by omega)) rfl ?_; refine sq_v rfl (v_fieldAddrE fd_34_0 ty_25 (by decide) rfl r0.toR (by simp only [Int.toNat_natCast]; omega)) rfl ?_; refine sq_v rfl (v_loadE 1 ty_25 rfl rfl r0.toR e1) rfl (sq_v rfl (v_move rfl) rfl ?_); refine sq_mT (A := [restP w h, h0]) (i * 3) (2 + i * 3) rfl rfl g1 (fun hp' => x_call rfl en_80 (fun w' s => ct_l_markIntS _ _ _ w' _ (s.get _ hp') o1 (by omega))) rfl ?_; rintro _ h18 ⟨rfl, o18⟩; refine sq_v rfl (v_assign rfl) rfl (sq_end (qs_n (wp_sc (wp_sq (sq_v rfl (v_move rfl) rfl (sq_v rfl (v_move rfl) rfl (sq_v rfl (v_indexAddr Tryz.underlying38 ty_34 rfl rfl r0.toR (by decide) (by omega) (by omega)) rfl ?_))))))); refine sq_v rfl (v_fieldAddrE fd_34_1 ty_25 (by decide) rfl r0.toR (by simp only [Int.toNat_natCast]; omega)) rfl ?_; refine sq_v rfl (v_loadE 1 ty_25 rfl rfl r0.toR e2) rfl (sq_v rfl (v_move rfl) rfl ?_); refine sq_mT (A := [restP w h, h0]) (i * 3 + 1) (2 + (i * 3 + 1)) rfl rfl (by rw [List.getElem?_set_ne (by omega)]; exact g2) (fun hp' => x_call rfl en_80 (fun w' s => ct_l_markIntS _ _ _ w' _ (s.get _ hp') o2 (by omega))) rfl ?_; rintro _ h25 ⟨rfl, o25⟩; refine sq_v rfl (v_assign rfl) rfl (sq_end (qs_n (wp_sq (sq_v rfl (v_move rfl) rfl (sq_v rfl (v_move rfl) rfl (sq_v rfl (v_indexAddr Tryz.underlying38 ty_34 rfl rfl r0.toR (by decide) (by omega) (by omega)) rfl ?_)))))); refine sq_v rfl (v_fieldAddrE fd_34_2 ty_25 (by decide) rfl r0.toR (by simp only [Int.toNat_natCast]; omega)) rfl ?_; refine sq_v rfl (v_loadE 1 ty_25 rfl rfl r0.toR e3) rfl (sq_v rfl (v_move rfl) rfl ?_); refine sq_mT (A := [restP w h, h0]) (i * 3 + 2) (2 + (i * 3 + 2)) rfl rfl (by rw [List.getElem?_set_ne (by omega), List.getElem?_set_ne (by omega)]; exact g3) (fun hp' => x_call rfl en_80 (fun w' s => ct_l_markIntS _ _ _ w' _ (s.get _ hp') o3 (by omega))) rfl ?_; rintro _ h32 ⟨rfl, o32⟩; refine sq_v rfl (v_assign rfl) rfl (sq_end (qs_bn (qs_n (wp_sq (sq_v rfl (v_move rfl) rfl ?_))))); refine sq_v rfl (v_add rfl rfl ((by unfold I64; omega))) rfl ?_; refine sq_v rfl (v_assign rfl) rfl (sq_end ?_); have ow3 := ((ow'.set e1 o18).set e2 o25).set e3 o32; rw [flat_set3 hA] at ow3; refine qs_bk (i + 1, A ++ [_], ((hs'.set (i * 3) h18).set (i * 3 + 1) h25).set (i * 3 + 2) h32) ⟨by simp only; omega, by simp [hA], by simp only; rw [List.append_assoc]; exact ow3, ?_⟩ (by simp only; omega) ⟨rfl, by rw [hst, hts, ← Int.add_assoc, ← Int.add_assoc, ← Int.add_assoc]; rfl, rfl, trivial⟩ (fun _ s => s)
    simp only
    rw [flat_append, hst, hts]; exact hh.append (held_three _ _ _ _ (by omega))
  · refine wp_ex (qs_x (qs_x (qs_bx (qs_n (wp_sc (wp_sq (sq_v rfl (v_move rfl) rfl (sq_v rfl (v_assign rfl) rfl (sq_end (qs_n (wp_rt ?_))))))))))); have e : i = ts.length := by omega
    subst e; rw [List.drop_length, List.append_nil] at ow'; rw [List.take_length] at hh; refine qs_close [restP w h] (h0 :: hs') (fun _ s => s) (fun md' => ?_); exact qs_ret1 rfl rfl (fin_m (i := 1) 0 rfl rfl rfl ⟨by rw [List.take_length], A, ⟨vs, h0, hs', by rw [hA]; exact r0, ow', md'⟩, hh⟩)
theorem ct_l_markNetwork (kd p n : Int) (ts : List Ten) (op : List Int) (vt vo : Value) (k : Int) (w : World) (h : PH) (hle : PLe h (hp w)) (r : NetO ts op vt vo h) (hk : 0 ≤ k ∧ k + tensSize ts + op.length ≤ 4611686018427387904) :
    Calls Tryz.prog 19 [netV kd p n vt vo, num k].toArray w (Ret w h (fun u h' => u = num (k + tensSize ts + op.length) ∧ ∃ ts' op', NetO ts' op' vt vo h' ∧ HeldL k (flat ts' ++ [op']) (k + tensSize ts + op.length))) := by
  obtain ⟨vs, h0, ho, hs, r0, r1, ow, md⟩ := r; have hnn := tensSize_nn ts; have md0 : Made (joinP (h0 :: hs)) (h0 :: hs) := Made.join ⟨fun x hx => md.sep.1 x (by simp [hx]), md.sep.2.2⟩; have hent : Sat w [joinP (h0 :: hs), ho, restP w h] w := by
    have s1 := Sat.open (A := [restP w h]) md (Sat.start2 hle); have s2 := Sat.pickT (A := [restP w h, h0, ho]) (A' := [ho, restP w h, h0]) s1 [2, 0, 1] (by decide) rfl; exact (Sat.close (A := [ho, restP w h]) (l := h0 :: hs) s2).1
  refine calls_in Tryz.func19 rfl Tryz.ntmps19 rfl hent (wp_sc (wp_sq ?_)); refine sq_x rfl (x_box rfl rfl) rfl ?_; rintro _ _ ⟨b2, rfl, rfl⟩; refine sq_v rfl (v_assign rfl) rfl (sq_end (qs_n (wp_sc (wp_sq (sq_v rfl (v_fieldAddr fd_40_1 ty_38 (by decide) rfl) rfl (sq_v rfl (v_loadB 0 ty_38 rfl rfl rfl) rfl (sq_v rfl (v_move rfl) rfl ?_))))))); refine sq_m 1 rfl rfl (x_call rfl en_79 (fun w s => ct_l_markTensorS ts _ _ w _ (s.get 1 rfl) ⟨vs, h0, hs, r0, ow, md0⟩ (by omega))) rfl ?_; rintro _ h8 ⟨rfl, ts', r8, hl8⟩; refine sq_v rfl (v_assign rfl) rfl (sq_end (qs_n (wp_sc (wp_sq (sq_v rfl (v_fieldAddr fd_40_2 ty_25 (by decide) rfl) rfl (sq_v rfl (v_loadB 0 ty_25 rfl rfl rfl) rfl (sq_v rfl (v_move rfl) rfl ?_))))))); refine sq_m 2 rfl rfl (x_call rfl en_80 (fun w s => ct_l_markIntS op _ _ w _ (s.get 2 rfl) r1 (by omega))) rfl ?_; rintro _ h12 ⟨rfl, r12⟩; refine sq_v rfl (v_assign rfl) rfl (sq_end (qs_n (wp_sc (wp_sq (sq_v rfl (v_move rfl) rfl (sq_v rfl (v_assign rfl) rfl (sq_end (qs_n (wp_rt ?_))))))))); obtain ⟨vs', g0, gs, q0, ow8, md8⟩ := id r8; refine qs_close [box b2 _ _, restP w h] (g0 :: h12 :: gs) (fun _ s => Sat.pickT (A := [box b2 _ _, h12, restP w h, g0]) (A' := [box b2 _ _, restP w h, g0, h12]) (Sat.open (A := [box b2 _ _, h12, restP w h]) md8 (s.pick [1, 0, 2, 3] (by decide) rfl)) [0, 2, 3, 1] (by decide) rfl) (fun md' => ?_); exact qs_ret1 rfl rfl (fin_m (i := 2) 0 rfl rfl rfl ⟨rfl, ts', _, ⟨vs', g0, h12, gs, q0, r12, ow8, md'⟩, hl8.append ⟨iota_held _ _, by rw [iota_len]; exact rfl⟩⟩)
theorem HeldL.part : ∀ {xss yss : List (List Int)} {k k' : Int}, HeldL k (xss ++ yss) k' → ∃ k1, HeldL k xss k1 ∧ HeldL k1 yss k'
  | [], yss, k, k', h => ⟨k, rfl, h⟩
  | xs :: r, yss, k, k', h => by
    obtain ⟨k1, h1, h2⟩ := HeldL.part (xss := r) (yss := yss) h.2; exact ⟨k1, ⟨h.1, h1⟩, h2⟩
end Go.Proofs.YthlmjnihihbckaaGreat
namespace Go.Proofs.YthlmjnihihbckaaGreat
set_option maxRecDepth 100000
open Go.ChangeShapes Go.WideShapes Go.ChangeAt Go.RowKit
section
variable {H : Type} {enc : TypeId × Value → H} {w : World} {base : Nat} {sp : Nat → Bool} {hd : Bool}
theorem rd_ring {fuel : Nat} {cs : List Value} {x : DataW H × List MemPlace} (h : DataW.trod enc Tryz.prog w base sp hd fuel 23 cs = some x) : ∃ k m p, cs = [num k, num m, num p] ∧ I64 k ∧ I64 m ∧ I64 p := by
  obtain ⟨hl, hf⟩ := rd_field Tryz.underlying23 h; rw [cellsOf_ty ty_23] at hl; obtain ⟨n0, y0, h0⟩ := hf 0 _ _ fd_23_0; obtain ⟨n1, y1, h1⟩ := hf 1 _ _ fd_23_1; obtain ⟨n2, y2, h2⟩ := hf 2 _ _ fd_23_2; rw [cellsOf_ty ty_3] at h0 h1 h2; obtain ⟨k, e0, i0⟩ := rd_int Tryz.underlying3 h0; obtain ⟨m, e1, i1⟩ := rd_int Tryz.underlying3 h1; obtain ⟨p, e2, i2⟩ := rd_int Tryz.underlying3 h2
  match cs, hl with
  | [a, b, c], _ =>
    simp at e0 e1 e2
    subst e0 e1 e2; exact ⟨k, m, p, rfl, i0, i1, i2⟩
end
end Go.Proofs.YthlmjnihihbckaaGreat
namespace Go.Proofs.YthlmjnihihbckaaGreat
set_option maxRecDepth 100000
open Go.ChangeShapes Go.WideShapes Go.ChangeAt Go.RowKit
section
variable {H : Type} {enc : TypeId × Value → H} {w : World} {base : Nat} {sp : Nat → Bool} {hd : Bool}
theorem rd_ten {fuel : Nat} {cs : List Value} {x : DataW H × List MemPlace} (h : DataW.trod enc Tryz.prog w base sp hd fuel 154 cs = some x) : ∃ t, TenR t cs (hp w) := by
  obtain ⟨hl, hf⟩ := rd_field Tryz.underlying154 h; rw [cellsOf_ty ty_154] at hl; obtain ⟨n0, y0, h0⟩ := hf 0 _ _ fd_154_0; obtain ⟨n1, y1, h1⟩ := hf 1 _ _ fd_154_1; obtain ⟨n2, y2, h2⟩ := hf 2 _ _ fd_154_2; rw [cellsOf_ty ty_25] at h0 h1 h2; obtain ⟨a, l, e0, r0, _⟩ := rd_ints Tryz.underlying25 Tryz.underlying3 (cellsOf_ty ty_3) h0; obtain ⟨b, d, e1, r1, _⟩ := rd_ints Tryz.underlying25 Tryz.underlying3 (cellsOf_ty ty_3) h1; obtain ⟨c, xs, e2, r2, _⟩ := rd_ints Tryz.underlying25 Tryz.underlying3 (cellsOf_ty ty_3) h2
  match cs, hl with
  | [a', b', c'], _ =>
    simp at e0 e1 e2
    subst e0 e1 e2; exact ⟨⟨l, d, xs⟩, _, _, _, rfl, r0, r1, r2⟩
theorem arg_network {v : Value} {d : DataW H} {p : List MemPlace} {r : Reach} {b : Nat} (hv : Value.okWide Tryz.prog w r b 27 v) (h : DataW.Trod enc Tryz.prog w base sp hd 27 v d p) : ∃ k m q ts op vt vo, v = netV k m q vt vo ∧ TensR ts vt (hp w) ∧ IntsR op vo (hp w) := by
  obtain ⟨cs, rfl, _⟩ := okWide_struct Tryz.underlying27 hv; obtain ⟨f, hf⟩ := h; obtain ⟨hl, hf⟩ := rd_field Tryz.underlying27 hf; rw [cellsOf_ty ty_27] at hl; obtain ⟨n0, y0, h0⟩ := hf 0 _ _ fd_27_0; obtain ⟨n1, y1, h1⟩ := hf 1 _ _ fd_27_1; obtain ⟨n2, y2, h2⟩ := hf 2 _ _ fd_27_2; rw [cellsOf_ty ty_23] at h0; rw [cellsOf_ty ty_24] at h1; rw [cellsOf_ty ty_25] at h2; obtain ⟨k, m, q, e0, _⟩ := rd_ring h0; obtain ⟨vt, ts, e1, rt⟩ := rd_rows (R := TenR) Tryz.underlying24 (cellsOf_ty ty_154) (by decide) (fun h => rd_ten h) h1; obtain ⟨vo, op, e2, ro, _⟩ := rd_ints Tryz.underlying25 Tryz.underlying3 (cellsOf_ty ty_3) h2; obtain ⟨l⟩ := cs; simp only [Value.cells] at hl e0 e1 e2
  match l, hl with
  | [a1, a2, a3, a4, a5], _ =>
    simp at e0 e1 e2
    obtain ⟨rfl, rfl, rfl⟩ := e0; subst e1 e2; exact ⟨k, m, q, ts, op, _, _, rfl, rt, ro⟩
end
end Go.Proofs.YthlmjnihihbckaaGreat
namespace Go.Proofs.YthlmjnihihbckaaGreat
set_option maxRecDepth 100000
open Go.RowKit
theorem sub_get {cs us : List Value} {k n : Nat} (h : (cs.drop k).take n = us) {j : Nat} {u : Value} (hj : us[j]? = some u) : cs[k + j]? = some u := by
  rw [← h, List.getElem?_take] at hj
  split at hj
  · rwa [List.getElem?_drop] at hj
  · cases hj
theorem eltP_sub {cs : List Value} {m : Nat} {v : Value} {h : PH} (r : RowR cs m 1 v h) {lo hi k : Nat} (h1 : lo + k < hi) (h2 : hi ≤ m) : eltP (subV v lo hi 1) k = eltP v (lo + k) := by
  obtain ⟨hl, a, c, rfl, ⟨_, h3⟩, h4⟩ := r; obtain ⟨b, o, rfl, _⟩ := h4 (by omega); have e : ¬ c = lo := by omega
  simp [subV, sliced, e, eltP, add_at, Nat.add_assoc]
section
variable {P : Program} {n : Nat} {w0 : World} {K : Env} {HS : List PH} {d : Option Tmp} {ty : TypeId} {ps : String} {af : Array Edge} {g : Option (Nat × Bool)}
/-- A store of an integer into a part of a slice of the call's own. -/
theorem m_storeSub {t : TypeId} {x y : Operand} {z : Value} {bytes : Nat} {agg : Bool} {lo hi k : Nat} {sv : Value} {a : Int} {xs : List Int} {h : PH} (p : Nat) (ht : TyF P t z 1 bytes agg) (hx : ev K x = some (eltP (subV sv lo hi 1) k)) (hy : ev K y = some (num a))
    (hp' : HS[p]? = some h) (r : IntsO xs sv h) (h1 : lo + k < hi) (h2 : hi ≤ xs.length) :
    StepX P n w0 K HS ⟨d, .store t x y, ty, ps, af, g⟩ h (fun v' h' => v' = undef ∧ IntsO (xs.set (lo + k) a) sv h') :=
  m_storeI p ht (by rw [hx, eltP_sub r.toR h1 h2]) hy hp' r (by omega)
/-- 'clear(s)' on a slice of integers of the call's own. -/
theorem m_clearI {t : TypeId} {x : Operand} {xs : List Int} {bytes : Nat} {v : Value} {h : PH} (p : Nat) (ht : P.underlying t = some (.slice 3)) (he : TyF P 3 (num 0) 1 bytes false) (hx : ev K x = some v) (hp' : HS[p]? = some h) (r : IntsO xs v h) :
    StepX P n w0 K HS ⟨d, .call ⟨.builtin .clear, #[x], #[t]⟩, ty, ps, af, g⟩ h (fun _ h' => IntsO (List.replicate xs.length 0) v h') :=
  stepx_run fun a w e s => by
    obtain ⟨i, hi, hz', hsz, hb⟩ := he.get; have hle := s.get p hp'; obtain ⟨hcl, hr⟩ := r; have ex : ∀ v' w', (Builtin.clear_ #[t] ty #[v]).run P w = .ok v' w' → (execOp a.eval ⟨d, .call ⟨.builtin .clear, #[x], #[t]⟩, ty, ps, af, g⟩).run P w = .ok (.value v') w' := fun v' w' hr => by
      simp [execOp, resolve, invoke, builtin, e.ev hx, hr]
    rcases hr with ⟨rfl, h0, rfl⟩ | ⟨gb, cap, cur, rfl, rfl, h3, h4, h5, h6⟩
    · have hx0 : xs = [] := List.eq_nil_of_length_eq_zero (by simpa using h0); subst hx0; exact ⟨.tuple #[], w, emp, ex _ _ (by simp [Builtin.clear_, run_underlying ht]), Upd.refl w, IntsO.nil⟩
    · by_cases h0 : xs.length = 0
      · have hx0 : xs = [] := List.eq_nil_of_length_eq_zero h0; subst hx0; exact ⟨.tuple #[], w, _, ex _ _ (by simp [Builtin.clear_, run_underlying ht]), ⟨rfl, rfl, rfl, Nat.le_refl _, fun _ _ _ => rfl, hle, fun j o ho => .inl (by rw [ho]; simp)⟩, rfl, .inr ⟨gb, cap, cur, rfl, rfl, h3, h4, h5, h6⟩⟩
      · have hgb : w.heap[gb]? = some (.cells cur.toArray 3 (0, 0)) := hle gb _ (by simp [box]); have hz : (Builtin.zeroCells (num 0).cells xs.length).toList = ints (List.replicate xs.length 0) := by
          have := madeCells_toList [num 0] xs.length; have e1 : (List.replicate xs.length [num 0]).flatten = ints (List.replicate xs.length 0) := by
            rw [List.flatten_replicate_singleton]; simp [ints]
          rw [← e1, ← this]
          rfl
        have hst := run_storeCells_at P gb 0 3 (ints (List.replicate xs.length 0)) 0 cur.toArray w hgb (by simp [ints]; omega) (ints_one _); simp only [Nat.add_zero] at hst; refine ⟨.tuple #[], w.setRow gb (cur.take 0 ++ ints (List.replicate xs.length 0) ++ cur.drop (0 + (ints (List.replicate xs.length 0)).length)).toArray, _, ex _ _ ?_, upd_setRow hle _, by simp [ints], .inr ⟨gb, cap, _, by rw [List.length_replicate], rfl, by simpa using h3, h4, ?_, ?_⟩⟩
        · rw [show Builtin.clear_ #[t] ty #[.slice (some ⟨gb, 0, none⟩) xs.length cap] = (do
              match ← underlying t, (Value.slice (some ⟨gb, 0, none⟩) xs.length cap) with
              | _, .map none | _, .slice none _ _ | _, .slice _ 0 _ => pure ()
              | _, .map (some r) =>
                let .map _ clock ← getObj r | stuck "clear: map expected"
                setObj r (.map #[] clock)
              | .slice elem, .slice (some a) n _ => storeCells a (Builtin.zeroCells (← zeroValue elem).cells n).toList
              | _, _ => stuck "clear: map or slice expected"
              pure (.tuple #[])) from rfl]
          obtain ⟨m, hm⟩ : ∃ m, xs.length = m + 1 := ⟨xs.length - 1, by omega⟩
          rw [hm] at hz hst ⊢; simp only [Sem.run_bind, run_underlying ht, Result.andThen_ok, run_zero he, hz, hst, Sem.run_pure]
        · simp only [ints_length, List.length_replicate, List.length_append, List.length_take, List.length_drop]; omega
        · simp only [ints_length, List.length_replicate, Nat.mul_one, List.take_zero, List.nil_append]; rw [List.take_append_of_le_length (by simp [ints])]; exact List.take_of_length_le (by simp [ints])
end
theorem ksub {K : Env} {t : Nat} {a b : Int} (h : K.lookup t = some (num a)) (e : a = b) : K.lookup t = some (num b) := e ▸ h
/-- A part beside another. -/
theorem Sat.getR {w0 w : World} {HS : List PH} (s : Sat w0 HS w) (i j : Nat) {h q : PH} (hi : HS[i]? = some h) (hj : HS[j]? = some q) (hne : decide (i ≠ j) = true) : PLe q (restP w h) := fun k o e => by
  have h1 := s.get j hj k o e
  rcases sepL_get s.sep hi hj (of_decide_eq_true hne) k with h2 | h2
  · simp only [restP, h2]; exact h1
  · rw [h2] at e; cases e
def bools (xs : List Bool) : List Value := xs.map Value.bool
theorem bools_length (xs : List Bool) : (bools xs).length = xs.length := by simp [bools]
theorem bools_get {xs : List Bool} {k : Nat} (h : k < xs.length) : (bools xs)[k]? = some (.bool (xs.getD k false)) := by
  simp [bools, List.getD, h]
theorem bools_one (xs : List Bool) : ∀ a ∈ bools xs, a.oneCell' = true := by
  intro a ha; simp only [bools, List.mem_map] at ha; obtain ⟨x, _, rfl⟩ := ha
  rfl
theorem bools_append (xs ys : List Bool) : bools (xs ++ ys) = bools xs ++ bools ys := by simp [bools]
theorem bools_set (xs : List Bool) (k : Nat) (x : Bool) : (bools xs).set k (.bool x) = bools (xs.set k x) := by simp [bools, List.map_set]
def BoolsR (xs : List Bool) (v : Value) (h : PH) : Prop := RowR (bools xs) xs.length 1 v h
def BoolsO (xs : List Bool) (v : Value) (h : PH) : Prop := RowO 4 (bools xs) xs.length 1 v h
theorem BoolsR.mono {xs : List Bool} {v : Value} {h h' : PH} (r : BoolsR xs v h) (l : PLe h h') : BoolsR xs v h' := RowR.mono r l
theorem BoolsO.toR {xs : List Bool} {v : Value} {h : PH} (r : BoolsO xs v h) : BoolsR xs v h := RowO.toR r
theorem BoolsR.sl {xs : List Bool} {v : Value} {h : PH} (r : BoolsR xs v h) : SlL v xs.length := RowR.sl r
theorem BoolsR.le {xs : List Bool} {v : Value} {h : PH} (r : BoolsR xs v h) : (xs.length : Int) ≤ 9223372036854775807 := by
  obtain ⟨_, a, c, _, ⟨h, _⟩, _⟩ := r
  unfold maxLen at h
  omega
theorem BoolsO.nil : BoolsO [] (.slice none 0 0) emp := ⟨rfl, .inl ⟨rfl, rfl, rfl⟩⟩
section
variable {P : Program} {n : Nat} {w0 : World} {K : Env} {HS : List PH} {d : Option Tmp} {ty : TypeId} {ps : String} {af : Array Edge} {g : Option (Nat × Bool)}
theorem v_idxB {t e' : TypeId} {x ix : Operand} {z : Value} {bytes : Nat} {agg : Bool} {v : Value} {k : IntKind} {i : Int} {xs : List Bool} {h : PH} (ht : P.underlying t = some (.slice e')) (he : TyF P e' z 1 bytes agg)
    (hx : ev K x = some v) (hi : ev K ix = some (.int k i)) (r : BoolsR xs v h) (h0 : 0 ≤ i) (h1 : i < xs.length) : StepV P n w0 K HS ⟨d, .indexAddr t x ix, ty, ps, af, g⟩ (eltP v i.toNat) := by
  have := v_indexAddr (P := P) (n := n) (w0 := w0) (HS := HS) (d := d) (ty := ty) (ps := ps) (af := af) (g := g) ht he hx hi r (by decide) h0 h1
  rwa [Nat.mul_one] at this
theorem v_loadBl {t : TypeId} {z : Value} {bytes k : Nat} {x : Operand} {v : Value} {xs : List Bool} {h : PH} (p : Nat) (ht : TyF P t z 1 bytes false) (hx : ev K x = some (eltP v k)) (hp : HS[p]? = some h) (r : BoolsR xs v h) (hk : k < xs.length) :
    StepV P n w0 K HS ⟨d, .load t x, ty, ps, af, g⟩ (.bool (xs.getD k false)) := v_loadE p ht hx hp r (bools_get hk)
theorem m_storeBl {t : TypeId} {x y : Operand} {z : Value} {bytes : Nat} {agg : Bool} {k : Nat} {sv : Value} {a : Bool} {xs : List Bool} {h : PH} (p : Nat) (ht : TyF P t z 1 bytes agg) (hx : ev K x = some (eltP sv k)) (hy : ev K y = some (.bool a))
    (hp' : HS[p]? = some h) (r : BoolsO xs sv h) (hk : k < xs.length) :
    StepX P n w0 K HS ⟨d, .store t x y, ty, ps, af, g⟩ h (fun v' h' => v' = undef ∧ BoolsO (xs.set k a) sv h') := by
  have hk' : k < (bools xs).length := by rw [bools_length]; exact hk
  have := m_storeE (P := P) (n := n) (w0 := w0) (d := d) (ty := ty) (ps := ps) (af := af) (g := g) p ht hx hy (us := [.bool a]) rfl rfl (by simp [Value.oneCell']) hp' r (by decide) (by omega); rw [set_eq_parts hk', bools_set] at this
  unfold BoolsO
  rw [List.length_set]; exact this
theorem x_makeBl {t : TypeId} {x y : Operand} {bytes : Nat} {m : Int} (ht : P.underlying t = some (.slice 4)) (he : TyF P 4 (.bool false) 1 bytes false)
    (hx : ev K x = some (.int .i64 m)) (hy : ev K y = some (.int .i64 m)) (h0 : 0 ≤ m) (h1 : bytes * m ≤ 281474976710656) (h2 : m ≤ 9223372036854775807) :
    StepX P n w0 K HS ⟨d, .makeSlice t x y, ty, ps, af, g⟩ emp (BoolsO (List.replicate m.toNat false)) := by
  have := x_make (P := P) (n := n) (w0 := w0) (HS := HS) (d := d) (ty := ty) (ps := ps) (af := af) (g := g) ht he (zs := [.bool false]) rfl rfl hx hy h0 h1 h2; have e1 : (List.replicate m.toNat [Value.bool false]).flatten = bools (List.replicate m.toNat false) := by
    rw [List.flatten_replicate_singleton]; simp [bools]
  rw [e1] at this
  unfold BoolsO
  rw [List.length_replicate]; exact this
theorem x_make0I {t : TypeId} {x y : Operand} {bytes : Nat} {m : Int} (ht : P.underlying t = some (.slice 3)) (he : TyF P 3 (num 0) 1 bytes false)
    (hx : ev K x = some (.int .i64 0)) (hy : ev K y = some (.int .i64 m)) (h0 : 0 ≤ m) (h1 : bytes * m ≤ 281474976710656) (h2 : m ≤ 9223372036854775807) :
    StepX P n w0 K HS ⟨d, .makeSlice t x y, ty, ps, af, g⟩ emp (IntsO []) :=
  x_make0 ht he (zs := [num 0]) rfl rfl hx hy h0 h1 h2
theorem m_appBl {t : TypeId} {x y : Operand} {xs ys : List Bool} {bytes : Nat} {v u : Value} {h hy' : PH} (p q : Nat) (ht : P.underlying t = some (.slice 4)) (he : TyF P 4 (.bool false) 1 bytes false) (hb : bytes = 1)
    (hx : ev K x = some v) (hy : ev K y = some u) (hp' : HS[p]? = some h) (r : BoolsO xs v h) (hq : HS[q]? = some hy') (ru : BoolsR ys u hy')
    (h47 : xs.length + ys.length ≤ 17592186044416) :
    StepX P n w0 K HS ⟨d, .call ⟨.builtin .append, #[x, y], #[t, t]⟩, ty, ps, af, g⟩ h (BoolsO (xs ++ ys)) := by
  subst hb; have := m_append (P := P) (n := n) (w0 := w0) (HS := HS) (d := d) (ty := ty) (ps := ps) (af := af) (g := g) p q ht he (zs := [.bool false]) rfl rfl (by decide) hx hy hp' r hq ru (bools_one ys) (by unfold maxLen; omega) (by omega)
  unfold BoolsO
  rw [List.length_append, bools_append]; exact this
end
section
variable {P : Program} {n : Nat} {w0 : World} {K : Env} {HS : List PH} {Q : Exit → Act → World → Prop}
end
end Go.Proofs.YthlmjnihihbckaaGreat
namespace Go.Proofs.YthlmjnihihbckaaGreat
set_option maxRecDepth 100000
open Go.RowKit
/-- An element of a ring. -/
def InR (k p n : Int) (xs : List Int) : Prop := xs.length = (widthI k n).toNat ∧ ∀ a ∈ xs, 0 ≤ a ∧ a ≤ topI k p n
theorem InR.at {k p n : Int} {xs : List Int} (h : InR k p n xs) (_ : ringL k p n) (i : Nat) (hi : i < xs.length) : 0 ≤ xs.getD i 0 ∧ xs.getD i 0 ≤ topI k p n := h.2 _ (mem_getD hi)
theorem InR.len {k p n : Int} {xs : List Int} (h : InR k p n xs) (hr : ringL k p n) : 1 ≤ xs.length ∧ xs.length ≤ 6 ∧ (xs.length : Int) = widthI k n := by
  have := width_range hr; have := h.1
  omega
theorem top_poly {k p n : Int} (h : ringL k p n) (hk : k = 2 ∨ k = 7 ∨ k = 8) : topI k p n = p - 1 ∧ 2 ≤ p ∧ p ≤ 1000003 := by
  have hp2 : ∀ {m : Int}, primeB m = true → 2 ≤ m ∧ m ≤ 1000003 := fun h => ⟨(primeB_iff.1 h).1, (primeB_iff.1 h).2.1⟩
  unfold ringL at h
  refine ⟨?_, ?_⟩
  · unfold topI
    rw [if_neg (by omega), if_neg (by omega), if_neg (by omega)]
  · rcases h with h | h | h | h | h | h
    · omega
    · exact hp2 h.2.1
    · omega
    · omega
    · exact hp2 h.2.1
    · exact hp2 h.2.1
theorem top_cap {k p n : Int} (h : ringL k p n) (hk : k = 3 ∨ k = 4 ∨ k = 5) : topI k p n = p ∧ 1 ≤ p ∧ p ≤ 1000000 := by
  unfold ringL at h
  refine ⟨?_, by omega⟩
  unfold topI
  rw [if_neg (by omega), if_pos (by omega)]
theorem kind_rest {k p n : Int} (h : ringL k p n) (h1 : k ≠ 1) (h2 : k ≠ 2) (h3 : k ≠ 3) (h4 : k ≠ 4) (h5 : k ≠ 5) (h6 : k ≠ 6) : k = 7 ∨ k = 8 := by
  unfold ringL at h; omega
theorem kind_rest' {k p n : Int} (h : ringL k p n) (h1 : k ≠ 1) (h3 : k ≠ 3) (h4 : k ≠ 4) (h5 : k ≠ 5) (h6 : k ≠ 6) : k = 2 ∨ k = 7 ∨ k = 8 := by
  unfold ringL at h; omega
theorem mul_in {a b t u : Int} (ha : 0 ≤ a ∧ a ≤ t) (hb : 0 ≤ b ∧ b ≤ u) : 0 ≤ a * b ∧ a * b ≤ t * u :=
  ⟨Int.mul_nonneg ha.1 hb.1, Int.mul_le_mul ha.2 hb.2 hb.1 (by omega)⟩
theorem mul_in6 {a b t u : Int} (ha : 0 ≤ a ∧ a ≤ t) (hb : 0 ≤ b ∧ b ≤ u) (ht : t ≤ 1048576) (hu : u ≤ 1048576) : 0 ≤ a * b ∧ a * b ≤ 1099511627776 := by
  have h := mul_in ha hb; have : t * u ≤ 1048576 * 1048576 := Int.mul_le_mul ht hu (by omega) (by omega)
  omega
theorem tmod_in {a p : Int} (ha : 0 ≤ a) (hp : 1 ≤ p) : 0 ≤ a.tmod p ∧ a.tmod p ≤ p - 1 := by
  rw [Int.tmod_eq_emod_of_nonneg ha]; have h1 := Int.emod_nonneg a (show p ≠ 0 by omega); have h2 := Int.emod_lt_of_pos a (show 0 < p by omega)
  omega
def mulStep (k p : Int) (x y out : List Int) (i j : Nat) : List Int :=
  if i + j < out.length then out.set (i + j) ((out.getD (i + j) 0 + x.getD i 0 * y.getD j 0).tmod p)
  else if k = 8 then out.set (i + j - 4) ((out.getD (i + j - 4) 0 + (p - x.getD i 0) * y.getD j 0).tmod p) else out
def mulRow (k p : Int) (x y : List Int) (i : Nat) (out : List Int) (m : Nat) : List Int := (List.range m).foldl (fun o j => mulStep k p x y o i j) out
def mulTo (k p : Int) (x y out : List Int) (m : Nat) : List Int := (List.range m).foldl (fun o i => mulRow k p x y i o y.length) out
theorem mulRow_step (k p : Int) (x y : List Int) (i : Nat) (out : List Int) (m : Nat) : mulRow k p x y i out (m + 1) = mulStep k p x y (mulRow k p x y i out m) i m := by simp [mulRow, List.range_succ]
theorem mulTo_step (k p : Int) (x y out : List Int) (m : Nat) : mulTo k p x y out (m + 1) = mulRow k p x y m (mulTo k p x y out m) y.length := by simp [mulTo, List.range_succ]
/-- Numbers below p, as many as the width says. -/
def PolyIn (k p n : Int) (xs : List Int) : Prop := xs.length = (widthI k n).toNat ∧ ∀ a ∈ xs, 0 ≤ a ∧ a ≤ p - 1
theorem PolyIn.set {k p n : Int} {xs : List Int} (h : PolyIn k p n xs) (i : Nat) {a : Int} (ha : 0 ≤ a ∧ a ≤ p - 1) : PolyIn k p n (xs.set i a) :=
  ⟨by rw [List.length_set]; exact h.1, fun b hb => by
    rcases List.mem_or_eq_of_mem_set hb with hb | rfl
    · exact h.2 b hb
    · exact ha⟩
theorem PolyIn.at {k p n : Int} {xs : List Int} (h : PolyIn k p n xs) (hp : 1 ≤ p) (i : Nat) : 0 ≤ xs.getD i 0 ∧ xs.getD i 0 ≤ p - 1 := by
  by_cases hi : i < xs.length
  · exact h.2 _ (mem_getD hi)
  · simp only [List.getD, List.getElem?_eq_none (Nat.le_of_not_lt hi)]
    show (0:Int) ≤ 0 ∧ (0:Int) ≤ p - 1
    omega
theorem InR.poly {k p n : Int} {xs : List Int} (h : InR k p n xs) (hr : ringL k p n) (hk : k = 2 ∨ k = 7 ∨ k = 8) : PolyIn k p n xs := by
  have := (top_poly hr hk).1; refine ⟨h.1, fun a ha => ?_⟩; rw [← this]; exact h.2 a ha
theorem PolyIn.inR {k p n : Int} {xs : List Int} (h : PolyIn k p n xs) (hr : ringL k p n) (hk : k = 2 ∨ k = 7 ∨ k = 8) : InR k p n xs := by
  have := (top_poly hr hk).1; refine ⟨h.1, fun a ha => ?_⟩; rw [this]; exact h.2 a ha
theorem poly_zero {k p n : Int} (hp : 1 ≤ p) (m : Nat) (hm : m = (widthI k n).toNat) : PolyIn k p n (List.replicate m 0) := by
  subst hm; refine ⟨by simp, fun a ha => ?_⟩; have := List.eq_of_mem_replicate ha
  omega
theorem mulStep_in {k p n : Int} {x y out : List Int} {i j : Nat} (hp : 1 ≤ p) (hx : PolyIn k p n x) (hy : PolyIn k p n y) (ho : PolyIn k p n out) : PolyIn k p n (mulStep k p x y out i j) := by
  have hxi := hx.at hp i; have hyj := hy.at hp j
  unfold mulStep
  split
  · refine ho.set _ (tmod_in ?_ hp); have := (mul_in hxi hyj).1; have := (ho.at hp (i + j)).1
    omega
  · split
    · refine ho.set _ (tmod_in ?_ hp); have := (mul_in (a := p - x.getD i 0) (t := p) ⟨by omega, by omega⟩ hyj).1; have := (ho.at hp (i + j - 4)).1
      omega
    · exact ho
theorem mulRow_in {k p n : Int} {x y out : List Int} {i : Nat} (hp : 1 ≤ p) (hx : PolyIn k p n x) (hy : PolyIn k p n y) (ho : PolyIn k p n out) : ∀ m, PolyIn k p n (mulRow k p x y i out m)
  | 0 => by simpa [mulRow] using ho
  | m + 1 => by rw [mulRow_step]; exact mulStep_in hp hx hy (mulRow_in hp hx hy ho m)
theorem mulTo_in {k p n : Int} {x y out : List Int} (hp : 1 ≤ p) (hx : PolyIn k p n x) (hy : PolyIn k p n y) (ho : PolyIn k p n out) : ∀ m, PolyIn k p n (mulTo k p x y out m)
  | 0 => by simpa [mulTo] using ho
  | m + 1 => by rw [mulTo_step]; exact mulRow_in hp hx hy (mulTo_in hp hx hy ho m) _
open Classical in
noncomputable def mulL (k p n : Int) (x y : List Int) : List Int :=
  if k = 1 ∨ k = 5 then [min (x.getD 0 0) (y.getD 0 0)]
  else if k = 2 then [(x.getD 0 0 * y.getD 0 0).tmod p]
  else if k = 3 then [min (x.getD 0 0 * y.getD 0 0) p]
  else if k = 4 then [min (x.getD 0 0 + y.getD 0 0) p]
  else if k = 6 then [(((x.getD 0 0).toNat &&& (y.getD 0 0).toNat : Nat) : Int)]
  else mulTo k p x y (List.replicate (widthI k n).toNat 0) x.length
theorem one_R {k p n a : Int} (h7 : k ≠ 7) (h8 : k ≠ 8) (h : 0 ≤ a ∧ a ≤ topI k p n) : InR k p n [a] := ⟨by rw [width_1 h7 h8]; rfl, fun b hb => by simp at hb; subst hb; exact h⟩
theorem and_le (a b : Int) (ha : 0 ≤ a) : 0 ≤ ((a.toNat &&& b.toNat : Nat) : Int) ∧ ((a.toNat &&& b.toNat : Nat) : Int) ≤ a := by
  have : a.toNat &&& b.toNat ≤ a.toNat := Nat.and_le_left
  omega
theorem mulL_in {k p n : Int} {x y : List Int} (hr : ringL k p n) (hx : InR k p n x) (hy : InR k p n y) : InR k p n (mulL k p n x y) := by
  have h1 := hx.len hr; have h2 := hy.len hr; have hx0 := hx.at hr 0 (by omega); have hy0 := hy.at hr 0 (by omega); have hw := width_range hr; have hm := (mul_in hx0 hy0).1
  unfold mulL
  split
  · exact one_R (by omega) (by omega) (by omega)
  · split
    · have ht := top_poly hr (by omega); refine one_R (by omega) (by omega) ?_; have := tmod_in hm (show 1 ≤ p by omega)
      omega
    · split
      · have ht := top_cap hr (by omega); exact one_R (by omega) (by omega) (by omega)
      · split
        · have ht := top_cap hr (by omega); exact one_R (by omega) (by omega) (by omega)
        · split
          · have := and_le (x.getD 0 0) (y.getD 0 0) hx0.1; exact one_R (by omega) (by omega) (by omega)
          · have hk := kind_rest hr (by omega) (by omega) (by omega) (by omega) (by omega) (by omega); have ht := top_poly hr (by omega); exact (mulTo_in (by omega) (hx.poly hr (by omega)) (hy.poly hr (by omega)) (poly_zero (by omega) _ rfl) _).inR hr (by omega)
theorem and_bool {a b : Int} (ha : 0 ≤ a ∧ a ≤ 1) (hb : 0 ≤ b ∧ b ≤ 1) : ((a.toNat &&& b.toNat : Nat) : Int) = min a b := by
  have e1 : a = 0 ∨ a = 1 := by omega
  have e2 : b = 0 ∨ b = 1 := by omega
  rcases e1 with rfl | rfl <;> rcases e2 with rfl | rfl <;> decide
theorem rep_set1 {m : Nat} (hm : m = 1) (a : Int) : (List.replicate m (0 : Int)).set 0 a = [a] := by subst hm; rfl
theorem top_1 {k p n : Int} (h : k = 1) : topI k p n = 1 := by simp [topI, h]
theorem fin1 {k p n a : Int} {x y : List Int} {v : Value} {h : PH} {m : Nat} (q : IntsO ((List.replicate m 0).set 0 a) v h) (hm : m = 1) (e : mulL k p n x y = [a]) : IntsO (mulL k p n x y) v h := by
  rw [e]; rwa [rep_set1 hm] at q
theorem mulL_poly {k p n : Int} {x y : List Int} (hk : k = 7 ∨ k = 8) : mulL k p n x y = mulTo k p x y (List.replicate (widthI k n).toNat 0) x.length := by
  unfold mulL
  rw [if_neg (by omega), if_neg (by omega), if_neg (by omega), if_neg (by omega), if_neg (by omega)]
set_option maxHeartbeats 1000000 in
theorem ct_s_l02Mul (k p n : Int) (x y : List Int) (v u : Value) (w : World) (h : ringL k p n) (r : IntsR x v (hp w)) (r' : IntsR y u (hp w)) (hx : InR k p n x) (hy : InR k p n y) :
    Calls Tryz.prog 164 [ringV k p n, v, u].toArray w (Ret w emp (IntsO (mulL k p n x y))) := by
  have h1 := hx.len h; have h2 := hy.len h; have hx0 := hx.at h 0 (by omega); have hy0 := hy.at h 0 (by omega); have hw := width_range h; have htr := top_range h; have hrp := ring_p h; have hm := mul_in6 hx0 hy0 htr.2 htr.2; refine calls_in Tryz.func164 rfl Tryz.ntmps164 rfl (Sat.start w) ?_; have hle0 := r.le; have hle1 := r'.le; refine wp_sc (wp_sq ?_); refine sq_x rfl (x_box rfl rfl) rfl ?_; rintro _ _ ⟨b3, rfl, rfl⟩; refine sq_v rfl (v_assign rfl) rfl (sq_end (qs_n (wp_sc (wp_sq (sq_v rfl (v_move rfl) rfl (sq_v rfl (v_len Tryz.underlying25 rfl r.sl) rfl ?_)))))); refine sq_x rfl (x_makeI Tryz.underlying25 ty_3 rfl rfl (by omega) (by omega) (by omega)) rfl ?_; intro v14 h14 r14; refine sq_v rfl (v_assign rfl) rfl (sq_end (qs_n (wp_sc (wp_sc (wp_sq (sq_v rfl (v_fieldAddr fd_37_0 ty_3 (by decide) rfl) rfl (sq_v rfl (v_loadB 1 ty_3 rfl rfl rfl) rfl (sq_end (qs_n (wp_bl (wp_sc (wp_sc (wp_sq (sq_v rfl (v_eql rfl rfl) rfl (sq_v rfl (v_assign rfl) rfl (sq_end (qs_n ?_))))))))))))))))); refine wp_cSd rfl (fun c85 => ?_) (fun c85 => ?_)
  · refine wp_sk (qs_n (wp_ct rfl (wp_rj 9 [(0, true), (1, true), (2, true), (3, true), (4, true), (5, true), (6, true), (7, true), (8, true), (9, false)] mixed_ok (by kernel_rfl) (rj_v rfl rfl (v_move rfl) rfl (rj_v rfl rfl (v_move rfl) rfl (rj_v rfl rfl (v_idxI Tryz.underlying25 ty_3 rfl rfl r (by omega) (by omega)) rfl (rj_v rfl rfl (v_loadI (k := 0) 2 ty_3 rfl rfl r (by omega)) rfl (rj_v rfl rfl (v_move rfl) rfl (rj_v rfl rfl (v_idxI Tryz.underlying25 ty_3 rfl rfl r' (by omega) (by omega)) rfl (rj_v rfl rfl (v_loadI (k := 0) 2 ty_3 rfl rfl r' (by omega)) rfl (rj_v rfl rfl (v_and rfl rfl ⟨by omega, by omega⟩ ⟨by omega, by omega⟩) rfl ?_))))))))))); refine rj_v rfl rfl (v_idxI Tryz.underlying25 ty_3 rfl rfl r14.toR (by omega) (by first | omega | (simp; omega) | (simp only [List.length_append, List.length_cons, List.length_nil]; omega) | (rw [List.length_set]; omega))) rfl ?_; refine rj_m 0 rfl rfl rfl rfl (m_storeI (k := 0) 0 ty_3 rfl rfl rfl r14 (by first | omega | (simp; omega) | (simp only [List.length_append, List.length_cons, List.length_nil]; omega) | (rw [List.length_set]; omega))) rfl ?_; rintro _ h_q17_9 ⟨rfl, q17_9⟩; refine rj_end (qs_bn (qs_n (wp_sc (wp_sq (sq_v rfl (v_move rfl) rfl (sq_v rfl (v_assign rfl) rfl (sq_end (qs_n (wp_rt ?_))))))))); exact qs_ret1 rfl rfl (fin_t 0 (i := 2) rfl rfl rfl (fin1 q17_9 (by have := width_1 (k := k) (n := n) (by omega) (by omega); omega) (by have := top_1 (p := p) (n := n) c85; rw [and_bool (by omega) (by omega)]; simp [mulL, c85])))
  · refine wp_sq (sq_v rfl (v_eql rfl rfl) rfl (sq_v rfl (v_assign rfl) rfl (sq_end (qs_n ?_)))); refine wp_cSd rfl (fun c85 => ?_) (fun c85 => ?_)
    · refine wp_rj 9 [(0, true), (1, true), (2, true), (3, true), (4, true), (5, true), (6, true), (7, true), (8, true), (9, false)] mixed_ok (by kernel_rfl) (rj_v rfl rfl (v_move rfl) rfl (rj_v rfl rfl (v_move rfl) rfl (rj_v rfl rfl (v_idxI Tryz.underlying25 ty_3 rfl rfl r (by omega) (by omega)) rfl (rj_v rfl rfl (v_loadI (k := 0) 2 ty_3 rfl rfl r (by omega)) rfl (rj_v rfl rfl (v_move rfl) rfl (rj_v rfl rfl (v_idxI Tryz.underlying25 ty_3 rfl rfl r' (by omega) (by omega)) rfl (rj_v rfl rfl (v_loadI (k := 0) 2 ty_3 rfl rfl r' (by omega)) rfl (rj_v rfl rfl (v_and rfl rfl ⟨by omega, by omega⟩ ⟨by omega, by omega⟩) rfl ?_)))))))); refine rj_v rfl rfl (v_idxI Tryz.underlying25 ty_3 rfl rfl r14.toR (by omega) (by first | omega | (simp; omega) | (simp only [List.length_append, List.length_cons, List.length_nil]; omega) | (rw [List.length_set]; omega))) rfl ?_; refine rj_m 0 rfl rfl rfl rfl (m_storeI (k := 0) 0 ty_3 rfl rfl rfl r14 (by first | omega | (simp; omega) | (simp only [List.length_append, List.length_cons, List.length_nil]; omega) | (rw [List.length_set]; omega))) rfl ?_; rintro _ h_q17_9 ⟨rfl, q17_9⟩; refine rj_end (qs_bn (qs_n (wp_sc (wp_sq (sq_v rfl (v_move rfl) rfl (sq_v rfl (v_assign rfl) rfl (sq_end (qs_n (wp_rt ?_))))))))); exact qs_ret1 rfl rfl (fin_t 0 (i := 2) rfl rfl rfl (fin1 q17_9 (by have := width_1 (k := k) (n := n) (by omega) (by omega); omega) (by simp [mulL, c85])))
    · refine wp_sc (wp_sq (sq_v rfl (v_eql rfl rfl) rfl (sq_v rfl (v_assign rfl) rfl (sq_end (qs_n ?_))))); refine wp_cd rfl (fun c97 => ?_) (fun c97 => ?_)
      · refine wp_rj 12 [(0, true), (1, true), (2, true), (3, true), (4, true), (5, true), (6, true), (7, true), (8, true), (9, true), (10, true), (11, true), (12, false)] mixed_ok (by kernel_rfl) (rj_v rfl rfl (v_move rfl) rfl (rj_v rfl rfl (v_move rfl) rfl (rj_v rfl rfl (v_idxI Tryz.underlying25 ty_3 rfl rfl r (by omega) (by omega)) rfl (rj_v rfl rfl (v_loadI (k := 0) 2 ty_3 rfl rfl r (by omega)) rfl (rj_v rfl rfl (v_move rfl) rfl (rj_v rfl rfl (v_idxI Tryz.underlying25 ty_3 rfl rfl r' (by omega) (by omega)) rfl (rj_v rfl rfl (v_loadI (k := 0) 2 ty_3 rfl rfl r' (by omega)) rfl ?_))))))); refine rj_v rfl rfl (v_mul rfl rfl ((by unfold I64; omega))) rfl ?_; refine rj_v rfl rfl (v_fieldAddr fd_37_1 ty_3 (by decide) rfl) rfl (rj_v rfl rfl (v_loadB 1 ty_3 rfl rfl rfl) rfl ?_); refine rj_v rfl rfl (v_rem rfl rfl (by have := top_poly h (.inl c97); omega)) rfl ?_; refine rj_v rfl rfl (v_idxI Tryz.underlying25 ty_3 rfl rfl r14.toR (by omega) (by first | omega | (simp; omega) | (simp only [List.length_append, List.length_cons, List.length_nil]; omega) | (rw [List.length_set]; omega))) rfl ?_; refine rj_m 0 rfl rfl rfl rfl (m_storeI (k := 0) 0 ty_3 rfl rfl rfl r14 (by first | omega | (simp; omega) | (simp only [List.length_append, List.length_cons, List.length_nil]; omega) | (rw [List.length_set]; omega))) rfl ?_; rintro _ h_q19_12 ⟨rfl, q19_12⟩; refine rj_end (qs_bn (qs_n (wp_sc (wp_sq (sq_v rfl (v_move rfl) rfl (sq_v rfl (v_assign rfl) rfl (sq_end (qs_n (wp_rt ?_))))))))); exact qs_ret1 rfl rfl (fin_t 0 (i := 2) rfl rfl rfl (fin1 q19_12 (by have := width_1 (k := k) (n := n) (by omega) (by omega); omega) (by simp [mulL, c97])))
      · refine wp_sc (wp_sq (sq_v rfl (v_eql rfl rfl) rfl (sq_v rfl (v_assign rfl) rfl (sq_end (qs_n ?_))))); refine wp_cd rfl (fun c111 => ?_) (fun c111 => ?_)
        · refine wp_rj 12 [(0, true), (1, true), (2, true), (3, true), (4, true), (5, true), (6, true), (7, true), (8, true), (9, true), (10, true), (11, true), (12, false)] mixed_ok (by kernel_rfl) (rj_v rfl rfl (v_move rfl) rfl (rj_v rfl rfl (v_move rfl) rfl (rj_v rfl rfl (v_idxI Tryz.underlying25 ty_3 rfl rfl r (by omega) (by omega)) rfl (rj_v rfl rfl (v_loadI (k := 0) 2 ty_3 rfl rfl r (by omega)) rfl (rj_v rfl rfl (v_move rfl) rfl (rj_v rfl rfl (v_idxI Tryz.underlying25 ty_3 rfl rfl r' (by omega) (by omega)) rfl (rj_v rfl rfl (v_loadI (k := 0) 2 ty_3 rfl rfl r' (by omega)) rfl ?_))))))); refine rj_v rfl rfl (v_mul rfl rfl ((by unfold I64; omega))) rfl ?_; refine rj_v rfl rfl (v_fieldAddr fd_37_1 ty_3 (by decide) rfl) rfl (rj_v rfl rfl (v_loadB 1 ty_3 rfl rfl rfl) rfl (rj_v rfl rfl (v_min rfl rfl) rfl ?_)); refine rj_v rfl rfl (v_idxI Tryz.underlying25 ty_3 rfl rfl r14.toR (by omega) (by first | omega | (simp; omega) | (simp only [List.length_append, List.length_cons, List.length_nil]; omega) | (rw [List.length_set]; omega))) rfl ?_; refine rj_m 0 rfl rfl rfl rfl (m_storeI (k := 0) 0 ty_3 rfl rfl rfl r14 (by first | omega | (simp; omega) | (simp only [List.length_append, List.length_cons, List.length_nil]; omega) | (rw [List.length_set]; omega))) rfl ?_; rintro _ h_q21_12 ⟨rfl, q21_12⟩; refine rj_end (qs_bn (qs_n (wp_sc (wp_sq (sq_v rfl (v_move rfl) rfl (sq_v rfl (v_assign rfl) rfl (sq_end (qs_n (wp_rt ?_))))))))); exact qs_ret1 rfl rfl (fin_t 0 (i := 2) rfl rfl rfl (fin1 q21_12 (by have := width_1 (k := k) (n := n) (by omega) (by omega); omega) (by simp [mulL, c111])))
        · refine wp_sc (wp_sq (sq_v rfl (v_eql rfl rfl) rfl (sq_v rfl (v_assign rfl) rfl (sq_end (qs_n ?_))))); refine wp_cd rfl (fun c125 => ?_) (fun c125 => ?_)
          · refine wp_rj 12 [(0, true), (1, true), (2, true), (3, true), (4, true), (5, true), (6, true), (7, true), (8, true), (9, true), (10, true), (11, true), (12, false)] mixed_ok (by kernel_rfl) (rj_v rfl rfl (v_move rfl) rfl (rj_v rfl rfl (v_move rfl) rfl (rj_v rfl rfl (v_idxI Tryz.underlying25 ty_3 rfl rfl r (by omega) (by omega)) rfl (rj_v rfl rfl (v_loadI (k := 0) 2 ty_3 rfl rfl r (by omega)) rfl (rj_v rfl rfl (v_move rfl) rfl (rj_v rfl rfl (v_idxI Tryz.underlying25 ty_3 rfl rfl r' (by omega) (by omega)) rfl (rj_v rfl rfl (v_loadI (k := 0) 2 ty_3 rfl rfl r' (by omega)) rfl ?_))))))); refine rj_v rfl rfl (v_add rfl rfl ((by unfold I64; omega))) rfl ?_; refine rj_v rfl rfl (v_fieldAddr fd_37_1 ty_3 (by decide) rfl) rfl (rj_v rfl rfl (v_loadB 1 ty_3 rfl rfl rfl) rfl (rj_v rfl rfl (v_min rfl rfl) rfl ?_)); refine rj_v rfl rfl (v_idxI Tryz.underlying25 ty_3 rfl rfl r14.toR (by omega) (by first | omega | (simp; omega) | (simp only [List.length_append, List.length_cons, List.length_nil]; omega) | (rw [List.length_set]; omega))) rfl ?_; refine rj_m 0 rfl rfl rfl rfl (m_storeI (k := 0) 0 ty_3 rfl rfl rfl r14 (by first | omega | (simp; omega) | (simp only [List.length_append, List.length_cons, List.length_nil]; omega) | (rw [List.length_set]; omega))) rfl ?_; rintro _ h_q23_12 ⟨rfl, q23_12⟩; refine rj_end (qs_bn (qs_n (wp_sc (wp_sq (sq_v rfl (v_move rfl) rfl (sq_v rfl (v_assign rfl) rfl (sq_end (qs_n (wp_rt ?_))))))))); exact qs_ret1 rfl rfl (fin_t 0 (i := 2) rfl rfl rfl (fin1 q23_12 (by have := width_1 (k := k) (n := n) (by omega) (by omega); omega) (by simp [mulL, c125])))
          · refine wp_sc (wp_sq (sq_v rfl (v_eql rfl rfl) rfl (sq_v rfl (v_assign rfl) rfl (sq_end (qs_n ?_))))); refine wp_cd rfl (fun c139 => ?_) (fun c139 => ?_)
            · refine wp_rj 9 [(0, true), (1, true), (2, true), (3, true), (4, true), (5, true), (6, true), (7, true), (8, true), (9, false)] mixed_ok (by kernel_rfl) (rj_v rfl rfl (v_move rfl) rfl (rj_v rfl rfl (v_move rfl) rfl (rj_v rfl rfl (v_idxI Tryz.underlying25 ty_3 rfl rfl r (by omega) (by omega)) rfl (rj_v rfl rfl (v_loadI (k := 0) 2 ty_3 rfl rfl r (by omega)) rfl (rj_v rfl rfl (v_move rfl) rfl (rj_v rfl rfl (v_idxI Tryz.underlying25 ty_3 rfl rfl r' (by omega) (by omega)) rfl (rj_v rfl rfl (v_loadI (k := 0) 2 ty_3 rfl rfl r' (by omega)) rfl (rj_v rfl rfl (v_min rfl rfl) rfl ?_)))))))); refine rj_v rfl rfl (v_idxI Tryz.underlying25 ty_3 rfl rfl r14.toR (by omega) (by first | omega | (simp; omega) | (simp only [List.length_append, List.length_cons, List.length_nil]; omega) | (rw [List.length_set]; omega))) rfl ?_; refine rj_m 0 rfl rfl rfl rfl (m_storeI (k := 0) 0 ty_3 rfl rfl rfl r14 (by first | omega | (simp; omega) | (simp only [List.length_append, List.length_cons, List.length_nil]; omega) | (rw [List.length_set]; omega))) rfl ?_; rintro _ h_q25_9 ⟨rfl, q25_9⟩; refine rj_end (qs_bn (qs_n (wp_sc (wp_sq (sq_v rfl (v_move rfl) rfl (sq_v rfl (v_assign rfl) rfl (sq_end (qs_n (wp_rt ?_))))))))); exact qs_ret1 rfl rfl (fin_t 0 (i := 2) rfl rfl rfl (fin1 q25_9 (by have := width_1 (k := k) (n := n) (by omega) (by omega); omega) (by simp [mulL, c139])))
            · refine wp_sc (wp_sq (sq_v rfl (v_move rfl) rfl (sq_v rfl (v_len Tryz.underlying25 rfl r.sl) rfl (sq_v rfl (v_move rfl) rfl (sq_end ?_))))); have hk := kind_rest h (by omega) (by omega) (by omega) (by omega) (by omega) (by omega); have ht := top_poly h (by omega); have px := hx.poly h (by omega); have py := hy.poly h (by omega); have pz := poly_zero (k := k) (n := n) (p := p) (by omega) _ rfl; have ez : (x.length : Int).toNat = (widthI k n).toNat := by omega
              refine qs_n (wp_bl ?_); refine wp_lp (σ := Nat × PH) (fun z_ => [(2, u), (3, .pointer (some ⟨b3, 0, none⟩)), (6, .slice none 0 0), (7, v14), (17, v), (18, num x.length), (19, num z_.1)]) (fun z_ => [z_.2, box b3 [num k, num p, num n] 37, hp w]) (fun z_ => z_.1 ≤ x.length ∧ IntsO (mulTo k p x y (List.replicate (widthI k n).toNat 0) z_.1) v14 z_.2) (fun z_ => x.length - z_.1) (0, h14) (⟨by (try dsimp only); omega, by (try dsimp only); rw [ez] at r14; simpa [mulTo] using r14⟩) ⟨rfl, rfl, rfl, rfl, rfl, rfl, rfl, trivial⟩ (fun _ s => s) ?_; rintro ⟨i, g⟩ ⟨hi, q⟩; dsimp only at hi q ⊢; have hle_q := q.toR.le; have po := mulTo_in (by omega) px py pz i; refine wp_sc (wp_sq (sq_v rfl (v_lss rfl rfl) rfl (sq_end (qs_n (wp_sc ?_))))); refine wp_cd rfl (fun c20 => ?_) (fun c20 => ?_)
              · refine wp_sk (qs_n (wp_sc (wp_bl (wp_sc (wp_sq (sq_v rfl (v_move rfl) rfl (sq_v rfl (v_idxI Tryz.underlying25 ty_3 rfl rfl r (by omega) (by omega)) rfl (sq_v rfl (v_loadI (k := i) 2 ty_3 rfl rfl r (by omega)) rfl (sq_v rfl (v_assign rfl) rfl (sq_v rfl (v_assign rfl) rfl (sq_end (qs_n (wp_sc (wp_sq (sq_v rfl (v_move rfl) rfl (sq_v rfl (v_len Tryz.underlying25 rfl r'.sl) rfl (sq_v rfl (v_move rfl) rfl (sq_end (qs_n (wp_bl ?_)))))))))))))))))))); refine wp_lp (σ := Nat × PH) (fun z_ => [(2, u), (3, .pointer (some ⟨b3, 0, none⟩)), (6, .slice none 0 0), (7, v14), (8, num i), (9, num (x.getD i 0)), (17, v), (18, num x.length), (19, num i), (20, .bool (decide ((i : Int) < x.length))), (21, num i), (23, num (x.getD i 0)), (24, u), (25, num y.length), (26, num z_.1)]) (fun z_ => [z_.2, box b3 [num k, num p, num n] 37, hp w]) (fun z_ => z_.1 ≤ y.length ∧ IntsO (mulRow k p x y i (mulTo k p x y (List.replicate (widthI k n).toNat 0) i) z_.1) v14 z_.2) (fun z_ => y.length - z_.1) (0, g) (⟨by (try dsimp only); omega, by (try dsimp only); simpa [mulRow] using q⟩) ⟨rfl, rfl, rfl, rfl, rfl, rfl, rfl, rfl, rfl, rfl, rfl, rfl, rfl, rfl, rfl, trivial⟩ (fun _ s => s) ?_; rintro ⟨j, g⟩ ⟨hj, q⟩; dsimp only at hj q ⊢; have hle_q := q.toR.le; have pr := mulRow_in (by omega) px py po (i := i) j; have pl := pr.1; have hxi := px.at (by omega) i; have hyj := py.at (by omega) j; have hm2 := mul_in6 hxi hyj (by omega) (by omega); have hm3 := mul_in6 (a := p - x.getD i 0) (t := p) ⟨by omega, by omega⟩ hyj (by omega) (by omega); have hoij := pr.at (by omega) (i + j); have hoij4 := pr.at (by omega) ((i : Int) + j - 4).toNat; have hw7 : k = 8 → widthI k n = 4 := fun e => by simp [widthI, e]
                refine wp_sc (wp_sq (sq_v rfl (v_lss rfl rfl) rfl (sq_end (qs_n (wp_sc ?_))))); refine wp_cd rfl (fun c27 => ?_) (fun c27 => ?_)
                · refine wp_sk (qs_n (wp_sc (wp_bl (wp_sc (wp_sq (sq_v rfl (v_move rfl) rfl (sq_v rfl (v_idxI Tryz.underlying25 ty_3 rfl rfl r' (by omega) (by omega)) rfl (sq_v rfl (v_loadI (k := j) 2 ty_3 rfl rfl r' (by omega)) rfl (sq_v rfl (v_assign rfl) rfl (sq_v rfl (v_assign rfl) rfl (sq_end (qs_n (wp_bl (wp_sc (wp_sq (sq_v rfl (v_move rfl) rfl (sq_v rfl (v_move rfl) rfl ?_))))))))))))))))); refine sq_v rfl (v_add rfl rfl ((by unfold I64; omega))) rfl ?_; refine sq_v rfl (v_move rfl) rfl (sq_v rfl (v_len Tryz.underlying25 rfl q.toR.sl) rfl (sq_v rfl (v_lss rfl rfl) rfl (sq_v rfl (v_assign rfl) rfl (sq_end (qs_n ?_))))); refine wp_cd rfl (fun c31 => ?_) (fun c31 => ?_)
                  · refine wp_rj 18 [(0, true), (1, true), (2, true), (3, true), (4, true), (5, true), (6, true), (7, true), (8, true), (9, true), (10, true), (11, true), (12, true), (13, true), (14, true), (15, true), (16, true), (17, true), (18, false)] mixed_ok (by kernel_rfl) (rj_v rfl rfl (v_move rfl) rfl (rj_v rfl rfl (v_move rfl) rfl (rj_v rfl rfl (v_move rfl) rfl ?_))); refine rj_v rfl rfl (v_add rfl rfl ((by unfold I64; omega))) rfl ?_; refine rj_v rfl rfl (v_move rfl) rfl (rj_v rfl rfl (v_move rfl) rfl (rj_v rfl rfl (v_move rfl) rfl ?_)); refine rj_v rfl rfl (v_add rfl rfl ((by unfold I64; omega))) rfl ?_; refine rj_v rfl rfl (v_idxI Tryz.underlying25 ty_3 rfl rfl q.toR (by omega) (by omega)) rfl (rj_v rfl rfl (v_loadI (k := (i+j)) 0 ty_3 rfl rfl q.toR (by omega)) rfl (rj_v rfl rfl (v_move rfl) rfl (rj_v rfl rfl (v_move rfl) rfl ?_))); refine rj_v rfl rfl (v_mul rfl rfl ((by unfold I64; omega))) rfl ?_; refine rj_v rfl rfl (v_add rfl rfl ((by unfold I64; omega))) rfl ?_; refine rj_v rfl rfl (v_fieldAddr fd_37_1 ty_3 (by decide) rfl) rfl (rj_v rfl rfl (v_loadB 1 ty_3 rfl rfl rfl) rfl (rj_v rfl rfl (v_rem rfl rfl (by omega)) rfl (rj_v rfl rfl (v_idxI Tryz.underlying25 ty_3 rfl rfl q.toR (by omega) (by omega)) rfl ?_))); refine rj_m 0 rfl rfl rfl rfl (m_storeI (k := (i + j)) 0 ty_3 rfl rfl rfl q (by omega)) rfl ?_; rintro _ h_q10_18 ⟨rfl, q10_18⟩; refine rj_end (qs_bn (qs_bn (qs_n (wp_sq ?_)))); refine sq_v rfl (v_add rfl rfl ((by unfold I64; omega))) rfl ?_; refine sq_v rfl (v_move rfl) rfl (sq_end ?_); exact qs_bk (j + 1, h_q10_18) ⟨by (try dsimp only); omega, by (try dsimp only); rw [mulRow_step, mulStep, if_pos (by omega)]; exact q10_18⟩ (by simp only; omega) ⟨rfl, rfl, rfl, rfl, rfl, rfl, rfl, rfl, rfl, rfl, rfl, rfl, rfl, rfl, rfl, trivial⟩ (fun _ s => s)
                  · refine wp_sc (wp_sq (sq_v rfl (v_fieldAddr fd_37_0 ty_3 (by decide) rfl) rfl (sq_v rfl (v_loadB 1 ty_3 rfl rfl rfl) rfl (sq_v rfl (v_eql rfl rfl) rfl (sq_v rfl (v_assign rfl) rfl (sq_end (qs_n ?_))))))); refine wp_cd rfl (fun c56 => ?_) (fun c56 => ?_)
                    · refine wp_rj 23 [(0, true), (1, true), (2, true), (3, true), (4, true), (5, true), (6, true), (7, true), (8, true), (9, true), (10, true), (11, true), (12, true), (13, true), (14, true), (15, true), (16, true), (17, true), (18, true), (19, true), (20, true), (21, true), (22, true), (23, false)] mixed_ok (by kernel_rfl) (rj_v rfl rfl (v_move rfl) rfl (rj_v rfl rfl (v_move rfl) rfl (rj_v rfl rfl (v_move rfl) rfl ?_))); refine rj_v rfl rfl (v_add rfl rfl ((by unfold I64; omega))) rfl ?_; refine rj_v rfl rfl (v_sub rfl rfl ((by unfold I64; omega))) rfl ?_; refine rj_v rfl rfl (v_move rfl) rfl (rj_v rfl rfl (v_move rfl) rfl (rj_v rfl rfl (v_move rfl) rfl ?_)); refine rj_v rfl rfl (v_add rfl rfl ((by unfold I64; omega))) rfl ?_; refine rj_v rfl rfl (v_sub rfl rfl ((by unfold I64; omega))) rfl ?_; refine rj_v rfl rfl (v_idxI Tryz.underlying25 ty_3 rfl rfl q.toR (by omega) (by omega)) rfl (rj_v rfl rfl (v_loadI  0 ty_3 rfl rfl q.toR (by omega)) rfl (rj_v rfl rfl (v_fieldAddr fd_37_1 ty_3 (by decide) rfl) rfl (rj_v rfl rfl (v_loadB 1 ty_3 rfl rfl rfl) rfl (rj_v rfl rfl (v_move rfl) rfl ?_)))); refine rj_v rfl rfl (v_sub rfl rfl ((by unfold I64; omega))) rfl ?_; refine rj_v rfl rfl (v_move rfl) rfl ?_; refine rj_v rfl rfl (v_mul rfl rfl ((by unfold I64; omega))) rfl ?_; refine rj_v rfl rfl (v_add rfl rfl ((by unfold I64; omega))) rfl ?_; refine rj_v rfl rfl (v_fieldAddr fd_37_1 ty_3 (by decide) rfl) rfl (rj_v rfl rfl (v_loadB 1 ty_3 rfl rfl rfl) rfl (rj_v rfl rfl (v_rem rfl rfl (by omega)) rfl (rj_v rfl rfl (v_idxI Tryz.underlying25 ty_3 rfl rfl q.toR (by omega) (by omega)) rfl ?_))); refine rj_m 0 rfl rfl rfl rfl (m_storeI 0 ty_3 rfl rfl rfl q (by omega)) rfl ?_; rintro _ h_q12_23 ⟨rfl, q12_23⟩; refine rj_end (qs_bn (qs_bn (qs_n (wp_sq ?_)))); refine sq_v rfl (v_add rfl rfl ((by unfold I64; omega))) rfl ?_; refine sq_v rfl (v_move rfl) rfl (sq_end ?_); exact qs_bk (j + 1, h_q12_23) ⟨by (try dsimp only); omega, by (try dsimp only); rw [mulRow_step, mulStep, if_neg (by omega), if_pos c56]; rw [show ((i : Int) + j - 4).toNat = i + j - 4 by omega] at q12_23; exact q12_23⟩ (by simp only; omega) ⟨rfl, rfl, rfl, rfl, rfl, rfl, rfl, rfl, rfl, rfl, rfl, rfl, rfl, rfl, rfl, trivial⟩ (fun _ s => s)
                    · refine wp_sk (qs_bn (qs_bn (qs_n (wp_sq ?_)))); refine sq_v rfl (v_add rfl rfl ((by unfold I64; omega))) rfl ?_; refine sq_v rfl (v_move rfl) rfl (sq_end ?_); exact qs_bk (j + 1, g) ⟨by (try dsimp only); omega, by (try dsimp only); rw [mulRow_step, mulStep, if_neg (by omega), if_neg c56]; exact q⟩ (by simp only; omega) ⟨rfl, rfl, rfl, rfl, rfl, rfl, rfl, rfl, rfl, rfl, rfl, rfl, rfl, rfl, rfl, trivial⟩ (fun _ s => s)
                · refine wp_ex (qs_x (qs_x (qs_bx (qs_bn (qs_n (wp_sq ?_)))))); refine sq_v rfl (v_add rfl rfl ((by unfold I64; omega))) rfl ?_; refine sq_v rfl (v_move rfl) rfl (sq_end ?_); exact qs_bk (i + 1, g) ⟨by (try dsimp only); omega, by (try dsimp only); rw [mulTo_step, show y.length = j by omega]; exact q⟩ (by simp only; omega) ⟨rfl, rfl, rfl, rfl, rfl, rfl, rfl, trivial⟩ (fun _ s => s)
              · refine wp_ex (qs_x (qs_x (qs_bx (qs_bn (qs_n (wp_sc (wp_sq (sq_v rfl (v_move rfl) rfl (sq_v rfl (v_assign rfl) rfl (sq_end (qs_n (wp_rt ?_)))))))))))); exact qs_ret1 rfl rfl (fin_t 0 (i := 2) rfl rfl rfl (by rw [mulL_poly hk, show x.length = i by omega]; exact q))
theorem mulStep_same {p a b o : Int} (hp : 1 ≤ p) (ha : 0 ≤ a ∧ a ≤ p - 1) (hb : 0 ≤ b ∧ b ≤ p - 1) (ho : 0 ≤ o) : (o + (a * b).tmod p).tmod p = (o + a * b).tmod p := by
  have hm := (mul_in ha hb).1; have ht := tmod_in hm hp; rw [Int.tmod_eq_emod_of_nonneg (a := o + (a * b).tmod p) (by omega), Int.tmod_eq_emod_of_nonneg (a := o + a * b) (by omega), Int.tmod_eq_emod_of_nonneg hm]
  simp [Int.add_emod]
theorem mulStep_neg {p a b o : Int} (hp : 1 ≤ p) (ha : 0 ≤ a ∧ a ≤ p - 1) (hb : 0 ≤ b ∧ b ≤ p - 1) (ho : 0 ≤ o) : (o + p - (a * b).tmod p).tmod p = (o + (p - a) * b).tmod p := by
  have hm := (mul_in ha hb).1; have ht := tmod_in hm hp; have hm2 := (mul_in (a := p - a) (t := p) ⟨by omega, by omega⟩ hb).1; rw [Int.tmod_eq_emod_of_nonneg (a := o + p - (a * b).tmod p) (by omega), Int.tmod_eq_emod_of_nonneg (a := o + (p - a) * b) (by omega), Int.tmod_eq_emod_of_nonneg hm]; have e1 := Int.emod_add_mul_ediv (a * b) p; have e2 : o + (p - a) * b = (o + p - a * b % p) + p * (b - 1 - a * b / p) := by
    rw [Int.sub_mul, Int.mul_sub, Int.mul_sub]
    omega
  rw [e2, Int.add_mul_emod_self_left]
theorem ct_i_mulCoefficients (k p n : Int) (z x y : List Int) (zv v u : Value) (w : World) (h : PH) (hr : ringL k p n) (hk : k = 7 ∨ k = 8) (hle : PLe h (hp w)) (rz : IntsO z zv h) (r : IntsR x v (restP w h)) (r' : IntsR y u (restP w h)) (hz : z.length = (widthI k n).toNat) (hx : InR k p n x) (hy : InR k p n y) :
    Calls Tryz.prog 232 [ringV k p n, zv, v, u].toArray w (Ret w h (fun _ h' => IntsO (mulL k p n x y) zv h')) := by
  have ht := top_poly hr (by omega); have hw := width_range hr; have px := hx.poly hr (by omega); have py := hy.poly hr (by omega); have pz := poly_zero (k := k) (n := n) (p := p) (by omega) _ rfl; have hxl := hx.1; have hyl := hy.1; refine calls_in Tryz.func232 rfl Tryz.ntmps232 rfl (Sat.start2 hle) ?_; have hle0 := rz.toR.le; have hle1 := r.le; have hle2 := r'.le; refine wp_sc (wp_sq ?_); refine sq_x rfl (x_box rfl rfl) rfl ?_; rintro _ _ ⟨b4, rfl, rfl⟩; refine sq_end (qs_n (wp_sc (wp_sq (sq_v rfl (v_move rfl) rfl ?_)))); refine sq_m 1 rfl rfl (m_clearI 1 Tryz.underlying25 ty_3 rfl rfl rz) rfl ?_; intro _ h_q1_1 q1_1; refine sq_end (qs_n (wp_sc (wp_sq (sq_v rfl (v_move rfl) rfl (sq_v rfl (v_len Tryz.underlying25 rfl r.sl) rfl (sq_v rfl (v_move rfl) rfl (sq_end (qs_n (wp_bl ?_))))))))); refine wp_lp (σ := Nat × PH) (fun z_ => [(1, zv), (2, v), (3, u), (4, .pointer (some ⟨b4, 0, none⟩)), (14, num x.length), (15, num z_.1)]) (fun z_ => [box b4 [num k, num p, num n] 37, z_.2, (restP w h)]) (fun z_ => z_.1 ≤ x.length ∧ IntsO (mulTo k p x y (List.replicate (widthI k n).toNat 0) z_.1) zv z_.2) (fun z_ => x.length - z_.1) (0, h_q1_1) (⟨by (try dsimp only); omega, by (try dsimp only); rw [hz] at q1_1; simpa [mulTo] using q1_1⟩) ⟨rfl, rfl, rfl, rfl, rfl, rfl, trivial⟩ (fun _ s => s) ?_; rintro ⟨i, g⟩ ⟨hi, q⟩; dsimp only at hi q ⊢; have hle_q := q.toR.le; have po := mulTo_in (by omega) px py pz i; refine wp_sc (wp_sq (sq_v rfl (v_lss rfl rfl) rfl (sq_end (qs_n (wp_sc ?_))))); refine wp_cd rfl (fun c16 => ?_) (fun c16 => ?_)
  · refine wp_sk (qs_n (wp_sc (wp_bl (wp_sc (wp_sq (sq_v rfl (v_move rfl) rfl (sq_v rfl (v_assign rfl) rfl (sq_end (qs_n (wp_sc (wp_sq (sq_v rfl (v_move rfl) rfl (sq_v rfl (v_len Tryz.underlying25 rfl r'.sl) rfl (sq_v rfl (v_move rfl) rfl (sq_end (qs_n (wp_bl ?_))))))))))))))))); refine wp_lp (σ := Nat × PH) (fun z_ => [(1, zv), (2, v), (3, u), (4, .pointer (some ⟨b4, 0, none⟩)), (8, num i), (14, num x.length), (15, num i), (16, .bool (decide ((i : Int) < x.length))), (17, num i), (18, u), (19, num y.length), (20, num z_.1)]) (fun z_ => [box b4 [num k, num p, num n] 37, z_.2, (restP w h)]) (fun z_ => z_.1 ≤ y.length ∧ IntsO (mulRow k p x y i (mulTo k p x y (List.replicate (widthI k n).toNat 0) i) z_.1) zv z_.2) (fun z_ => y.length - z_.1) (0, g) (⟨by (try dsimp only); omega, by (try dsimp only); simpa [mulRow] using q⟩) ⟨rfl, rfl, rfl, rfl, rfl, rfl, rfl, rfl, rfl, rfl, rfl, rfl, trivial⟩ (fun _ s => s) ?_; rintro ⟨j, g⟩ ⟨hj, q⟩; dsimp only at hj q ⊢; have hle_q := q.toR.le; have pr := mulRow_in (by omega) px py po (i := i) j; have pl := pr.1; have hxi := px.at (by omega) i; have hyj := py.at (by omega) j; have hm2 := mul_in6 hxi hyj (by omega) (by omega); have htm := tmod_in hm2.1 (show 1 ≤ p by omega); have hoij := pr.at (by omega) (i + j); have hoij4 := pr.at (by omega) ((i : Int) + j - 4).toNat; have hw7 : k = 8 → widthI k n = 4 := fun e => by simp [widthI, e]
    refine wp_sc (wp_sq (sq_v rfl (v_lss rfl rfl) rfl (sq_end (qs_n (wp_sc ?_))))); refine wp_cd rfl (fun c21 => ?_) (fun c21 => ?_)
    · refine wp_sk (qs_n (wp_sc (wp_bl (wp_sc (wp_sq (sq_v rfl (v_move rfl) rfl (sq_v rfl (v_assign rfl) rfl (sq_end (qs_n (wp_sc (wp_rj 13 [(0, true), (1, true), (2, true), (3, true), (4, true), (5, true), (6, true), (7, true), (8, true), (9, true), (10, true), (11, true), (12, true)] mixed_ok (by kernel_rfl) (rj_v rfl rfl (v_move rfl) rfl (rj_v rfl rfl (v_move rfl) rfl (rj_v rfl rfl (v_idxI Tryz.underlying25 ty_3 rfl rfl r (by omega) (by omega)) rfl (rj_v rfl rfl (v_loadI (k := i) 2 ty_3 rfl rfl r (by omega)) rfl (rj_v rfl rfl (v_move rfl) rfl (rj_v rfl rfl (v_move rfl) rfl (rj_v rfl rfl (v_idxI Tryz.underlying25 ty_3 rfl rfl r' (by omega) (by omega)) rfl ?_)))))))))))))))))); refine rj_v rfl rfl (v_loadI (k := j) 2 ty_3 rfl rfl r' (by omega)) rfl ?_; refine rj_v rfl rfl (v_mul rfl rfl ((by unfold I64; omega))) rfl ?_; refine rj_v rfl rfl (v_fieldAddr fd_37_1 ty_3 (by decide) rfl) rfl (rj_v rfl rfl (v_loadB 0 ty_3 rfl rfl rfl) rfl (rj_v rfl rfl (v_rem rfl rfl (by omega)) rfl (rj_v rfl rfl (v_assign rfl) rfl (rj_end (qs_n (wp_sc (wp_sq (sq_v rfl (v_move rfl) rfl (sq_v rfl (v_move rfl) rfl ?_))))))))); refine sq_v rfl (v_add rfl rfl ((by unfold I64; omega))) rfl ?_; refine sq_v rfl (v_assign rfl) rfl (sq_end (qs_n (wp_sc (wp_sq (sq_v rfl (v_move rfl) rfl (sq_v rfl (v_move rfl) rfl (sq_v rfl (v_len Tryz.underlying25 rfl q.toR.sl) rfl (sq_v rfl (v_lss rfl rfl) rfl (sq_end (qs_n ?_)))))))))); refine wp_cd rfl (fun c41 => ?_) (fun c41 => ?_)
      · refine wp_rj 12 [(0, true), (1, true), (2, true), (3, true), (4, true), (5, true), (6, true), (7, true), (8, true), (9, true), (10, true), (11, true), (12, false)] mixed_ok (by kernel_rfl) (rj_v rfl rfl (v_move rfl) rfl (rj_v rfl rfl (v_move rfl) rfl (rj_v rfl rfl (v_move rfl) rfl (rj_v rfl rfl (v_move rfl) rfl (rj_v rfl rfl (v_idxI Tryz.underlying25 ty_3 rfl rfl q.toR (by omega) (by omega)) rfl (rj_v rfl rfl (v_loadI (k := (i + j)) 1 ty_3 rfl rfl q.toR (by omega)) rfl (rj_v rfl rfl (v_move rfl) rfl ?_))))))); refine rj_v rfl rfl (v_add rfl rfl ((by unfold I64; omega))) rfl ?_; refine rj_v rfl rfl (v_fieldAddr fd_37_1 ty_3 (by decide) rfl) rfl (rj_v rfl rfl (v_loadB 0 ty_3 rfl rfl rfl) rfl (rj_v rfl rfl (v_rem rfl rfl (by omega)) rfl (rj_v rfl rfl (v_idxI Tryz.underlying25 ty_3 rfl rfl q.toR (by omega) (by omega)) rfl ?_))); refine rj_m 1 rfl rfl rfl rfl (m_storeI (k := (i + j)) 1 ty_3 rfl rfl rfl q (by omega)) rfl ?_; rintro _ h_q11_12 ⟨rfl, q11_12⟩; refine rj_end (qs_bn (qs_n (wp_sq ?_))); refine sq_v rfl (v_add rfl rfl ((by unfold I64; omega))) rfl ?_; refine sq_v rfl (v_move rfl) rfl (sq_end ?_); exact qs_bk (j + 1, h_q11_12) ⟨by (try dsimp only); omega, by (try dsimp only); rw [mulRow_step, mulStep, if_pos (by omega), ← mulStep_same (by omega) hxi hyj hoij.1]; exact q11_12⟩ (by simp only; omega) ⟨rfl, rfl, rfl, rfl, rfl, rfl, rfl, rfl, rfl, rfl, rfl, rfl, trivial⟩ (fun _ s => s)
      · refine wp_sc (wp_sq (sq_v rfl (v_fieldAddr fd_37_0 ty_3 (by decide) rfl) rfl (sq_v rfl (v_loadB 0 ty_3 rfl rfl rfl) rfl (sq_v rfl (v_eql rfl rfl) rfl (sq_end (qs_n ?_)))))); refine wp_cd rfl (fun c56 => ?_) (fun c56 => ?_)
        · refine wp_rj 17 [(0, true), (1, true), (2, true), (3, true), (4, true), (5, true), (6, true), (7, true), (8, true), (9, true), (10, true), (11, true), (12, true), (13, true), (14, true), (15, true), (16, true), (17, false)] mixed_ok (by kernel_rfl) (rj_v rfl rfl (v_move rfl) rfl (rj_v rfl rfl (v_move rfl) rfl ?_)); refine rj_v rfl rfl (v_sub rfl rfl ((by unfold I64; omega))) rfl ?_; refine rj_v rfl rfl (v_move rfl) rfl (rj_v rfl rfl (v_move rfl) rfl ?_); refine rj_v rfl rfl (v_sub rfl rfl ((by unfold I64; omega))) rfl ?_; refine rj_v rfl rfl (v_idxI Tryz.underlying25 ty_3 rfl rfl q.toR (by omega) (by omega)) rfl (rj_v rfl rfl (v_loadI  1 ty_3 rfl rfl q.toR (by omega)) rfl (rj_v rfl rfl (v_fieldAddr fd_37_1 ty_3 (by decide) rfl) rfl (rj_v rfl rfl (v_loadB 0 ty_3 rfl rfl rfl) rfl ?_))); refine rj_v rfl rfl (v_add rfl rfl ((by unfold I64; omega))) rfl ?_; refine rj_v rfl rfl (v_move rfl) rfl ?_; refine rj_v rfl rfl (v_sub rfl rfl ((by unfold I64; omega))) rfl ?_; refine rj_v rfl rfl (v_fieldAddr fd_37_1 ty_3 (by decide) rfl) rfl (rj_v rfl rfl (v_loadB 0 ty_3 rfl rfl rfl) rfl (rj_v rfl rfl (v_rem rfl rfl (by omega)) rfl (rj_v rfl rfl (v_idxI Tryz.underlying25 ty_3 rfl rfl q.toR (by omega) (by omega)) rfl ?_))); refine rj_m 1 rfl rfl rfl rfl (m_storeI 1 ty_3 rfl rfl rfl q (by omega)) rfl ?_; rintro _ h_q13_17 ⟨rfl, q13_17⟩; refine rj_end (qs_bn (qs_n (wp_sq ?_))); refine sq_v rfl (v_add rfl rfl ((by unfold I64; omega))) rfl ?_; refine sq_v rfl (v_move rfl) rfl (sq_end ?_); exact qs_bk (j + 1, h_q13_17) ⟨by (try dsimp only); omega, by (try dsimp only); rw [mulRow_step, mulStep, if_neg (by omega), if_pos c56]; rw [show ((i : Int) + j - 4).toNat = i + j - 4 by omega] at q13_17 hoij4; rw [← mulStep_neg (by omega) hxi hyj hoij4.1]; exact q13_17⟩ (by simp only; omega) ⟨rfl, rfl, rfl, rfl, rfl, rfl, rfl, rfl, rfl, rfl, rfl, rfl, trivial⟩ (fun _ s => s)
        · refine wp_sk (qs_bn (qs_n (wp_sq ?_))); refine sq_v rfl (v_add rfl rfl ((by unfold I64; omega))) rfl ?_; refine sq_v rfl (v_move rfl) rfl (sq_end ?_); exact qs_bk (j + 1, g) ⟨by (try dsimp only); omega, by (try dsimp only); rw [mulRow_step, mulStep, if_neg (by omega), if_neg c56]; exact q⟩ (by simp only; omega) ⟨rfl, rfl, rfl, rfl, rfl, rfl, rfl, rfl, rfl, rfl, rfl, rfl, trivial⟩ (fun _ s => s)
    · refine wp_ex (qs_x (qs_x (qs_bx (qs_bn (qs_n (wp_sq ?_)))))); refine sq_v rfl (v_add rfl rfl ((by unfold I64; omega))) rfl ?_; refine sq_v rfl (v_move rfl) rfl (sq_end ?_); exact qs_bk (i + 1, g) ⟨by (try dsimp only); omega, by (try dsimp only); rw [mulTo_step, show y.length = j by omega]; exact q⟩ (by simp only; omega) ⟨rfl, rfl, rfl, rfl, rfl, rfl, trivial⟩ (fun _ s => s)
  · refine wp_ex (qs_x (qs_x (qs_bx ?_))); exact qs_ret0 rfl (fin_m 1 (i := 2) rfl rfl rfl (by rw [mulL_poly hk, show x.length = i by omega]; exact q))
theorem fin1' {k p n a : Int} {x y z : List Int} {v : Value} {h : PH} (q : IntsO (z.set 0 a) v h) (hm : z.length = 1) (e : mulL k p n x y = [a]) : IntsO (mulL k p n x y) v h := by
  rw [e]
  match z, hm with
  | [b], _ => exact q
set_option maxHeartbeats 1000000 in
theorem ct_i_mulInto (k p n : Int) (z x y : List Int) (zv v u : Value) (w : World) (h : PH) (hr : ringL k p n) (hle : PLe h (hp w)) (rz : IntsO z zv h) (r : IntsR x v (restP w h)) (r' : IntsR y u (restP w h)) (hz : z.length = (widthI k n).toNat) (hx : InR k p n x) (hy : InR k p n y) :
    Calls Tryz.prog 178 [ringV k p n, zv, v, u].toArray w (Ret w h (fun _ h' => IntsO (mulL k p n x y) zv h')) := by
  have h1 := hx.len hr; have h2 := hy.len hr; have hx0 := hx.at hr 0 (by omega); have hy0 := hy.at hr 0 (by omega); have hw := width_range hr; have htr := top_range hr; have hrp := ring_p hr; have hm := mul_in6 hx0 hy0 htr.2 htr.2; refine calls_in Tryz.func178 rfl Tryz.ntmps178 rfl (Sat.start2 hle) ?_; have hle0 := rz.toR.le; have hle1 := r.le; have hle2 := r'.le; refine wp_sc (wp_sq ?_); refine sq_x rfl (x_box rfl rfl) rfl ?_; rintro _ _ ⟨b4, rfl, rfl⟩; refine sq_end (qs_n (wp_sc (wp_sq (sq_v rfl (v_fieldAddr fd_37_0 ty_3 (by decide) rfl) rfl (sq_v rfl (v_loadB 0 ty_3 rfl rfl rfl) rfl (sq_end (qs_n (wp_bl (wp_sc (wp_sc (wp_sq (sq_v rfl (v_eql rfl rfl) rfl (sq_v rfl (v_assign rfl) rfl (sq_end (qs_n ?_))))))))))))))); refine wp_cSd rfl (fun c15 => ?_) (fun c15 => ?_)
  · refine wp_sk (qs_n (wp_ct rfl (wp_rj 9 [(0, true), (1, true), (2, true), (3, true), (4, true), (5, true), (6, true), (7, true), (8, true), (9, false)] mixed_ok (by kernel_rfl) (rj_v rfl rfl (v_move rfl) rfl (rj_v rfl rfl (v_move rfl) rfl (rj_v rfl rfl (v_idxI Tryz.underlying25 ty_3 rfl rfl r (by omega) (by omega)) rfl (rj_v rfl rfl (v_loadI (k := 0) 2 ty_3 rfl rfl r (by omega)) rfl (rj_v rfl rfl (v_move rfl) rfl (rj_v rfl rfl (v_idxI Tryz.underlying25 ty_3 rfl rfl r' (by omega) (by omega)) rfl (rj_v rfl rfl (v_loadI (k := 0) 2 ty_3 rfl rfl r' (by omega)) rfl (rj_v rfl rfl (v_min rfl rfl) rfl ?_))))))))))); refine rj_v rfl rfl (v_idxI Tryz.underlying25 ty_3 rfl rfl rz.toR (by omega) (by omega)) rfl ?_; refine rj_m 1 rfl rfl rfl rfl (m_storeI (k := 0) 1 ty_3 rfl rfl rfl rz (by omega)) rfl ?_; rintro _ h_q5_9 ⟨rfl, q5_9⟩; refine rj_end (qs_bn ?_); exact qs_ret0 rfl (fin_m 1 (i := 2) rfl rfl rfl (fin1' q5_9 (by have := width_1 (k := k) (n := n) (by omega) (by omega); omega) (by simp [mulL, c15])))
  · refine wp_sq (sq_v rfl (v_eql rfl rfl) rfl (sq_v rfl (v_assign rfl) rfl (sq_end (qs_n ?_)))); refine wp_cSd rfl (fun c15 => ?_) (fun c15 => ?_)
    · refine wp_rj 9 [(0, true), (1, true), (2, true), (3, true), (4, true), (5, true), (6, true), (7, true), (8, true), (9, false)] mixed_ok (by kernel_rfl) (rj_v rfl rfl (v_move rfl) rfl (rj_v rfl rfl (v_move rfl) rfl (rj_v rfl rfl (v_idxI Tryz.underlying25 ty_3 rfl rfl r (by omega) (by omega)) rfl (rj_v rfl rfl (v_loadI (k := 0) 2 ty_3 rfl rfl r (by omega)) rfl (rj_v rfl rfl (v_move rfl) rfl (rj_v rfl rfl (v_idxI Tryz.underlying25 ty_3 rfl rfl r' (by omega) (by omega)) rfl (rj_v rfl rfl (v_loadI (k := 0) 2 ty_3 rfl rfl r' (by omega)) rfl (rj_v rfl rfl (v_min rfl rfl) rfl (rj_v rfl rfl (v_idxI Tryz.underlying25 ty_3 rfl rfl rz.toR (by omega) (by omega)) rfl ?_))))))))); refine rj_m 1 rfl rfl rfl rfl (m_storeI (k := 0) 1 ty_3 rfl rfl rfl rz (by omega)) rfl ?_; rintro _ h_q5_9 ⟨rfl, q5_9⟩; refine rj_end (qs_bn ?_); exact qs_ret0 rfl (fin_m 1 (i := 2) rfl rfl rfl (fin1' q5_9 (by have := width_1 (k := k) (n := n) (by omega) (by omega); omega) (by simp [mulL, c15])))
    · refine wp_sc (wp_sq (sq_v rfl (v_eql rfl rfl) rfl (sq_v rfl (v_assign rfl) rfl (sq_end (qs_n ?_))))); refine wp_cd rfl (fun c27 => ?_) (fun c27 => ?_)
      · refine wp_rj 12 [(0, true), (1, true), (2, true), (3, true), (4, true), (5, true), (6, true), (7, true), (8, true), (9, true), (10, true), (11, true), (12, false)] mixed_ok (by kernel_rfl) (rj_v rfl rfl (v_move rfl) rfl (rj_v rfl rfl (v_move rfl) rfl (rj_v rfl rfl (v_idxI Tryz.underlying25 ty_3 rfl rfl r (by omega) (by omega)) rfl (rj_v rfl rfl (v_loadI (k := 0) 2 ty_3 rfl rfl r (by omega)) rfl (rj_v rfl rfl (v_move rfl) rfl (rj_v rfl rfl (v_idxI Tryz.underlying25 ty_3 rfl rfl r' (by omega) (by omega)) rfl (rj_v rfl rfl (v_loadI (k := 0) 2 ty_3 rfl rfl r' (by omega)) rfl ?_))))))); refine rj_v rfl rfl (v_mul rfl rfl ((by unfold I64; omega))) rfl ?_; refine rj_v rfl rfl (v_fieldAddr fd_37_1 ty_3 (by decide) rfl) rfl (rj_v rfl rfl (v_loadB 0 ty_3 rfl rfl rfl) rfl ?_); refine rj_v rfl rfl (v_rem rfl rfl (by have := top_poly hr (.inl c27); omega)) rfl ?_; refine rj_v rfl rfl (v_idxI Tryz.underlying25 ty_3 rfl rfl rz.toR (by omega) (by omega)) rfl ?_; refine rj_m 1 rfl rfl rfl rfl (m_storeI (k := 0) 1 ty_3 rfl rfl rfl rz (by omega)) rfl ?_; rintro _ h_q7_12 ⟨rfl, q7_12⟩; refine rj_end (qs_bn ?_); exact qs_ret0 rfl (fin_m 1 (i := 2) rfl rfl rfl (fin1' q7_12 (by have := width_1 (k := k) (n := n) (by omega) (by omega); omega) (by simp [mulL, c27])))
      · refine wp_sc (wp_sq (sq_v rfl (v_eql rfl rfl) rfl (sq_v rfl (v_assign rfl) rfl (sq_end (qs_n ?_))))); refine wp_cd rfl (fun c41 => ?_) (fun c41 => ?_)
        · refine wp_rj 12 [(0, true), (1, true), (2, true), (3, true), (4, true), (5, true), (6, true), (7, true), (8, true), (9, true), (10, true), (11, true), (12, false)] mixed_ok (by kernel_rfl) (rj_v rfl rfl (v_move rfl) rfl (rj_v rfl rfl (v_move rfl) rfl (rj_v rfl rfl (v_idxI Tryz.underlying25 ty_3 rfl rfl r (by omega) (by omega)) rfl (rj_v rfl rfl (v_loadI (k := 0) 2 ty_3 rfl rfl r (by omega)) rfl (rj_v rfl rfl (v_move rfl) rfl (rj_v rfl rfl (v_idxI Tryz.underlying25 ty_3 rfl rfl r' (by omega) (by omega)) rfl (rj_v rfl rfl (v_loadI (k := 0) 2 ty_3 rfl rfl r' (by omega)) rfl ?_))))))); refine rj_v rfl rfl (v_mul rfl rfl ((by unfold I64; omega))) rfl ?_; refine rj_v rfl rfl (v_fieldAddr fd_37_1 ty_3 (by decide) rfl) rfl (rj_v rfl rfl (v_loadB 0 ty_3 rfl rfl rfl) rfl (rj_v rfl rfl (v_min rfl rfl) rfl (rj_v rfl rfl (v_idxI Tryz.underlying25 ty_3 rfl rfl rz.toR (by omega) (by omega)) rfl ?_))); refine rj_m 1 rfl rfl rfl rfl (m_storeI (k := 0) 1 ty_3 rfl rfl rfl rz (by omega)) rfl ?_; rintro _ h_q9_12 ⟨rfl, q9_12⟩; refine rj_end (qs_bn ?_); exact qs_ret0 rfl (fin_m 1 (i := 2) rfl rfl rfl (fin1' q9_12 (by have := width_1 (k := k) (n := n) (by omega) (by omega); omega) (by simp [mulL, c41])))
        · refine wp_sc (wp_sq (sq_v rfl (v_eql rfl rfl) rfl (sq_v rfl (v_assign rfl) rfl (sq_end (qs_n ?_))))); refine wp_cd rfl (fun c55 => ?_) (fun c55 => ?_)
          · refine wp_rj 12 [(0, true), (1, true), (2, true), (3, true), (4, true), (5, true), (6, true), (7, true), (8, true), (9, true), (10, true), (11, true), (12, false)] mixed_ok (by kernel_rfl) (rj_v rfl rfl (v_move rfl) rfl (rj_v rfl rfl (v_move rfl) rfl (rj_v rfl rfl (v_idxI Tryz.underlying25 ty_3 rfl rfl r (by omega) (by omega)) rfl (rj_v rfl rfl (v_loadI (k := 0) 2 ty_3 rfl rfl r (by omega)) rfl (rj_v rfl rfl (v_move rfl) rfl (rj_v rfl rfl (v_idxI Tryz.underlying25 ty_3 rfl rfl r' (by omega) (by omega)) rfl (rj_v rfl rfl (v_loadI (k := 0) 2 ty_3 rfl rfl r' (by omega)) rfl ?_))))))); refine rj_v rfl rfl (v_add rfl rfl ((by unfold I64; omega))) rfl ?_; refine rj_v rfl rfl (v_fieldAddr fd_37_1 ty_3 (by decide) rfl) rfl (rj_v rfl rfl (v_loadB 0 ty_3 rfl rfl rfl) rfl (rj_v rfl rfl (v_min rfl rfl) rfl (rj_v rfl rfl (v_idxI Tryz.underlying25 ty_3 rfl rfl rz.toR (by omega) (by omega)) rfl ?_))); refine rj_m 1 rfl rfl rfl rfl (m_storeI (k := 0) 1 ty_3 rfl rfl rfl rz (by omega)) rfl ?_; rintro _ h_q11_12 ⟨rfl, q11_12⟩; refine rj_end (qs_bn ?_); exact qs_ret0 rfl (fin_m 1 (i := 2) rfl rfl rfl (fin1' q11_12 (by have := width_1 (k := k) (n := n) (by omega) (by omega); omega) (by simp [mulL, c55])))
          · refine wp_sc (wp_sq (sq_v rfl (v_eql rfl rfl) rfl (sq_v rfl (v_assign rfl) rfl (sq_end (qs_n ?_))))); refine wp_cd rfl (fun c69 => ?_) (fun c69 => ?_)
            · refine wp_rj 9 [(0, true), (1, true), (2, true), (3, true), (4, true), (5, true), (6, true), (7, true), (8, true), (9, false)] mixed_ok (by kernel_rfl) (rj_v rfl rfl (v_move rfl) rfl (rj_v rfl rfl (v_move rfl) rfl (rj_v rfl rfl (v_idxI Tryz.underlying25 ty_3 rfl rfl r (by omega) (by omega)) rfl (rj_v rfl rfl (v_loadI (k := 0) 2 ty_3 rfl rfl r (by omega)) rfl (rj_v rfl rfl (v_move rfl) rfl (rj_v rfl rfl (v_idxI Tryz.underlying25 ty_3 rfl rfl r' (by omega) (by omega)) rfl (rj_v rfl rfl (v_loadI (k := 0) 2 ty_3 rfl rfl r' (by omega)) rfl (rj_v rfl rfl (v_and rfl rfl ⟨by omega, by omega⟩ ⟨by omega, by omega⟩) rfl (rj_v rfl rfl (v_idxI Tryz.underlying25 ty_3 rfl rfl rz.toR (by omega) (by omega)) rfl ?_))))))))); refine rj_m 1 rfl rfl rfl rfl (m_storeI (k := 0) 1 ty_3 rfl rfl rfl rz (by omega)) rfl ?_; rintro _ h_q13_9 ⟨rfl, q13_9⟩; refine rj_end (qs_bn ?_); exact qs_ret0 rfl (fin_m 1 (i := 2) rfl rfl rfl (fin1' q13_9 (by have := width_1 (k := k) (n := n) (by omega) (by omega); omega) (by simp [mulL, c69])))
            · refine wp_sq (sq_v rfl (v_loadNB 0 ty_37 rfl rfl rfl rfl) rfl (sq_v rfl (v_move rfl) rfl (sq_v rfl (v_move rfl) rfl (sq_v rfl (v_move rfl) rfl ?_)))); have hk := kind_rest hr (by omega) (by omega) (by omega) (by omega) (by omega) (by omega); refine sq_m 1 rfl rfl (x_call rfl en_232 (fun w s => ct_i_mulCoefficients _ _ _ _ _ _ _ _ _ w _ (by first | assumption | omega) (by first | assumption | omega) (s.get 1 rfl) rz (r.mono (s.getR 1 2 rfl rfl (by decide))) (r'.mono (s.getR 1 2 rfl rfl (by decide))) (by first | assumption | omega) (by first | assumption | omega) (by first | assumption | omega))) rfl ?_; rintro _ h14 r14; refine sq_end (qs_bn ?_); exact qs_ret0 rfl (fin_m 1 (i := 2) rfl rfl rfl (r14))
open Classical in
noncomputable def add1 (k p : Int) (a b : Int) : Int :=
  if k = 1 ∨ k = 5 then max a b else if k = 3 then min (a + b) p else if k = 4 then min a b else if k = 6 then ((a.toNat ||| b.toNat : Nat) : Int) else (a + b).tmod p
noncomputable def addL (k p : Int) (x y : List Int) : List Int := (List.range x.length).map fun i => add1 k p (x.getD i 0) (y.getD i 0)
theorem addL_len (k p : Int) (x y : List Int) : (addL k p x y).length = x.length := by simp [addL]
theorem addL_get {k p : Int} {x y : List Int} {i : Nat} (h : i < x.length) : (addL k p x y).getD i 0 = add1 k p (x.getD i 0) (y.getD i 0) := by simp [addL, List.getD, h]
theorem or_bool {a b : Int} (ha : 0 ≤ a ∧ a ≤ 1) (hb : 0 ≤ b ∧ b ≤ 1) : ((a.toNat ||| b.toNat : Nat) : Int) = max a b := by
  have e1 : a = 0 ∨ a = 1 := by omega
  have e2 : b = 0 ∨ b = 1 := by omega
  rcases e1 with rfl | rfl <;> rcases e2 with rfl | rfl <;> decide
theorem or_in {a b n : Int} (ha : 0 ≤ a ∧ a ≤ 2 ^ n.toNat - 1) (hb : 0 ≤ b ∧ b ≤ 2 ^ n.toNat - 1) : 0 ≤ ((a.toNat ||| b.toNat : Nat) : Int) ∧ ((a.toNat ||| b.toNat : Nat) : Int) ≤ 2 ^ n.toNat - 1 := by
  have e : ((2 ^ n.toNat : Nat) : Int) = (2 : Int) ^ n.toNat := by simp
  have h1 : a.toNat ||| b.toNat < 2 ^ n.toNat := Nat.or_lt_two_pow (by omega) (by omega)
  omega
theorem add1_in {k p n a b : Int} (hr : ringL k p n) (ha : 0 ≤ a ∧ a ≤ topI k p n) (hb : 0 ≤ b ∧ b ≤ topI k p n) : 0 ≤ add1 k p a b ∧ add1 k p a b ≤ topI k p n := by
  unfold add1
  split
  · omega
  · split
    · have := top_cap hr (by omega); omega
    · split
      · omega
      · split
        · rename_i h6
          have ht : topI k p n = 2 ^ n.toNat - 1 := by simp [topI, h6]
          rw [ht] at ha hb ⊢; exact or_in ha hb
        · have ht := top_poly hr (kind_rest' hr (by omega) (by omega) (by omega) (by omega) (by omega)); have := tmod_in (a := a + b) (p := p) (by omega) (by omega)
          omega
theorem addL_in {k p n : Int} {x y : List Int} (hr : ringL k p n) (hx : InR k p n x) (hy : InR k p n y) : InR k p n (addL k p x y) := by
  refine ⟨by rw [addL_len]; exact hx.1, fun a ha => ?_⟩; simp only [addL, List.mem_map, List.mem_range] at ha; obtain ⟨i, hi, rfl⟩ := ha; exact add1_in hr (hx.at hr i hi) (hy.at hr i (by have := hx.1; have := hy.1; omega))
/-- The first i sums. -/
noncomputable def addTo (k p : Int) (x y o : List Int) (i : Nat) : List Int := (addL k p x y).take i ++ o.drop i
theorem addTo_step {k p : Int} {x y o : List Int} {i : Nat} (hi : i < x.length) (ho : o.length = x.length) : (addTo k p x y o i).set i (add1 k p (x.getD i 0) (y.getD i 0)) = addTo k p x y o (i + 1) := by
  have hl := addL_len k p x y
  unfold addTo
  apply List.ext_getElem
  · simp; omega
  · intro j h1 h2; rw [List.getElem_set]
    split
    · rename_i e; subst e
      rw [List.getElem_append_left (by simp; omega), List.getElem_take, ← addL_get hi]
      simp [List.getD, hl, hi]
    · rename_i e
      rcases Nat.lt_or_ge j i with hj | hj
      · rw [List.getElem_append_left (by simp; omega), List.getElem_append_left (by simp; omega), List.getElem_take, List.getElem_take]
      · rw [List.getElem_append_right (by simp; omega), List.getElem_append_right (by simp; omega), List.getElem_drop, List.getElem_drop]
        congr 1
        simp only [List.length_take, hl]
        omega
theorem addTo_len {k p : Int} {x y o : List Int} {i : Nat} (hi : i ≤ x.length) (ho : o.length = x.length) : (addTo k p x y o i).length = x.length := by
  simp [addTo, addL_len]; omega
theorem addTo_get {k p : Int} {x y o : List Int} {i j : Nat} (hj : i ≤ j) (hi : i ≤ x.length) : (addTo k p x y o i).getD j 0 = o.getD j 0 := by
  have : (List.take i (addL k p x y)).length = i := by simp [addL_len]; omega
  simp only [addTo, List.getD]; rw [List.getElem?_append_right (by omega), List.getElem?_drop]
  congr 2
  omega
set_option maxHeartbeats 1000000 in
theorem ct_s_l02Add (k p n : Int) (x y : List Int) (v u : Value) (w : World) (hr : ringL k p n) (r : IntsR x v (hp w)) (r' : IntsR y u (hp w)) (hx : InR k p n x) (hy : InR k p n y) :
    Calls Tryz.prog 162 [ringV k p n, v, u].toArray w (Ret w emp (IntsO (addL k p x y))) := by
  have h1 := hx.len hr; have h2 := hy.len hr; have htr := top_range hr; have hrp := ring_p hr; refine calls_in Tryz.func162 rfl Tryz.ntmps162 rfl (Sat.start w) ?_; have hle0 := r.le; have hle1 := r'.le; refine wp_sc (wp_sq ?_); refine sq_x rfl (x_box rfl rfl) rfl ?_; rintro _ _ ⟨b3, rfl, rfl⟩; refine sq_v rfl (v_assign rfl) rfl (sq_end (qs_n (wp_sc (wp_sq (sq_v rfl (v_move rfl) rfl (sq_v rfl (v_len Tryz.underlying25 rfl r.sl) rfl ?_)))))); refine sq_x rfl (x_makeI Tryz.underlying25 ty_3 rfl rfl (by omega) (by omega) (by omega)) rfl ?_; intro v11 h11 r11; refine sq_v rfl (v_assign rfl) rfl (sq_end (qs_n (wp_sc (wp_sc (wp_sq (sq_v rfl (v_move rfl) rfl (sq_v rfl (v_len Tryz.underlying25 rfl r.sl) rfl (sq_v rfl (v_move rfl) rfl (sq_end (qs_n (wp_bl ?_))))))))))); refine wp_lp (σ := Nat × PH) (fun z_ => [(1, v), (2, u), (3, .pointer (some ⟨b3, 0, none⟩)), (6, .slice none 0 0), (7, v11), (13, num x.length), (14, num z_.1)]) (fun z_ => [z_.2, box b3 [num k, num p, num n] 37, hp w]) (fun z_ => z_.1 ≤ x.length ∧ IntsO (addTo k p x y (List.replicate x.length 0) z_.1) v11 z_.2) (fun z_ => x.length - z_.1) (0, h11) (⟨by (try dsimp only); omega, by (try dsimp only); simpa [addTo] using r11⟩) ⟨rfl, rfl, rfl, rfl, rfl, rfl, rfl, trivial⟩ (fun _ s => s) ?_; rintro ⟨i, g⟩ ⟨hi, q⟩; dsimp only at hi q ⊢; have hle_q := q.toR.le; have hl := addTo_len (k := k) (p := p) (y := y) (o := List.replicate x.length 0) hi (by simp); have hst : i < x.length → _ := fun h => addTo_step (k := k) (p := p) (y := y) (o := List.replicate x.length 0) h (by simp); refine wp_sc (wp_sq (sq_v rfl (v_lss rfl rfl) rfl (sq_end (qs_n (wp_sc ?_))))); refine wp_cd rfl (fun c15 => ?_) (fun c15 => ?_)
  · refine wp_sk (qs_n (wp_sc (wp_bl (wp_sc (wp_sq (sq_v rfl (v_move rfl) rfl (sq_v rfl (v_assign rfl) rfl (sq_end ?_)))))))); have hxi := hx.at hr i (by omega); have hyi := hy.at hr i (by omega); refine qs_n (wp_sc (wp_sq (sq_v rfl (v_fieldAddr fd_37_0 ty_3 (by decide) rfl) rfl (sq_v rfl (v_loadB 1 ty_3 rfl rfl rfl) rfl (sq_end (qs_n (wp_bl (wp_sc (wp_sc (wp_sq (sq_v rfl (v_eql rfl rfl) rfl (sq_v rfl (v_assign rfl) rfl (sq_end (qs_n ?_)))))))))))))); refine wp_cSd rfl (fun c34 => ?_) (fun c34 => ?_)
    · refine wp_sk (qs_n (wp_ct rfl (wp_rj 12 [(0, true), (1, true), (2, true), (3, true), (4, true), (5, true), (6, true), (7, true), (8, true), (9, true), (10, true), (11, true), (12, false)] mixed_ok (by kernel_rfl) (rj_v rfl rfl (v_move rfl) rfl (rj_v rfl rfl (v_move rfl) rfl (rj_v rfl rfl (v_move rfl) rfl (rj_v rfl rfl (v_move rfl) rfl (rj_v rfl rfl (v_idxI Tryz.underlying25 ty_3 rfl rfl r (by omega) (by omega)) rfl (rj_v rfl rfl (v_loadI (k := i) 2 ty_3 rfl rfl r (by omega)) rfl (rj_v rfl rfl (v_move rfl) rfl (rj_v rfl rfl (v_move rfl) rfl ?_))))))))))); refine rj_v rfl rfl (v_idxI Tryz.underlying25 ty_3 rfl rfl r' (by omega) (by omega)) rfl (rj_v rfl rfl (v_loadI (k := i) 2 ty_3 rfl rfl r' (by omega)) rfl (rj_v rfl rfl (v_or rfl rfl ⟨by omega, by omega⟩ ⟨by omega, by omega⟩) rfl (rj_v rfl rfl (v_idxI Tryz.underlying25 ty_3 rfl rfl q.toR (by omega) (by omega)) rfl ?_))); refine rj_m 0 rfl rfl rfl rfl (m_storeI (k := i) 0 ty_3 rfl rfl rfl q (by omega)) rfl ?_; rintro _ h_q9_12 ⟨rfl, q9_12⟩; refine rj_end (qs_bn (qs_bn (qs_n (wp_sq ?_)))); refine sq_v rfl (v_add rfl rfl ((by unfold I64; omega))) rfl ?_; refine sq_v rfl (v_move rfl) rfl (sq_end ?_); exact qs_bk (i + 1, h_q9_12) ⟨by (try dsimp only); omega, by (try dsimp only); rw [← hst (by omega), add1, if_pos (.inl c34), ← or_bool (by have := top_1 (p := p) (n := n) c34; omega) (by have := top_1 (p := p) (n := n) c34; omega)]; exact q9_12⟩ (by simp only; omega) ⟨rfl, rfl, rfl, rfl, rfl, rfl, rfl, trivial⟩ (fun _ s => s)
    · refine wp_sq (sq_v rfl (v_eql rfl rfl) rfl (sq_v rfl (v_assign rfl) rfl (sq_end (qs_n ?_)))); refine wp_cSd rfl (fun c34 => ?_) (fun c34 => ?_)
      · refine wp_rj 12 [(0, true), (1, true), (2, true), (3, true), (4, true), (5, true), (6, true), (7, true), (8, true), (9, true), (10, true), (11, true), (12, false)] mixed_ok (by kernel_rfl) (rj_v rfl rfl (v_move rfl) rfl (rj_v rfl rfl (v_move rfl) rfl (rj_v rfl rfl (v_move rfl) rfl (rj_v rfl rfl (v_move rfl) rfl (rj_v rfl rfl (v_idxI Tryz.underlying25 ty_3 rfl rfl r (by omega) (by omega)) rfl (rj_v rfl rfl (v_loadI (k := i) 2 ty_3 rfl rfl r (by omega)) rfl (rj_v rfl rfl (v_move rfl) rfl (rj_v rfl rfl (v_move rfl) rfl (rj_v rfl rfl (v_idxI Tryz.underlying25 ty_3 rfl rfl r' (by omega) (by omega)) rfl ?_))))))))); refine rj_v rfl rfl (v_loadI (k := i) 2 ty_3 rfl rfl r' (by omega)) rfl (rj_v rfl rfl (v_or rfl rfl ⟨by omega, by omega⟩ ⟨by omega, by omega⟩) rfl (rj_v rfl rfl (v_idxI Tryz.underlying25 ty_3 rfl rfl q.toR (by omega) (by omega)) rfl ?_)); refine rj_m 0 rfl rfl rfl rfl (m_storeI (k := i) 0 ty_3 rfl rfl rfl q (by omega)) rfl ?_; rintro _ h_q9_12 ⟨rfl, q9_12⟩; refine rj_end (qs_bn (qs_bn (qs_n (wp_sq ?_)))); refine sq_v rfl (v_add rfl rfl ((by unfold I64; omega))) rfl ?_; refine sq_v rfl (v_move rfl) rfl (sq_end ?_); exact qs_bk (i + 1, h_q9_12) ⟨by (try dsimp only); omega, by (try dsimp only); rw [← hst (by omega), add1, if_neg (by omega), if_neg (by omega), if_neg (by omega), if_pos c34]; exact q9_12⟩ (by simp only; omega) ⟨rfl, rfl, rfl, rfl, rfl, rfl, rfl, trivial⟩ (fun _ s => s)
      · refine wp_sc (wp_sq (sq_v rfl (v_eql rfl rfl) rfl (sq_v rfl (v_assign rfl) rfl (sq_end (qs_n ?_))))); refine wp_cd rfl (fun c49 => ?_) (fun c49 => ?_)
        · refine wp_rj 15 [(0, true), (1, true), (2, true), (3, true), (4, true), (5, true), (6, true), (7, true), (8, true), (9, true), (10, true), (11, true), (12, true), (13, true), (14, true), (15, false)] mixed_ok (by kernel_rfl) (rj_v rfl rfl (v_move rfl) rfl (rj_v rfl rfl (v_move rfl) rfl (rj_v rfl rfl (v_move rfl) rfl (rj_v rfl rfl (v_move rfl) rfl (rj_v rfl rfl (v_idxI Tryz.underlying25 ty_3 rfl rfl r (by omega) (by omega)) rfl (rj_v rfl rfl (v_loadI (k := i) 2 ty_3 rfl rfl r (by omega)) rfl (rj_v rfl rfl (v_move rfl) rfl (rj_v rfl rfl (v_move rfl) rfl (rj_v rfl rfl (v_idxI Tryz.underlying25 ty_3 rfl rfl r' (by omega) (by omega)) rfl ?_))))))))); refine rj_v rfl rfl (v_loadI (k := i) 2 ty_3 rfl rfl r' (by omega)) rfl ?_; refine rj_v rfl rfl (v_add rfl rfl ((by unfold I64; omega))) rfl ?_; refine rj_v rfl rfl (v_fieldAddr fd_37_1 ty_3 (by decide) rfl) rfl (rj_v rfl rfl (v_loadB 1 ty_3 rfl rfl rfl) rfl (rj_v rfl rfl (v_min rfl rfl) rfl (rj_v rfl rfl (v_idxI Tryz.underlying25 ty_3 rfl rfl q.toR (by omega) (by omega)) rfl ?_))); refine rj_m 0 rfl rfl rfl rfl (m_storeI (k := i) 0 ty_3 rfl rfl rfl q (by omega)) rfl ?_; rintro _ h_q11_15 ⟨rfl, q11_15⟩; refine rj_end (qs_bn (qs_bn (qs_n (wp_sq ?_)))); refine sq_v rfl (v_add rfl rfl ((by unfold I64; omega))) rfl ?_; refine sq_v rfl (v_move rfl) rfl (sq_end ?_); exact qs_bk (i + 1, h_q11_15) ⟨by (try dsimp only); omega, by (try dsimp only); rw [← hst (by omega), add1, if_neg (by omega), if_pos c49]; exact q11_15⟩ (by simp only; omega) ⟨rfl, rfl, rfl, rfl, rfl, rfl, rfl, trivial⟩ (fun _ s => s)
        · refine wp_sc (wp_sq (sq_v rfl (v_eql rfl rfl) rfl (sq_v rfl (v_assign rfl) rfl (sq_end (qs_n ?_))))); refine wp_cd rfl (fun c66 => ?_) (fun c66 => ?_)
          · refine wp_rj 12 [(0, true), (1, true), (2, true), (3, true), (4, true), (5, true), (6, true), (7, true), (8, true), (9, true), (10, true), (11, true), (12, false)] mixed_ok (by kernel_rfl) (rj_v rfl rfl (v_move rfl) rfl (rj_v rfl rfl (v_move rfl) rfl (rj_v rfl rfl (v_move rfl) rfl (rj_v rfl rfl (v_move rfl) rfl (rj_v rfl rfl (v_idxI Tryz.underlying25 ty_3 rfl rfl r (by omega) (by omega)) rfl (rj_v rfl rfl (v_loadI (k := i) 2 ty_3 rfl rfl r (by omega)) rfl (rj_v rfl rfl (v_move rfl) rfl (rj_v rfl rfl (v_move rfl) rfl (rj_v rfl rfl (v_idxI Tryz.underlying25 ty_3 rfl rfl r' (by omega) (by omega)) rfl ?_))))))))); refine rj_v rfl rfl (v_loadI (k := i) 2 ty_3 rfl rfl r' (by omega)) rfl (rj_v rfl rfl (v_min rfl rfl) rfl (rj_v rfl rfl (v_idxI Tryz.underlying25 ty_3 rfl rfl q.toR (by omega) (by omega)) rfl ?_)); refine rj_m 0 rfl rfl rfl rfl (m_storeI (k := i) 0 ty_3 rfl rfl rfl q (by omega)) rfl ?_; rintro _ h_q13_12 ⟨rfl, q13_12⟩; refine rj_end (qs_bn (qs_bn (qs_n (wp_sq ?_)))); refine sq_v rfl (v_add rfl rfl ((by unfold I64; omega))) rfl ?_; refine sq_v rfl (v_move rfl) rfl (sq_end ?_); exact qs_bk (i + 1, h_q13_12) ⟨by (try dsimp only); omega, by (try dsimp only); rw [← hst (by omega), add1, if_neg (by omega), if_neg (by omega), if_pos c66]; exact q13_12⟩ (by simp only; omega) ⟨rfl, rfl, rfl, rfl, rfl, rfl, rfl, trivial⟩ (fun _ s => s)
          · refine wp_sc (wp_sq (sq_v rfl (v_eql rfl rfl) rfl (sq_v rfl (v_assign rfl) rfl (sq_end (qs_n ?_))))); refine wp_cd rfl (fun c80 => ?_) (fun c80 => ?_)
            · refine wp_rj 12 [(0, true), (1, true), (2, true), (3, true), (4, true), (5, true), (6, true), (7, true), (8, true), (9, true), (10, true), (11, true), (12, false)] mixed_ok (by kernel_rfl) (rj_v rfl rfl (v_move rfl) rfl (rj_v rfl rfl (v_move rfl) rfl (rj_v rfl rfl (v_move rfl) rfl (rj_v rfl rfl (v_move rfl) rfl (rj_v rfl rfl (v_idxI Tryz.underlying25 ty_3 rfl rfl r (by omega) (by omega)) rfl (rj_v rfl rfl (v_loadI (k := i) 2 ty_3 rfl rfl r (by omega)) rfl (rj_v rfl rfl (v_move rfl) rfl (rj_v rfl rfl (v_move rfl) rfl (rj_v rfl rfl (v_idxI Tryz.underlying25 ty_3 rfl rfl r' (by omega) (by omega)) rfl ?_))))))))); refine rj_v rfl rfl (v_loadI (k := i) 2 ty_3 rfl rfl r' (by omega)) rfl (rj_v rfl rfl (v_max rfl rfl) rfl (rj_v rfl rfl (v_idxI Tryz.underlying25 ty_3 rfl rfl q.toR (by omega) (by omega)) rfl ?_)); refine rj_m 0 rfl rfl rfl rfl (m_storeI (k := i) 0 ty_3 rfl rfl rfl q (by omega)) rfl ?_; rintro _ h_q15_12 ⟨rfl, q15_12⟩; refine rj_end (qs_bn (qs_bn (qs_n (wp_sq ?_)))); refine sq_v rfl (v_add rfl rfl ((by unfold I64; omega))) rfl ?_; refine sq_v rfl (v_move rfl) rfl (sq_end ?_); exact qs_bk (i + 1, h_q15_12) ⟨by (try dsimp only); omega, by (try dsimp only); rw [← hst (by omega), add1, if_pos (.inr c80)]; exact q15_12⟩ (by simp only; omega) ⟨rfl, rfl, rfl, rfl, rfl, rfl, rfl, trivial⟩ (fun _ s => s)
            · refine wp_rj 15 [(0, true), (1, true), (2, true), (3, true), (4, true), (5, true), (6, true), (7, true), (8, true), (9, true), (10, true), (11, true), (12, true), (13, true), (14, true), (15, false)] mixed_ok (by kernel_rfl) (rj_v rfl rfl (v_move rfl) rfl (rj_v rfl rfl (v_move rfl) rfl (rj_v rfl rfl (v_move rfl) rfl (rj_v rfl rfl (v_move rfl) rfl (rj_v rfl rfl (v_idxI Tryz.underlying25 ty_3 rfl rfl r (by omega) (by omega)) rfl (rj_v rfl rfl (v_loadI (k := i) 2 ty_3 rfl rfl r (by omega)) rfl (rj_v rfl rfl (v_move rfl) rfl (rj_v rfl rfl (v_move rfl) rfl (rj_v rfl rfl (v_idxI Tryz.underlying25 ty_3 rfl rfl r' (by omega) (by omega)) rfl ?_))))))))); refine rj_v rfl rfl (v_loadI (k := i) 2 ty_3 rfl rfl r' (by omega)) rfl ?_; refine rj_v rfl rfl (v_add rfl rfl ((by unfold I64; omega))) rfl ?_; refine rj_v rfl rfl (v_fieldAddr fd_37_1 ty_3 (by decide) rfl) rfl (rj_v rfl rfl (v_loadB 1 ty_3 rfl rfl rfl) rfl ?_); refine rj_v rfl rfl (v_rem rfl rfl (by have := top_poly hr (kind_rest' hr (by omega) (by omega) (by omega) (by omega) (by omega)); omega)) rfl ?_; refine rj_v rfl rfl (v_idxI Tryz.underlying25 ty_3 rfl rfl q.toR (by omega) (by omega)) rfl ?_; refine rj_m 0 rfl rfl rfl rfl (m_storeI (k := i) 0 ty_3 rfl rfl rfl q (by omega)) rfl ?_; rintro _ h_q6_15 ⟨rfl, q6_15⟩; refine rj_end (qs_bn (qs_bn (qs_n (wp_sq ?_)))); refine sq_v rfl (v_add rfl rfl ((by unfold I64; omega))) rfl ?_; refine sq_v rfl (v_move rfl) rfl (sq_end ?_); exact qs_bk (i + 1, h_q6_15) ⟨by (try dsimp only); omega, by (try dsimp only); rw [← hst (by omega), add1, if_neg (by omega), if_neg (by omega), if_neg (by omega), if_neg (by omega)]; exact q6_15⟩ (by simp only; omega) ⟨rfl, rfl, rfl, rfl, rfl, rfl, rfl, trivial⟩ (fun _ s => s)
  · refine wp_ex (qs_x (qs_x (qs_bx (qs_n (wp_sc (wp_sq (sq_v rfl (v_move rfl) rfl (sq_v rfl (v_assign rfl) rfl (sq_end (qs_n (wp_rt ?_))))))))))); exact qs_ret1 rfl rfl (fin_t 0 (i := 2) rfl rfl rfl (by rw [addTo, List.drop_of_length_le (by simp; omega), List.append_nil, List.take_of_length_le (by rw [addL_len]; omega)] at q; exact q))
/-- Numbers put in the place of others, from lo on. -/
def putL (xs : List Int) (lo : Nat) (ys : List Int) : List Int := xs.take lo ++ ys ++ xs.drop (lo + ys.length)
theorem putL_len {xs ys : List Int} {lo : Nat} (h : lo + ys.length ≤ xs.length) : (putL xs lo ys).length = xs.length := by simp [putL]; omega
theorem putL_set {xs ys : List Int} {lo i : Nat} (h : lo + ys.length ≤ xs.length) (hi : i < ys.length) (a : Int) : (putL xs lo ys).set (lo + i) a = putL xs lo (ys.set i a) := by
  unfold putL
  rw [List.append_assoc, List.set_append_right _ _ (by simp; omega), List.set_append_left _ _ (by simp; omega), List.length_set, List.append_assoc]
  congr 3
  simp; omega
theorem putL_win {xs ys : List Int} {lo : Nat} (h : lo + ys.length ≤ xs.length) : ((putL xs lo ys).drop lo).take ys.length = ys := by
  have : (xs.take lo).length = lo := by simp; omega
  unfold putL
  rw [List.append_assoc, List.drop_append, this, Nat.sub_self, List.drop_zero, List.drop_of_length_le (by omega), List.nil_append, List.take_left]
theorem putL_self {xs : List Int} {lo m : Nat} (h : lo + m ≤ xs.length) : putL xs lo ((xs.drop lo).take m) = xs := by
  unfold putL
  have : ((xs.drop lo).take m).length = m := by simp; omega
  rw [this, List.append_assoc, ← List.drop_drop]; rw [List.take_append_drop, List.take_append_drop]
theorem IntsO.win {xs ys : List Int} {lo hi : Nat} {v : Value} {g : PH} (q : IntsO (putL xs lo ys) v g) (h : lo + ys.length ≤ xs.length) (hh : hi = lo + ys.length) : IntsR ys (subV v lo hi 1) g := by
  subst hh; have := q.toR.sub (lo := lo) (hi := lo + ys.length) (by omega) (by rw [putL_len h]; exact h)
  rwa [Nat.add_sub_cancel_left, putL_win h] at this
set_option maxHeartbeats 1000000 in
theorem ct_i_addInto (k p n : Int) (xs y : List Int) (lo hi : Nat) (sv u : Value) (w : World) (h : PH) (hr : ringL k p n) (hle : PLe h (hp w)) (rz : IntsO xs sv h) (r' : IntsR y u (restP w h)) (hh : hi = lo + y.length) (hxs : hi ≤ xs.length) (hx : InR k p n ((xs.drop lo).take y.length)) (hy : InR k p n y) :
    Calls Tryz.prog 140 [ringV k p n, subV sv lo hi 1, u].toArray w (Ret w h (fun _ h' => IntsO (putL xs lo (addL k p ((xs.drop lo).take y.length) y)) sv h')) := by
  have h1 := hx.len hr; have h2 := hy.len hr; have htr := top_range hr; have hrp := ring_p hr; have hx0 := hx.at hr 0 (by omega); have hy0 := hy.at hr 0 (by omega); have hwl : ((xs.drop lo).take y.length).length = y.length := by simp; omega
  rw [← putL_self (xs := xs) (lo := lo) (m := y.length) (by omega)] at rz
  generalize ((xs.drop lo).take y.length) = x at *
  have rs := rz.win (hi := hi) (by omega) (by omega); have hone : ∀ a q1 h', IntsO ((putL xs lo x).set (lo + 0) a) sv h' → x.length = 1 → add1 k p (x.getD 0 0) (y.getD 0 0) = a → q1 = h' → IntsO (putL xs lo (addL k p x y)) sv h' := fun a q1 h' q hl1 he _ => by
    rw [putL_set (by omega) (by omega)] at q; have e : addL k p x y = x.set 0 a := by
      match x, hl1 with
      | [b], _ => simp [addL, ← he]
    rw [e]; exact q
  refine calls_in Tryz.func140 rfl Tryz.ntmps140 rfl (Sat.start2 hle) ?_; have hle0 := rz.toR.le; have hle1 := r'.le; have hle2 := rs.le; refine wp_sc (wp_sq ?_); refine sq_x rfl (x_box rfl rfl) rfl ?_; rintro _ _ ⟨b3, rfl, rfl⟩; refine sq_end (qs_n (wp_sc (wp_sq (sq_v rfl (v_fieldAddr fd_37_0 ty_3 (by decide) rfl) rfl (sq_v rfl (v_loadB 0 ty_3 rfl rfl rfl) rfl (sq_end (qs_n (wp_bl (wp_sc (wp_sc (wp_sq (sq_v rfl (v_eql rfl rfl) rfl (sq_v rfl (v_assign rfl) rfl (sq_end (qs_n ?_))))))))))))))); refine wp_cSd rfl (fun c30 => ?_) (fun c30 => ?_)
  · refine wp_sk (qs_n (wp_ct rfl (wp_rj 9 [(0, true), (1, true), (2, true), (3, true), (4, true), (5, true), (6, true), (7, true), (8, true), (9, false)] mixed_ok (by kernel_rfl) (rj_v rfl rfl (v_move rfl) rfl (rj_v rfl rfl (v_move rfl) rfl (rj_v rfl rfl (v_idxI Tryz.underlying25 ty_3 rfl rfl rs (by omega) (by omega)) rfl (rj_v rfl rfl (v_loadI (k := 0) 1 ty_3 rfl rfl rs (by omega)) rfl (rj_v rfl rfl (v_move rfl) rfl (rj_v rfl rfl (v_idxI Tryz.underlying25 ty_3 rfl rfl r' (by omega) (by omega)) rfl (rj_v rfl rfl (v_loadI (k := 0) 2 ty_3 rfl rfl r' (by omega)) rfl (rj_v rfl rfl (v_max rfl rfl) rfl ?_))))))))))); refine rj_v rfl rfl (v_idxI Tryz.underlying25 ty_3 rfl rfl rs (by omega) (by omega)) rfl ?_; refine rj_m 1 rfl rfl rfl rfl (m_storeSub 1 ty_3 rfl rfl rfl rz (by omega) (by rw [putL_len (by omega)]; omega)) rfl ?_; rintro _ h_q9 ⟨rfl, q9⟩; refine rj_end (qs_bn ?_); exact qs_ret0 rfl (fin_m 1 (i := 2) rfl rfl rfl (hone _ _ _ q9 (by have := width_1 (k := k) (n := n) (by omega) (by omega); omega) (by simp [add1, c30]) rfl))
  · refine wp_sq (sq_v rfl (v_eql rfl rfl) rfl (sq_v rfl (v_assign rfl) rfl (sq_end (qs_n ?_)))); refine wp_cSd rfl (fun c30 => ?_) (fun c30 => ?_)
    · refine wp_rj 9 [(0, true), (1, true), (2, true), (3, true), (4, true), (5, true), (6, true), (7, true), (8, true), (9, false)] mixed_ok (by kernel_rfl) (rj_v rfl rfl (v_move rfl) rfl (rj_v rfl rfl (v_move rfl) rfl (rj_v rfl rfl (v_idxI Tryz.underlying25 ty_3 rfl rfl rs (by omega) (by omega)) rfl (rj_v rfl rfl (v_loadI (k := 0) 1 ty_3 rfl rfl rs (by omega)) rfl (rj_v rfl rfl (v_move rfl) rfl (rj_v rfl rfl (v_idxI Tryz.underlying25 ty_3 rfl rfl r' (by omega) (by omega)) rfl (rj_v rfl rfl (v_loadI (k := 0) 2 ty_3 rfl rfl r' (by omega)) rfl (rj_v rfl rfl (v_max rfl rfl) rfl (rj_v rfl rfl (v_idxI Tryz.underlying25 ty_3 rfl rfl rs (by omega) (by omega)) rfl ?_))))))))); refine rj_m 1 rfl rfl rfl rfl (m_storeSub 1 ty_3 rfl rfl rfl rz (by omega) (by rw [putL_len (by omega)]; omega)) rfl ?_; rintro _ h_q9 ⟨rfl, q9⟩; refine rj_end (qs_bn ?_); exact qs_ret0 rfl (fin_m 1 (i := 2) rfl rfl rfl (hone _ _ _ q9 (by have := width_1 (k := k) (n := n) (by omega) (by omega); omega) (by simp [add1, c30]) rfl))
    · refine wp_sc (wp_sq (sq_v rfl (v_eql rfl rfl) rfl (sq_v rfl (v_assign rfl) rfl (sq_end (qs_n ?_))))); refine wp_cd rfl (fun c42 => ?_) (fun c42 => ?_)
      · refine wp_rj 12 [(0, true), (1, true), (2, true), (3, true), (4, true), (5, true), (6, true), (7, true), (8, true), (9, true), (10, true), (11, true), (12, false)] mixed_ok (by kernel_rfl) (rj_v rfl rfl (v_move rfl) rfl (rj_v rfl rfl (v_move rfl) rfl (rj_v rfl rfl (v_idxI Tryz.underlying25 ty_3 rfl rfl rs (by omega) (by omega)) rfl (rj_v rfl rfl (v_loadI (k := 0) 1 ty_3 rfl rfl rs (by omega)) rfl (rj_v rfl rfl (v_move rfl) rfl (rj_v rfl rfl (v_idxI Tryz.underlying25 ty_3 rfl rfl r' (by omega) (by omega)) rfl (rj_v rfl rfl (v_loadI (k := 0) 2 ty_3 rfl rfl r' (by omega)) rfl ?_))))))); refine rj_v rfl rfl (v_add rfl rfl ((by unfold I64; omega))) rfl ?_; refine rj_v rfl rfl (v_fieldAddr fd_37_1 ty_3 (by decide) rfl) rfl (rj_v rfl rfl (v_loadB 0 ty_3 rfl rfl rfl) rfl (rj_v rfl rfl (v_min rfl rfl) rfl (rj_v rfl rfl (v_idxI Tryz.underlying25 ty_3 rfl rfl rs (by omega) (by omega)) rfl ?_))); refine rj_m 1 rfl rfl rfl rfl (m_storeSub 1 ty_3 rfl rfl rfl rz (by omega) (by rw [putL_len (by omega)]; omega)) rfl ?_; rintro _ h_q11 ⟨rfl, q11⟩; refine rj_end (qs_bn ?_); exact qs_ret0 rfl (fin_m 1 (i := 2) rfl rfl rfl (hone _ _ _ q11 (by have := width_1 (k := k) (n := n) (by omega) (by omega); omega) (by simp [add1, c42]) rfl))
      · refine wp_sc (wp_sq (sq_v rfl (v_eql rfl rfl) rfl (sq_v rfl (v_assign rfl) rfl (sq_end (qs_n ?_))))); refine wp_cd rfl (fun c56 => ?_) (fun c56 => ?_)
        · refine wp_rj 9 [(0, true), (1, true), (2, true), (3, true), (4, true), (5, true), (6, true), (7, true), (8, true), (9, false)] mixed_ok (by kernel_rfl) (rj_v rfl rfl (v_move rfl) rfl (rj_v rfl rfl (v_move rfl) rfl (rj_v rfl rfl (v_idxI Tryz.underlying25 ty_3 rfl rfl rs (by omega) (by omega)) rfl (rj_v rfl rfl (v_loadI (k := 0) 1 ty_3 rfl rfl rs (by omega)) rfl (rj_v rfl rfl (v_move rfl) rfl (rj_v rfl rfl (v_idxI Tryz.underlying25 ty_3 rfl rfl r' (by omega) (by omega)) rfl (rj_v rfl rfl (v_loadI (k := 0) 2 ty_3 rfl rfl r' (by omega)) rfl (rj_v rfl rfl (v_min rfl rfl) rfl (rj_v rfl rfl (v_idxI Tryz.underlying25 ty_3 rfl rfl rs (by omega) (by omega)) rfl ?_))))))))); refine rj_m 1 rfl rfl rfl rfl (m_storeSub 1 ty_3 rfl rfl rfl rz (by omega) (by rw [putL_len (by omega)]; omega)) rfl ?_; rintro _ h_q13 ⟨rfl, q13⟩; refine rj_end (qs_bn ?_); exact qs_ret0 rfl (fin_m 1 (i := 2) rfl rfl rfl (hone _ _ _ q13 (by have := width_1 (k := k) (n := n) (by omega) (by omega); omega) (by simp [add1, c56]) rfl))
        · refine wp_sc (wp_sq (sq_v rfl (v_eql rfl rfl) rfl (sq_v rfl (v_assign rfl) rfl (sq_end (qs_n ?_))))); refine wp_cd rfl (fun c67 => ?_) (fun c67 => ?_)
          · refine wp_rj 8 [(0, true), (1, true), (2, true), (3, true), (4, true), (5, true), (6, true), (7, true), (8, false)] mixed_ok (by kernel_rfl) (rj_v rfl rfl (v_move rfl) rfl (rj_v rfl rfl (v_idxI Tryz.underlying25 ty_3 rfl rfl rs (by omega) (by omega)) rfl (rj_v rfl rfl (v_loadI (k := 0) 1 ty_3 rfl rfl rs (by omega)) rfl (rj_v rfl rfl (v_move rfl) rfl (rj_v rfl rfl (v_idxI Tryz.underlying25 ty_3 rfl rfl r' (by omega) (by omega)) rfl (rj_v rfl rfl (v_loadI (k := 0) 2 ty_3 rfl rfl r' (by omega)) rfl (rj_v rfl rfl (v_or rfl rfl ⟨by omega, by omega⟩ ⟨by omega, by omega⟩) rfl (rj_v rfl rfl (v_idxI Tryz.underlying25 ty_3 rfl rfl rs (by omega) (by omega)) rfl ?_)))))))); refine rj_m 1 rfl rfl rfl rfl (m_storeSub 1 ty_3 rfl rfl rfl rz (by omega) (by rw [putL_len (by omega)]; omega)) rfl ?_; rintro _ h_q15 ⟨rfl, q15⟩; refine rj_end (qs_bn ?_); exact qs_ret0 rfl (fin_m 1 (i := 2) rfl rfl rfl (hone _ _ _ q15 (by have := width_1 (k := k) (n := n) (by omega) (by omega); omega) (by simp [add1, c67]) rfl))
          · refine wp_sc (wp_sq (sq_v rfl (v_move rfl) rfl (sq_v rfl (v_len Tryz.underlying25 rfl rs.sl) rfl (sq_v rfl (v_move rfl) rfl (sq_end (qs_n (wp_bl ?_))))))); refine wp_lp (σ := Nat × PH) (fun z_ => [(1, subV sv lo hi 1), (2, u), (3, .pointer (some ⟨b3, 0, none⟩)), (10, num x.length), (11, num z_.1)]) (fun z_ => [box b3 [num k, num p, num n] 37, z_.2, (restP w h)]) (fun z_ => z_.1 ≤ x.length ∧ IntsO (putL xs lo (addTo k p x y x z_.1)) sv z_.2) (fun z_ => x.length - z_.1) (0, h) (⟨by (try dsimp only); omega, by (try dsimp only); simpa [addTo] using rz⟩) ⟨rfl, rfl, rfl, rfl, rfl, trivial⟩ (fun _ s => s) ?_; rintro ⟨i, g⟩ ⟨hi', q⟩; dsimp only at hi' q ⊢; have hle_q := q.toR.le; have hl := addTo_len (k := k) (p := p) (y := y) (o := x) hi' rfl; have hst : i < x.length → _ := fun h => addTo_step (k := k) (p := p) (y := y) (o := x) h rfl; have rs' := q.win (hi := hi) (by omega) (by omega); have hgi := addTo_get (k := k) (p := p) (x := x) (y := y) (o := x) (Nat.le_refl i) hi'; refine wp_sc (wp_sq (sq_v rfl (v_lss rfl rfl) rfl (sq_end (qs_n (wp_sc ?_))))); refine wp_cd rfl (fun c12 => ?_) (fun c12 => ?_)
            · refine wp_sk (qs_n (wp_sc (wp_bl (wp_sc (wp_sq (sq_v rfl (v_move rfl) rfl (sq_v rfl (v_assign rfl) rfl (sq_end ?_)))))))); have hxi := hx.at hr i (by omega); have hyi := hy.at hr i (by omega); refine qs_n (wp_rj 15 [(0, true), (1, true), (2, true), (3, true), (4, true), (5, true), (6, true), (7, true), (8, true), (9, true), (10, true), (11, true), (12, true), (13, true), (14, true), (15, false)] mixed_ok (by kernel_rfl) (rj_v rfl rfl (v_move rfl) rfl (rj_v rfl rfl (v_move rfl) rfl (rj_v rfl rfl (v_move rfl) rfl (rj_v rfl rfl (v_move rfl) rfl (rj_v rfl rfl (v_idxI Tryz.underlying25 ty_3 rfl rfl rs' (by omega) (by omega)) rfl (rj_v rfl rfl (v_loadI (k := i) 1 ty_3 rfl rfl rs' (by omega)) rfl (rj_v rfl rfl (v_move rfl) rfl (rj_v rfl rfl (v_move rfl) rfl (rj_v rfl rfl (v_idxI Tryz.underlying25 ty_3 rfl rfl r' (by omega) (by omega)) rfl ?_)))))))))); refine rj_v rfl rfl (v_loadI (k := i) 2 ty_3 rfl rfl r' (by omega)) rfl ?_; refine rj_v rfl rfl (v_add rfl rfl ((by unfold I64; omega))) rfl ?_; refine rj_v rfl rfl (v_fieldAddr fd_37_1 ty_3 (by decide) rfl) rfl (rj_v rfl rfl (v_loadB 0 ty_3 rfl rfl rfl) rfl ?_); refine rj_v rfl rfl (v_rem rfl rfl (by have := top_poly hr (kind_rest' hr (by omega) (by omega) (by omega) (by omega) (by omega)); omega)) rfl ?_; refine rj_v rfl rfl (v_idxI Tryz.underlying25 ty_3 rfl rfl rs' (by omega) (by omega)) rfl ?_; refine rj_m 1 rfl rfl rfl rfl (m_storeSub 1 ty_3 rfl rfl rfl q (by omega) (by rw [putL_len (by omega)]; omega)) rfl ?_; rintro _ h_q5 ⟨rfl, q5⟩; refine rj_end (qs_bn (qs_n (wp_sq ?_))); refine sq_v rfl (v_add rfl rfl ((by unfold I64; omega))) rfl ?_; refine sq_v rfl (v_move rfl) rfl (sq_end ?_); exact qs_bk (i + 1, h_q5) ⟨by (try dsimp only); omega, by (try dsimp only); rw [← hst (by omega), ← putL_set (by omega) (by omega), add1, if_neg (by omega), if_neg (by omega), if_neg (by omega), if_neg (by omega)]; rw [hgi] at q5; exact q5⟩ (by simp only; omega) ⟨rfl, rfl, rfl, rfl, rfl, trivial⟩ (fun _ s => s)
            · refine wp_ex (qs_x (qs_x (qs_bx (qs_bn ?_)))); exact qs_ret0 rfl (fin_m 1 (i := 2) rfl rfl rfl (by rw [addTo, List.drop_of_length_le (by omega), List.append_nil, List.take_of_length_le (by rw [addL_len]; omega)] at q; exact q))
end Go.Proofs.YthlmjnihihbckaaGreat
namespace Go.Proofs.YthlmjnihihbckaaGreat
set_option maxRecDepth 100000
open Go.RowKit
theorem zeroL_get {k p n : Int} (hr : ringL k p n) {i : Nat} (hi : i < (widthI k n).toNat) : (zeroL k p n).getD i 0 = if k = 4 then p else 0 := by
  unfold zeroL
  split
  · rename_i e
    rw [width_1 (by omega) (by omega)] at hi; have : i = 0 := by simp at hi; omega
    subst this; rfl
  · simp [List.getD, hi]
theorem add1_zero {k p n a : Int} (hr : ringL k p n) (ha : 0 ≤ a ∧ a ≤ topI k p n) : add1 k p (if k = 4 then p else 0) a = a := by
  unfold add1
  split
  · rename_i h; rw [if_neg (by omega)]; omega
  · split
    · rename_i h0 h; rw [if_neg (by omega)]
      have : topI k p n = p := by unfold topI; rw [if_neg (by omega), if_pos (by omega)]
      omega
    · split
      · rename_i h1 h0 h
        have : topI k p n = p := by unfold topI; rw [if_neg (by omega), if_pos (by omega)]
        omega
      · split
        · rename_i h2 h1 h0 h; simp; omega
        · rename_i h3 h2 h1 h0
          have hk : k = 2 ∨ k = 7 ∨ k = 8 := by unfold ringL at hr; omega
          have := top_poly hr hk; rw [Int.zero_add]; exact Int.tmod_eq_of_lt ha.1 (by omega)
theorem add_zero {k p n : Int} (hr : ringL k p n) {x : List Int} (hx : InR k p n x) : addL k p (zeroL k p n) x = x := by
  have hl := zeroL_len k p n; refine ext_getD (by rw [addL_len, hl, hx.1]) fun i hi => ?_; rw [addL_len, hl] at hi; rw [addL_get (by rw [hl]; exact hi), zeroL_get hr hi]; exact add1_zero hr (hx.at hr i (by rw [hx.1]; exact hi))
theorem set_same {xs : List Int} {i : Nat} (h : i < xs.length) : xs.set i (xs.getD i 0) = xs := by
  refine ext_getD (by simp) fun j hj => ?_; rw [List.length_set] at hj
  by_cases e : i = j
  · subst e; simp [List.getD, hj]
  · simp [List.getD, List.getElem?_set_ne e]
theorem step_none {k p n : Int} {x y out : List Int} {i j : Nat} (hk : k = 7 ∧ (widthI k n).toNat ≤ 6 ∨ k = 8) (hp : 1 ≤ p) (ho : PolyIn k p n out) (hj : y.getD j 0 = 0) (hij : 4 ≤ i + j → k = 8 → i + j - 4 < out.length) : mulStep k p x y out i j = out := by
  have h0 : ∀ m, (out.getD m 0).tmod p = out.getD m 0 := fun m => by
    have := ho.at hp m; exact Int.tmod_eq_of_lt this.1 (by omega)
  unfold mulStep
  split
  · rename_i h
    rw [hj, Int.mul_zero, Int.add_zero, h0, set_same h]
  · split
    · rename_i h h8
      rw [hj, Int.mul_zero, Int.add_zero, h0]; have hw : out.length = 4 := by rw [ho.1, widthI, if_neg (by omega), if_pos h8]; rfl
      exact set_same (hij (by omega) h8)
    · rfl
theorem step_one {k p n : Int} {x y out : List Int} {i : Nat} (hi : i < out.length) (hj : y.getD 0 0 = 1) : mulStep k p x y out i 0 = out.set i ((out.getD i 0 + x.getD i 0).tmod p) := by
  unfold mulStep
  rw [Nat.add_zero, if_pos hi, hj, Int.mul_one]
theorem row_one {k p n : Int} {x y out : List Int} {i : Nat} (hk : k = 7 ∧ (widthI k n).toNat ≤ 6 ∨ k = 8) (hp : 2 ≤ p) (hx : PolyIn k p n x) (ho : PolyIn k p n out) (hi : i < out.length) (h1 : y.getD 0 0 = 1) (h0 : ∀ j, 0 < j → y.getD j 0 = 0) (hl : out.length ≤ 6) (hyl : y.length = out.length) :
    ∀ m, m + 1 ≤ y.length → mulRow k p x y i out (m + 1) = out.set i ((out.getD i 0 + x.getD i 0).tmod p)
  | 0, _ => by
    rw [mulRow_step]
    show mulStep k p x y (mulRow k p x y i out 0) i 0 = _
    rw [show mulRow k p x y i out 0 = out from rfl]; exact step_one (n := n) hi h1
  | m + 1, hm => by
    have ih := row_one hk hp hx ho hi h1 h0 hl hyl m (by omega); have hin : PolyIn k p n (out.set i ((out.getD i 0 + x.getD i 0).tmod p)) := ho.set _ (tmod_in (by have := (ho.at (by omega) i).1; have := (hx.at (by omega) i).1; omega) (by omega)); rw [mulRow_step, ih]; refine step_none hk (by omega) hin (h0 _ (by omega)) (fun h4 h8 => ?_); rw [List.length_set]; have hw : out.length = 4 := by rw [ho.1, widthI, if_neg (by omega), if_pos h8]; rfl
    omega
theorem to_one {k p n : Int} {x y : List Int} (hk : k = 7 ∧ (widthI k n).toNat ≤ 6 ∨ k = 8) (hp : 2 ≤ p) (hx : PolyIn k p n x) (h1 : y.getD 0 0 = 1) (h0 : ∀ j, 0 < j → y.getD j 0 = 0) (hl : x.length ≤ 6) (hl1 : 1 ≤ x.length) (hyl : y.length = x.length) :
    ∀ m, m ≤ x.length → mulTo k p x y (List.replicate x.length 0) m = x.take m ++ List.replicate (x.length - m) 0
  | 0, _ => by simp [mulTo]
  | m + 1, hm => by
    have ih := to_one hk hp hx h1 h0 hl hl1 hyl m (by omega); have hout : PolyIn k p n (x.take m ++ List.replicate (x.length - m) 0) := ⟨by rw [← hx.1]; simp; omega, fun a ha => by
      rcases List.mem_append.1 ha with h | h
      · exact hx.2 a (List.mem_of_mem_take h)
      · rw [List.eq_of_mem_replicate h]; omega⟩
    have hol : (x.take m ++ List.replicate (x.length - m) (0 : Int)).length = x.length := by simp; omega
    rw [mulTo_step, ih]; obtain ⟨q, hq⟩ : ∃ q, y.length = q + 1 := ⟨y.length - 1, by omega⟩
    rw [hq, row_one hk hp hx hout (by rw [hol]; omega) h1 h0 (by rw [hol]; exact hl) (by rw [hol]; exact hyl) q (by omega)]; have hz : (x.take m ++ List.replicate (x.length - m) (0 : Int)).getD m 0 = 0 := by
      have hlt : (x.take m).length = m := by simp; omega
      simp only [List.getD]; rw [List.getElem?_append_right (by omega), hlt, Nat.sub_self]
      simp [show 0 < x.length - m by omega]
    have hxm := hx.at (by omega : 1 ≤ p) m; rw [hz, Int.zero_add, Int.tmod_eq_of_lt hxm.1 (by omega)]; have hlt : (x.take m).length = m := by simp; omega
    obtain ⟨r, hr⟩ : ∃ r, x.length - m = r + 1 := ⟨x.length - m - 1, by omega⟩
    rw [List.set_append_right _ _ (by omega), hlt, Nat.sub_self, hr, List.replicate_succ, List.set_cons_zero, show x.length - (m + 1) = r by omega, List.take_succ_eq_append_getElem (by omega), List.append_assoc]
    congr 1
    simp [List.getD, show m < x.length by omega]
theorem one_poly {k p n : Int} (hk : k = 1 ∨ k = 2 ∨ k = 3 ∨ k = 7 ∨ k = 8) (hw : 1 ≤ (widthI k n).toNat) : (oneL k p n).getD 0 0 = 1 ∧ ∀ j, 0 < j → (oneL k p n).getD j 0 = 0 := by
  have e : oneL k p n = (List.replicate (widthI k n).toNat 0).set 0 1 := by unfold oneL; rw [if_neg (by omega), if_neg (by omega)]
  rw [e]; refine ⟨by simp [List.getD, show 0 < (widthI k n).toNat by omega], fun j hj => ?_⟩
  show ((List.replicate (widthI k n).toNat (0 : Int)).set 0 1)[j]?.getD 0 = 0
  rw [List.getElem?_set_ne (by omega)]
  cases h : (List.replicate (widthI k n).toNat (0 : Int))[j]? with
  | none => rfl
  | some z => exact List.eq_of_mem_replicate (List.mem_of_getElem? h)
theorem mul_one {k p n : Int} (hr : ringL k p n) {x : List Int} (hx : InR k p n x) : mulL k p n x (oneL k p n) = x := by
  have hlen := hx.len hr; have hx0 := hx.at hr 0 (by omega); have hwd : 1 ≤ (widthI k n).toNat := by have := hx.1; omega
  have hsing : k ≠ 7 → k ≠ 8 → x = [x.getD 0 0] := fun h7 h8 => by
    have h1 := hx.1; rw [width_1 h7 h8] at h1
    match x, h1 with
    | [a], _ => rfl
  unfold mulL
  by_cases h15 : k = 1 ∨ k = 5
  · rw [if_pos h15]; have h1 : (oneL k p n).getD 0 0 = topI k p n := by
      rcases h15 with h | h
      · rw [(one_poly (.inl h) hwd).1]; unfold topI; rw [if_pos h]
      · unfold oneL; rw [if_neg (by omega), if_pos (.inl h)]; rfl
    rw [h1, Int.min_eq_left hx0.2]; exact (hsing (by omega) (by omega)).symm
  · rw [if_neg h15]
    by_cases h2 : k = 2
    · rw [if_pos h2, (one_poly (.inr (.inl h2)) hwd).1, Int.mul_one]; have := top_poly hr (.inl h2); rw [Int.tmod_eq_of_lt hx0.1 (by omega)]; exact (hsing (by omega) (by omega)).symm
    · rw [if_neg h2]
      by_cases h3 : k = 3
      · rw [if_pos h3, (one_poly (.inr (.inr (.inl h3))) hwd).1, Int.mul_one]; have : topI k p n = p := by unfold topI; rw [if_neg (by omega), if_pos (by omega)]
        rw [Int.min_eq_left (by omega)]; exact (hsing (by omega) (by omega)).symm
      · rw [if_neg h3]
        by_cases h4 : k = 4
        · have e : (oneL k p n).getD 0 0 = 0 := by unfold oneL; rw [if_pos h4]; rfl
          have : topI k p n = p := by unfold topI; rw [if_neg (by omega), if_pos (by omega)]
          rw [if_pos h4, e, Int.add_zero, Int.min_eq_left (by omega)]; exact (hsing (by omega) (by omega)).symm
        · rw [if_neg h4]
          by_cases h6 : k = 6
          · have ht : topI k p n = 2 ^ n.toNat - 1 := by unfold topI; rw [if_neg (by omega), if_neg (by omega), if_pos h6]
            have e : (oneL k p n).getD 0 0 = 2 ^ n.toNat - 1 := by unfold oneL; rw [if_neg h4, if_pos (.inr h6), ht]; rfl
            have hc : ((2 ^ n.toNat : Nat) : Int) = (2 : Int) ^ n.toNat := by simp
            have hpos : 0 < 2 ^ n.toNat := Nat.two_pow_pos _; have e2 : ((2 : Int) ^ n.toNat - 1).toNat = 2 ^ n.toNat - 1 := by omega
            rw [if_pos h6, e, e2, Nat.and_two_pow_sub_one_eq_mod, Nat.mod_eq_of_lt (by omega), Int.toNat_of_nonneg hx0.1]; exact (hsing (by omega) (by omega)).symm
          · rw [if_neg h6]; have hk : k = 7 ∨ k = 8 := by unfold ringL at hr; omega
            have htp := top_poly hr (.inr hk); have ho := one_poly (p := p) (n := n) (k := k) (by omega) hwd; have hk' : k = 7 ∧ (widthI k n).toNat ≤ 6 ∨ k = 8 := by rcases hk with h | h; exact .inl ⟨h, by have := hx.1; omega⟩; exact .inr h
            have := to_one hk' htp.2.1 (hx.poly hr (.inr hk)) ho.1 ho.2 hlen.2.1 hlen.1 (by rw [oneL_len, hx.1]) x.length (Nat.le_refl _); rw [← hx.1, this]
            simp
end Go.Proofs.YthlmjnihihbckaaGreat
