/-
  Parts of the proof of FnBest: laws of heaps, contracts of functions.
  Conditions: none.
-/
import Derived.Test.YtiefkcaplhnnmaaGreatQFnBest3
namespace Go.Proofs.YtiefkcaplhnnmaaGreat
set_option maxRecDepth 100000
open Go.RowKit
theorem filter_yes {xs : List Int} {p : Int → Bool} {i : Nat} (h : i < xs.length) (hp : p (xs.getD i 0) = true) : (xs.take (i + 1)).filter p = (xs.take i).filter p ++ [xs.getD i 0] := by
  rw [take_succ h, List.filter_append, List.filter_cons_of_pos hp]; rfl
theorem filter_no {xs : List Int} {p : Int → Bool} {i : Nat} (h : i < xs.length) (hp : p (xs.getD i 0) = false) : (xs.take (i + 1)).filter p = (xs.take i).filter p := by
  rw [take_succ h, List.filter_append, List.filter_cons_of_neg (by rw [hp]; decide)]; simp
theorem filter_take_len (xs : List Int) (p : Int → Bool) (i : Nat) : ((xs.take i).filter p).length ≤ xs.length := by
  have := List.length_filter_le p (xs.take i); simp only [List.length_take] at this
  omega
theorem ct_i_joinLabels (xs ys : List Int) (v u : Value) (w : World) (r : IntsR xs v (hp w)) (r' : IntsR ys u (hp w)) (hs : xs.length + ys.length ≤ 1000000) :
    Calls Tryz.prog 132 [v, u].toArray w (Ret w emp (IntsO (joinI xs ys))) := by
  refine calls_in Tryz.func132 rfl Tryz.ntmps132 rfl (Sat.start w) ?_; have hle0 := r.le; have hle1 := r'.le; refine wp_sc (wp_sq (sq_v rfl (v_assign rfl) rfl (sq_end (qs_n (wp_sc (wp_sq (sq_v rfl (v_move rfl) rfl ?_))))))); refine sq_x rfl (x_call rfl en_47 (fun w s => ct_i_copyInts _ _ w (r.mono (s.get 0 rfl)) (by first | assumption | omega))) rfl ?_; rintro v9 h9 r9; refine sq_v rfl (v_assign rfl) rfl (sq_end (qs_n (wp_sc (wp_sc (wp_sq (sq_v rfl (v_move rfl) rfl (sq_v rfl (v_len Tryz.underlying27 rfl r'.sl) rfl (sq_v rfl (v_move rfl) rfl (sq_end (qs_n (wp_bl ?_))))))))))); refine wp_lp (σ := Nat × Value × PH) (fun z_ => [(0, v), (4, .slice none 0 0), (5, z_.2.1), (10, u), (11, num ys.length), (12, num z_.1)]) (fun z_ => [z_.2.2, hp w]) (fun z_ => z_.1 ≤ ys.length ∧ IntsO (xs ++ (ys.take z_.1).filter fun x => decide (x ∉ xs)) z_.2.1 z_.2.2) (fun z_ => ys.length - z_.1) (0, v9, h9) (⟨by (try dsimp only); omega, by (try dsimp only); simpa using r9⟩) ⟨rfl, rfl, (by first | rfl | exact ksub rfl (by first | omega | (simp; done) | (simp; omega))), rfl, rfl, (by first | rfl | exact ksub rfl (by first | omega | (simp; done) | (simp; omega))), trivial⟩ (fun _ s => s) ?_; rintro ⟨i, lv, lh⟩ ⟨hi, q⟩; dsimp only at hi q ⊢; have hle_q := q.toR.le; have hfl := filter_take_len ys (fun x => decide (x ∉ xs)) i; refine wp_sc (wp_sq (sq_v rfl (v_lss rfl rfl) rfl (sq_end (qs_n (wp_sc ?_))))); refine wp_cd rfl (fun c13 => ?_) (fun c13 => ?_)
  · refine wp_sk (qs_n (wp_sc (wp_bl (wp_sc (wp_sq ?_))))); refine sq_v rfl (v_idxI Tryz.underlying27 ty_3 rfl rfl r' (by first | omega | (simp; omega) | (simp only [List.length_append, List.length_cons, List.length_nil]; omega) | (rw [List.length_set]; omega)) (by first | omega | (simp; omega) | (simp only [List.length_append, List.length_cons, List.length_nil]; omega) | (rw [List.length_set]; omega))) rfl ?_; refine sq_v rfl (v_loadI (k := i) 1 ty_3 rfl rfl r' (by first | omega | (simp; omega) | (simp only [List.length_append, List.length_cons, List.length_nil]; omega) | (rw [List.length_set]; omega))) rfl ?_; refine sq_v rfl (v_assign rfl) rfl (sq_end (qs_n (wp_sc (wp_sq (sq_v rfl (v_move rfl) rfl (sq_v rfl (v_move rfl) rfl (sq_u rfl (x_callv rfl en_64 (fun w s => ct_i_hasInt _ _ _ w (r.mono (s.get 1 rfl)))) rfl (sq_v rfl (v_not rfl) rfl (sq_end (qs_n ?_)))))))))); refine wp_cnd rfl (fun c19 => ?_) (fun c19 => ?_)
    · refine wp_sq (sq_v rfl (v_move rfl) rfl (sq_v rfl (v_move rfl) rfl ?_)); refine sq_x rfl (x_buildS [num (ys.getD i 0)] Tryz.underlying27 ty_3 (by decide) rfl rfl rfl (by decide) (by decide) (by intro v hv; simp at hv; rcases hv with rfl <;> rfl)) rfl ?_; intro v22 h22 (r22 : IntsO [ys.getD i 0] v22 h22); refine sq_m 1 rfl rfl (m_appI 1 0 Tryz.underlying27 ty_3 rfl rfl rfl rfl q rfl r22.toR (by first | omega | (simp; omega) | (simp only [List.length_append, List.length_cons, List.length_nil]; omega) | (rw [List.length_set]; omega))) rfl ?_; intro v23 h_r23 r23; refine sq_v rfl (v_assign rfl) rfl (sq_end (qs_bn (qs_n (wp_sq ?_)))); refine sq_v rfl (v_add rfl rfl ((by unfold I64; omega))) rfl ?_; refine sq_v rfl (v_move rfl) rfl (sq_end ?_); exact qs_bk (i + 1, v23, h_r23) ⟨by (try dsimp only); omega, by (try dsimp only); rw [filter_yes (by omega) (by simpa using c19), ← List.append_assoc]; exact r23⟩ (by simp only; omega) ⟨rfl, rfl, (by first | rfl | exact ksub rfl (by first | omega | (simp; done) | (simp; omega))), rfl, rfl, (by first | rfl | exact ksub rfl (by first | omega | (simp; done) | (simp; omega))), trivial⟩ (fun _ s => s.pick [1, 2] (by decide) rfl)
    · refine wp_sk (qs_bn (qs_n (wp_sq ?_))); refine sq_v rfl (v_add rfl rfl ((by unfold I64; omega))) rfl ?_; refine sq_v rfl (v_move rfl) rfl (sq_end ?_); exact qs_bk (i + 1, lv, lh) ⟨by (try dsimp only); omega, by (try dsimp only); rw [filter_no (by omega) (by simpa using c19)]; exact q⟩ (by simp only; omega) ⟨rfl, rfl, (by first | rfl | exact ksub rfl (by first | omega | (simp; done) | (simp; omega))), rfl, rfl, (by first | rfl | exact ksub rfl (by first | omega | (simp; done) | (simp; omega))), trivial⟩ (fun _ s => s)
  · refine wp_ex (qs_x (qs_x (qs_bx (qs_n (wp_sc (wp_sq (sq_v rfl (v_move rfl) rfl (sq_v rfl (v_assign rfl) rfl (sq_end (qs_n (wp_rt ?_))))))))))); exact qs_ret1 rfl rfl (fin_t 0 (i := 1) rfl rfl rfl (by rw [List.take_of_length_le (by omega)] at q; exact q))
theorem joinI_len (xs ys : List Int) : (joinI xs ys).length ≤ xs.length + ys.length := by
  have := List.length_filter_le (fun x => decide (x ∉ xs)) ys; simp only [joinI, List.length_append]
  omega
def keptTo (op : List Int) (lv : List Lv) (p q : Int) (j : Nat) (x : Int) : Prop := x ∈ op ∨ ∃ k, k < j ∧ (k : Int) ≠ p ∧ (k : Int) ≠ q ∧ ∃ y, lv[k]? = some y ∧ x ∈ y.l
theorem keptTo_yes {op : List Int} {lv : List Lv} {p q : Int} {j : Nat} {x : Int} {y : Lv} (hy : lv[j]? = some y) (h1 : (j : Int) ≠ p) (h2 : (j : Int) ≠ q) (h3 : x ∈ y.l) : keptTo op lv p q (j + 1) x := .inr ⟨j, by omega, h1, h2, y, hy, h3⟩
theorem keptTo_no {op : List Int} {lv : List Lv} {p q : Int} {j : Nat} {x : Int} {y : Lv} (hy : lv[j]? = some y) (h : (j : Int) = p ∨ (j : Int) = q ∨ x ∉ y.l) : keptTo op lv p q (j + 1) x ↔ keptTo op lv p q j x := by
  refine or_congr Iff.rfl ⟨?_, fun ⟨k, h1, h2⟩ => ⟨k, by omega, h2⟩⟩; rintro ⟨k, h1, h2, h3, y', h4, h5⟩
  by_cases e : k = j
  · subst e; rw [hy] at h4
    cases h4
    rcases h with h | h | h
    · exact absurd h h2
    · exact absurd h h3
    · exact absurd h5 h
  · exact ⟨k, by omega, h2, h3, y', h4, h5⟩
theorem keptTo_end {op : List Int} {s : Sh} {p q : Int} {a b : Nat} (h0 : 0 ≤ p) (h1 : 0 ≤ q) (hp : s.ixs[p.toNat]? = some a) (hq : s.ixs[q.toNat]? = some b) (x : Int) : keptTo op s.lv p q s.lv.length x ↔ s.kept op a b x := by
  rw [kept_places hp hq]; refine or_congr Iff.rfl (exists_congr fun k => and_congr Iff.rfl (and_congr ⟨fun h => by omega, fun h => by omega⟩ (and_congr ⟨fun h => by omega, fun h => by omega⟩ Iff.rfl)))
set_option maxHeartbeats 1000000 in
theorem ct_i_resultLabels (arr op : List Int) (vo lvv : Value) (s : Sh) (bb : Nat) (p q : Int) (a b : Nat) (w : World) (r : StR arr vo lvv s bb (hp w)) (ro : IntsR op vo (hp w)) (h0 : 0 ≤ p) (h1 : 0 ≤ q) (hpa : s.ixs[p.toNat]? = some a) (hqb : s.ixs[q.toNat]? = some b) (hsz : (s.lab a).length + (s.lab b).length ≤ 100000) :
    Calls Tryz.prog 118 [.pointer (some ⟨bb, 0, none⟩), num p, num q].toArray w (Ret w emp (IntsO (s.res op a b))) := by
  have rl := r.live; have hll := lv_len s; have hpl := (List.getElem?_eq_some_iff.1 hpa).1; have hql := (List.getElem?_eq_some_iff.1 hqb).1; refine calls_in Tryz.func118 rfl Tryz.ntmps118 rfl (Sat.start w) ?_; have hle0 := ro.le; have hle1 := rl.le; obtain ⟨cs_rl, rr_rl, hc_rl⟩ := rl.at; refine wp_sc (wp_sq (sq_v rfl (v_assign rfl) rfl (sq_end (qs_n (wp_sc (wp_sq (sq_v rfl (v_assign rfl) rfl (sq_end (qs_n (wp_sc (wp_sc (wp_rj 19 [(0, true), (1, true), (2, true), (3, true), (4, true), (5, true), (6, true), (7, true), (8, true), (9, true), (10, true), (11, true), (12, true), (13, true), (14, true), (15, true), (18, true), (16, false), (17, true)] mixed_ok (by kernel_rfl) (rj_v rfl rfl (v_move rfl) rfl (rj_v rfl rfl (v_nilCheck rfl) rfl (rj_v rfl rfl (v_fieldAddr fd_144_2 ty_142 (by decide) rfl) rfl (rj_v rfl rfl (v_load 0 ty_142 rfl rfl r.c101) rfl (rj_v rfl rfl (v_move rfl) rfl ?_))))))))))))))))); obtain ⟨x18, a18, hx18, hcs18, rl18⟩ := hc_rl ((p : Int).toNat) (by first | omega | (rw [List.length_set]; omega)); refine rj_v rfl rfl (v_indexAddr Tryz.underlying142 ty_146 rfl rfl rr_rl (by decide) (by omega) (by omega)) rfl ?_; refine rj_v rfl rfl (v_fieldAddrE fd_146_1 ty_27 (by decide) rfl rr_rl (by have := rr_rl.1; first | omega | (simp only [Int.toNat_natCast]; omega) | (rw [stepCells_len, List.length_set]; omega))) rfl ?_; refine rj_v rfl rfl (v_loadE 0 ty_27 rfl rfl rr_rl (sub_get hcs18 (j := 1) rfl)) rfl (rj_v rfl rfl (v_move rfl) rfl (rj_v rfl rfl (v_nilCheck rfl) rfl (rj_v rfl rfl (v_fieldAddr fd_144_2 ty_142 (by decide) rfl) rfl (rj_v rfl rfl (v_load 0 ty_142 rfl rfl r.c101) rfl (rj_v rfl rfl (v_move rfl) rfl ?_))))); obtain ⟨x26, a26, hx26, hcs26, rl26⟩ := hc_rl ((q : Int).toNat) (by first | omega | (rw [List.length_set]; omega)); refine rj_v rfl rfl (v_indexAddr Tryz.underlying142 ty_146 rfl rfl rr_rl (by decide) (by omega) (by omega)) rfl ?_; refine rj_v rfl rfl (v_fieldAddrE fd_146_1 ty_27 (by decide) rfl rr_rl (by have := rr_rl.1; first | omega | (simp only [Int.toNat_natCast]; omega) | (rw [stepCells_len, List.length_set]; omega))) rfl ?_; refine rj_v rfl rfl (v_loadE 0 ty_27 rfl rfl rr_rl (sub_get hcs26 (j := 1) rfl)) rfl (rj_v rfl rfl (v_move rfl) rfl ?_); obtain ⟨i18, hi18, e18⟩ := lv_get hx18; obtain ⟨i26, hi26, e26⟩ := lv_get hx26; rw [hpa] at hi18; rw [hqb] at hi26; cases hi18; cases hi26; have l18 : x18.l = s.lab a := (by rw [e18]); have l26 : x26.l = s.lab b := (by rw [e26]); have hjl := joinI_len x18.l x26.l; rw [l18, l26] at hjl; refine rj_x rfl rfl (x_call rfl en_132 (fun w s => ct_i_joinLabels _ _ _ _ w (rl18.mono (s.get 0 rfl)) (rl26.mono (s.get 0 rfl)) (by rw [l18, l26]; omega))) rfl ?_; rintro v29 h29 r29; refine rj_v rfl rfl (v_len Tryz.underlying27 rfl r29.toR.sl) rfl (rj_end (qs_n (wp_bl ?_))); refine wp_lp (σ := Nat × Value × PH) (fun z_ => [(0, .pointer (some ⟨bb, 0, none⟩)), (1, num p), (2, num q), (6, .slice none 0 0), (7, z_.2.1), (29, v29), (30, num (joinI x18.l x26.l).length), (31, num z_.1)]) (fun z_ => [z_.2.2, h29, hp w]) (fun z_ => z_.1 ≤ (joinI x18.l x26.l).length ∧ IntsO (((joinI x18.l x26.l).take z_.1).filter fun y => @decide (s.kept op a b y) (Classical.propDecidable _)) z_.2.1 z_.2.2) (fun z_ => (joinI x18.l x26.l).length - z_.1) (0, .slice none 0 0, emp) (⟨by (try dsimp only); omega, IntsO.nil⟩) ⟨rfl, rfl, rfl, rfl, (by first | rfl | exact ksub rfl (by first | omega | (simp; done) | (simp; omega))), rfl, rfl, (by first | rfl | exact ksub rfl (by first | omega | (simp; done) | (simp; omega))), trivial⟩ (fun _ s => (emp_sat s)) ?_; rintro ⟨i, ov, oh⟩ ⟨hi, q'⟩; dsimp only at hi q' ⊢; have hle_q' := q'.toR.le; have hfl := filter_take_len (joinI x18.l x26.l) (fun y => @decide (s.kept op a b y) (Classical.propDecidable _)) i; have hjl' : (joinI x18.l x26.l).length ≤ 100000 := by rw [l18, l26]; omega
  refine wp_sc (wp_sq (sq_v rfl (v_lss rfl rfl) rfl (sq_end (qs_n (wp_sc ?_))))); refine wp_cd rfl (fun c32 => ?_) (fun c32 => ?_)
  · refine wp_sk (qs_n (wp_sc (wp_bl (wp_sc (wp_sq ?_))))); refine sq_v rfl (v_idxI Tryz.underlying27 ty_3 rfl rfl r29.toR (by first | omega | (simp; omega) | (simp only [List.length_append, List.length_cons, List.length_nil]; omega) | (rw [List.length_set]; omega)) (by first | omega | (simp; omega) | (simp only [List.length_append, List.length_cons, List.length_nil]; omega) | (rw [List.length_set]; omega))) rfl ?_; refine sq_v rfl (v_loadI (k := i) 1 ty_3 rfl rfl r29.toR (by first | omega | (simp; omega) | (simp only [List.length_append, List.length_cons, List.length_nil]; omega) | (rw [List.length_set]; omega))) rfl ?_; refine sq_v rfl (v_assign rfl) rfl (sq_end (qs_n (wp_sc (wp_sq (sq_v rfl (v_move rfl) rfl (sq_v rfl (v_nilCheck rfl) rfl (sq_v rfl (v_fieldAddr fd_144_1 ty_27 (by decide) rfl) rfl (sq_v rfl (v_load 2 ty_27 rfl rfl r.c100) rfl (sq_v rfl (v_move rfl) rfl (sq_u rfl (x_callv rfl en_64 (fun w s => ct_i_hasInt _ _ _ w (ro.mono (s.get 2 rfl)))) rfl (sq_v rfl (v_assign rfl) rfl (sq_end (qs_n (wp_sc (wp_sc (wp_sq (sq_v rfl (v_move rfl) rfl (sq_v rfl (v_nilCheck rfl) rfl ?_)))))))))))))))))); refine sq_v rfl (v_fieldAddr fd_144_2 ty_142 (by decide) rfl) rfl (sq_v rfl (v_load 2 ty_142 rfl rfl r.c101) rfl (sq_v rfl (v_len Tryz.underlying142 rfl rl.sl) rfl (sq_v rfl (v_move rfl) rfl (sq_end (qs_n (wp_bl ?_)))))); refine wp_lp (σ := Nat × Bool) (fun z_ => [(0, .pointer (some ⟨bb, 0, none⟩)), (1, num p), (2, num q), (6, .slice none 0 0), (7, ov), (9, num ((joinI x18.l x26.l).getD i 0)), (10, .bool z_.2), (29, v29), (30, num (joinI x18.l x26.l).length), (31, num i), (32, .bool (decide ((i : Int) < (joinI x18.l x26.l).length))), (34, num ((joinI x18.l x26.l).getD i 0)), (35, .pointer (some ⟨bb, 0, none⟩)), (36, .pointer (some ⟨bb, 0, none⟩)), (37, .pointer (some ⟨bb, 100, none⟩)), (38, vo), (39, num ((joinI x18.l x26.l).getD i 0)), (40, .bool (decide (((joinI x18.l x26.l).getD i 0) ∈ op))), (41, .pointer (some ⟨bb, 0, none⟩)), (42, .pointer (some ⟨bb, 0, none⟩)), (43, .pointer (some ⟨bb, 101, none⟩)), (44, lvv), (45, num s.lv.length), (46, num z_.1)]) (fun z_ => [oh, h29, hp w]) (fun z_ => z_.1 ≤ s.lv.length ∧ (z_.2 = true ↔ keptTo op s.lv p q z_.1 ((joinI x18.l x26.l).getD i 0))) (fun z_ => s.lv.length - z_.1) (0, decide ((joinI x18.l x26.l).getD i 0 ∈ op)) (⟨by (try dsimp only); omega, by (try dsimp only); simp [keptTo]⟩) ⟨rfl, rfl, rfl, rfl, rfl, rfl, (by first | rfl | exact ksub rfl (by first | omega | (simp; done) | (simp; omega))), rfl, rfl, rfl, rfl, rfl, rfl, rfl, rfl, rfl, rfl, rfl, rfl, rfl, rfl, rfl, rfl, (by first | rfl | exact ksub rfl (by first | omega | (simp; done) | (simp; omega))), trivial⟩ (fun _ s => s) ?_; rintro ⟨j, kb⟩ ⟨hj, hk⟩; dsimp only at hj hk ⊢; have hpn : ∀ z : Nat, (z : Int) = p → z = p.toNat := fun z h => by omega
    refine wp_sc (wp_sq (sq_v rfl (v_lss rfl rfl) rfl (sq_end (qs_n (wp_sc ?_))))); refine wp_cd rfl (fun c47 => ?_) (fun c47 => ?_)
    · refine wp_sk (qs_n (wp_sc (wp_bl (wp_sc (wp_sq (sq_v rfl (v_move rfl) rfl ?_)))))); obtain ⟨x49, a49, hx49, hcs49, rl49⟩ := hc_rl (j) (by first | omega | (rw [List.length_set]; omega)); refine sq_v rfl (v_indexAddr Tryz.underlying142 ty_146 rfl rfl rr_rl (by decide) (by omega) (by omega)) rfl ?_; refine sq_v rfl (v_loadNE 2 ty_146 rfl rfl rr_rl (by have := rr_rl.1; omega) rfl hcs49) rfl ?_; refine sq_x rfl (x_alloc ty_146 rfl) rfl ?_; rintro _ _ ⟨b12, rfl, rfl⟩; refine sq_v rfl (v_assign rfl) rfl ?_; refine sq_m 0 rfl rfl (m_store 0 ty_146 rfl rfl rfl rfl (by simp [one_int, rl49.sl.one]) rfl (Nat.le_of_ble_eq_true rfl)) rfl ?_; rintro _ _ ⟨rfl, rfl⟩; refine sq_end (qs_n (wp_sc (wp_sq (sq_v rfl (v_move rfl) rfl (sq_v rfl (v_move rfl) rfl (sq_v rfl (v_neq rfl rfl) rfl ?_)))))); refine sq_bd 53 rfl (fun c53 => ?_) (fun c53 => ?_)
      · refine sq_v rfl (v_move rfl) rfl (sq_v rfl (v_move rfl) rfl (sq_v rfl (v_move rfl) rfl (sq_v rfl (v_neq rfl rfl) rfl (sq_v rfl (v_pickt rfl rfl) rfl ?_)))); refine sq_bd 58 rfl (fun c58 => ?_) (fun c58 => ?_)
        · refine sq_v rfl (v_move rfl) rfl (sq_v rfl (v_fieldAddr fd_146_1 ty_27 (by decide) rfl) rfl (sq_v rfl (v_loadB 0 ty_27 rfl rfl rfl) rfl (sq_v rfl (v_move rfl) rfl (sq_u rfl (x_callv rfl en_64 (fun w s => ct_i_hasInt _ _ _ w (rl49.mono (s.get 3 rfl)))) rfl (sq_v rfl (v_pickt rfl rfl) rfl (sq_end (qs_n ?_))))))); refine wp_cd rfl (fun c64 => ?_) (fun c64 => ?_)
          · refine wp_sq (sq_v rfl (v_assign rfl) rfl (sq_end (qs_bn (qs_n (wp_sq ?_))))); refine sq_v rfl (v_add rfl rfl ((by unfold I64; omega))) rfl ?_; refine sq_v rfl (v_move rfl) rfl (sq_end ?_); exact qs_bk (j + 1, true) ⟨by (try dsimp only); omega, by (try dsimp only); simp only [true_iff]; exact keptTo_yes hx49 (by omega) (by omega) (by simpa using c64)⟩ (by simp only; omega) ⟨rfl, rfl, rfl, rfl, rfl, rfl, (by first | rfl | exact ksub rfl (by first | omega | (simp; done) | (simp; omega))), rfl, rfl, rfl, rfl, rfl, rfl, rfl, rfl, rfl, rfl, rfl, rfl, rfl, rfl, rfl, rfl, (by first | rfl | exact ksub rfl (by first | omega | (simp; done) | (simp; omega))), trivial⟩ (fun _ s => s.pick [1, 2, 3] (by decide) rfl)
          · refine wp_sk (qs_bn (qs_n (wp_sq ?_))); refine sq_v rfl (v_add rfl rfl ((by unfold I64; omega))) rfl ?_; refine sq_v rfl (v_move rfl) rfl (sq_end ?_); exact qs_bk (j + 1, kb) ⟨by (try dsimp only); omega, by (try dsimp only); rw [keptTo_no hx49 (.inr (.inr (by simpa using c64)))]; exact hk⟩ (by simp only; omega) ⟨rfl, rfl, rfl, rfl, rfl, rfl, (by first | rfl | exact ksub rfl (by first | omega | (simp; done) | (simp; omega))), rfl, rfl, rfl, rfl, rfl, rfl, rfl, rfl, rfl, rfl, rfl, rfl, rfl, rfl, rfl, rfl, (by first | rfl | exact ksub rfl (by first | omega | (simp; done) | (simp; omega))), trivial⟩ (fun _ s => s.pick [1, 2, 3] (by decide) rfl)
        · refine sq_v rfl (v_move rfl) rfl (sq_s rfl rfl (sq_s rfl rfl (sq_s rfl rfl (sq_s rfl rfl (sq_v rfl (v_pickf rfl rfl) rfl (sq_end (qs_n (wp_cf rfl (wp_sk (qs_bn (qs_n (wp_sq ?_)))))))))))); refine sq_v rfl (v_add rfl rfl ((by unfold I64; omega))) rfl ?_; refine sq_v rfl (v_move rfl) rfl (sq_end ?_); exact qs_bk (j + 1, kb) ⟨by (try dsimp only); omega, by (try dsimp only); rw [keptTo_no hx49 (.inr (.inl (by omega)))]; exact hk⟩ (by simp only; omega) ⟨rfl, rfl, rfl, rfl, rfl, rfl, (by first | rfl | exact ksub rfl (by first | omega | (simp; done) | (simp; omega))), rfl, rfl, rfl, rfl, rfl, rfl, rfl, rfl, rfl, rfl, rfl, rfl, rfl, rfl, rfl, rfl, (by first | rfl | exact ksub rfl (by first | omega | (simp; done) | (simp; omega))), trivial⟩ (fun _ s => s.pick [1, 2, 3] (by decide) rfl)
      · refine sq_v rfl (v_move rfl) rfl (sq_s rfl rfl (sq_s rfl rfl (sq_s rfl rfl (sq_v rfl (v_pickf rfl rfl) rfl (sq_v rfl (v_move rfl) rfl (sq_s rfl rfl (sq_s rfl rfl (sq_s rfl rfl (sq_s rfl rfl ?_))))))))); refine sq_v rfl (v_pickf rfl rfl) rfl (sq_end (qs_n (wp_cf rfl (wp_sk (qs_bn (qs_n (wp_sq ?_))))))); refine sq_v rfl (v_add rfl rfl ((by unfold I64; omega))) rfl ?_; refine sq_v rfl (v_move rfl) rfl (sq_end ?_); exact qs_bk (j + 1, kb) ⟨by (try dsimp only); omega, by (try dsimp only); rw [keptTo_no hx49 (.inl (by omega))]; exact hk⟩ (by simp only; omega) ⟨rfl, rfl, rfl, rfl, rfl, rfl, (by first | rfl | exact ksub rfl (by first | omega | (simp; done) | (simp; omega))), rfl, rfl, rfl, rfl, rfl, rfl, rfl, rfl, rfl, rfl, rfl, rfl, rfl, rfl, rfl, rfl, (by first | rfl | exact ksub rfl (by first | omega | (simp; done) | (simp; omega))), trivial⟩ (fun _ s => s.pick [1, 2, 3] (by decide) rfl)
    · refine wp_ex (qs_x (qs_x (qs_bx (qs_n (wp_sc (wp_sq ?_)))))); rw [show j = s.lv.length by omega, keptTo_end h0 h1 hpa hqb] at hk; refine sq_v rfl (v_move rfl) rfl (sq_end (qs_n ?_)); refine wp_cb _ rfl (fun c66 => ?_) (fun c66 => ?_)
      · refine wp_sq (sq_v rfl (v_move rfl) rfl (sq_v rfl (v_move rfl) rfl ?_)); refine sq_x rfl (x_buildS [num ((joinI x18.l x26.l).getD i 0)] Tryz.underlying27 ty_3 (by decide) rfl rfl rfl (by decide) (by decide) (by intro v hv; simp at hv; rcases hv with rfl <;> rfl)) rfl ?_; intro v69 h69 (r69 : IntsO [(joinI x18.l x26.l).getD i 0] v69 h69); refine sq_m 1 rfl rfl (m_appI 1 0 Tryz.underlying27 ty_3 rfl rfl rfl rfl q' rfl r69.toR (by first | omega | (simp; omega) | (simp only [List.length_append, List.length_cons, List.length_nil]; omega) | (rw [List.length_set]; omega))) rfl ?_; intro v70 h_r70 r70; refine sq_v rfl (v_assign rfl) rfl (sq_end (qs_bn (qs_n (wp_sq ?_)))); refine sq_v rfl (v_add rfl rfl ((by unfold I64; omega))) rfl ?_; refine sq_v rfl (v_move rfl) rfl (sq_end ?_); exact qs_bk (i + 1, v70, h_r70) ⟨by (try dsimp only); omega, by (try dsimp only); rw [filter_yes (by omega) (by simpa using hk.1 c66)]; exact r70⟩ (by simp only; omega) ⟨rfl, rfl, rfl, rfl, (by first | rfl | exact ksub rfl (by first | omega | (simp; done) | (simp; omega))), rfl, rfl, (by first | rfl | exact ksub rfl (by first | omega | (simp; done) | (simp; omega))), trivial⟩ (fun _ s => s.pick [1, 2, 3] (by decide) rfl)
      · refine wp_sk (qs_bn (qs_n (wp_sq ?_))); refine sq_v rfl (v_add rfl rfl ((by unfold I64; omega))) rfl ?_; refine sq_v rfl (v_move rfl) rfl (sq_end ?_); exact qs_bk (i + 1, ov, oh) ⟨by (try dsimp only); omega, by (try dsimp only); rw [filter_no (by omega) (by simp only [decide_eq_false_iff_not]; intro h; rw [hk.2 h] at c66; cases c66)]; exact q'⟩ (by simp only; omega) ⟨rfl, rfl, rfl, rfl, (by first | rfl | exact ksub rfl (by first | omega | (simp; done) | (simp; omega))), rfl, rfl, (by first | rfl | exact ksub rfl (by first | omega | (simp; done) | (simp; omega))), trivial⟩ (fun _ s => s)
  · refine wp_ex (qs_x (qs_x (qs_bx (qs_n (wp_sc (wp_sq (sq_v rfl (v_move rfl) rfl (sq_v rfl (v_assign rfl) rfl (sq_end (qs_n (wp_rt ?_))))))))))); exact qs_ret1 rfl rfl (fin_t 0 (i := 2) rfl rfl rfl (by rw [List.take_of_length_le (by omega), l18, l26] at q'; exact q'))
end Go.Proofs.YtiefkcaplhnnmaaGreat
namespace Go.Proofs.YtiefkcaplhnnmaaGreat
set_option maxRecDepth 100000
open Go.RowKit

theorem qs_close {n : Nat} {w0 : World} {K : Env} {HS : List PH} {Q : Exit → Act → World → Prop} {e : Exit} (A l : List PH) (hs : ∀ w, Sat w0 HS w → Sat w0 (A ++ l) w) (k : Made (joinP l) l → QS n w0 Q e K (joinP l :: A)) : QS n w0 Q e K HS :=
  fun a w en s => k (hs w s).close.2 a w en (hs w s).close.1
structure OwnL (xss : List (List Int)) (vs : List Value) (hs : List PH) : Prop where
  l1 : vs.length = xss.length
  l2 : hs.length = xss.length
  own : ∀ (i : Nat) (xs : List Int), xss[i]? = some xs → ∃ v h, vs[i]? = some v ∧ hs[i]? = some h ∧ IntsO xs v h
theorem OwnL.nil : OwnL [] [] [] := ⟨rfl, rfl, fun i xs h => by simp at h⟩
theorem OwnL.append {xss yss : List (List Int)} {vs us : List Value} {hs gs : List PH} (a : OwnL xss vs hs) (b : OwnL yss us gs) : OwnL (xss ++ yss) (vs ++ us) (hs ++ gs) := by
  refine ⟨by simp [a.l1, b.l1], by simp [a.l2, b.l2], fun i xs h => ?_⟩
  by_cases hi : i < xss.length
  · rw [List.getElem?_append_left hi] at h; rw [List.getElem?_append_left (by rw [a.l1]; exact hi), List.getElem?_append_left (by rw [a.l2]; exact hi)]; exact a.own i xs h
  · rw [List.getElem?_append_right (by omega)] at h; rw [List.getElem?_append_right (by rw [a.l1]; omega), List.getElem?_append_right (by rw [a.l2]; omega), a.l1, a.l2]; exact b.own _ xs h
theorem OwnL.three {l d x : List Int} {a b c : Value} {h1 h2 h3 : PH} (r1 : IntsO l a h1) (r2 : IntsO d b h2) (r3 : IntsO x c h3) : OwnL [l, d, x] [a, b, c] [h1, h2, h3] := by
  refine ⟨rfl, rfl, fun i xs h => ?_⟩
  match i, h with
  | 0, h => cases h; exact ⟨a, h1, rfl, rfl, r1⟩
  | 1, h => cases h; exact ⟨b, h2, rfl, rfl, r2⟩
  | 2, h => cases h; exact ⟨c, h3, rfl, rfl, r3⟩
  | i + 3, h => simp at h
theorem OwnL.set {xss : List (List Int)} {vs : List Value} {hs : List PH} (a : OwnL xss vs hs) {i : Nat} {v : Value} {ys : List Int} {h' : PH} (hv : vs[i]? = some v) (r : IntsO ys v h') : OwnL (xss.set i ys) vs (hs.set i h') := by
  have hi : i < vs.length := (List.getElem?_eq_some_iff.1 hv).1; refine ⟨by simp [a.l1], by simp [a.l2], fun j xs h => ?_⟩
  by_cases e : j = i
  · subst e; rw [List.getElem?_set_self (by rw [← a.l1]; exact hi)] at h
    cases h
    exact ⟨v, h', hv, List.getElem?_set_self (by rw [a.l2, ← a.l1]; exact hi), r⟩
  · rw [List.getElem?_set_ne (Ne.symm e)] at h; rw [List.getElem?_set_ne (Ne.symm e)]; exact a.own j xs h
def flat (ts : List Ten) : List (List Int) := ts.flatMap fun t => [t.l, t.d, t.x]
theorem flat_append (a b : List Ten) : flat (a ++ b) = flat a ++ flat b := by simp [flat]
theorem flat_len : ∀ ts : List Ten, (flat ts).length = ts.length * 3
  | [] => rfl
  | t :: r => by
    have := flat_len r; simp only [flat, List.flatMap_cons, List.length_append, List.length_cons, List.length_nil] at *
    omega
theorem tens_get : ∀ {ts : List Ten} {i : Nat} {t : Ten}, ts[i]? = some t → (flat ts)[i * 3]? = some t.l ∧ (flat ts)[i * 3 + 1]? = some t.d ∧ (flat ts)[i * 3 + 2]? = some t.x
  | [], i, t, h => by simp at h
  | u :: r, 0, t, h => by cases h; exact ⟨rfl, rfl, rfl⟩
  | u :: r, i + 1, t, h => by
    have := tens_get (ts := r) (i := i) (t := t) (by simpa using h); have e : ∀ j, (flat (u :: r))[(i + 1) * 3 + j]? = (flat r)[i * 3 + j]? := fun j => by
      show (u.l :: u.d :: u.x :: flat r)[(i + 1) * 3 + j]? = _
      rw [show (i + 1) * 3 + j = i * 3 + j + 1 + 1 + 1 by omega]
      simp
    exact ⟨by have := e 0; simp only [Nat.add_zero] at this; rw [this]; simp_all, by rw [e 1]; exact this.2.1, by rw [e 2]; exact this.2.2⟩
/-- Tensors that own their parts. -/
def TensO (ts : List Ten) (v : Value) (h : PH) : Prop := ∃ vs h0 hs, RowO 55 vs ts.length 3 v h0 ∧ OwnL (flat ts) vs hs ∧ Made h (h0 :: hs)
theorem three_at {vs : List Value} {i : Nat} {a b c : Value} (h0 : vs[i * 3]? = some a) (h1 : vs[i * 3 + 1]? = some b) (h2 : vs[i * 3 + 2]? = some c) : (vs.drop (i * 3)).take 3 = [a, b, c] := by
  apply List.ext_getElem?
  intro j; rw [List.getElem?_take]
  match j with
  | 0 => simpa using h0
  | 1 => simpa using h1
  | 2 => simpa using h2
  | j + 3 => rw [if_neg (by omega)]; simp
theorem OwnL.tens {ts : List Ten} {vs : List Value} {v : Value} {h : PH} {hs : List PH} (r0 : RowR vs ts.length 3 v h) (o : OwnL (flat ts) vs hs) (hle : ∀ x ∈ hs, PLe x h) : TensR ts v h := by
  refine ⟨vs, r0, fun i t ht => ?_⟩; obtain ⟨f1, f2, f3⟩ := tens_get ht; obtain ⟨a, h1, e1, g1, r1⟩ := o.own _ _ f1; obtain ⟨b, h2, e2, g2, r2⟩ := o.own _ _ f2; obtain ⟨c, h3, e3, g3, r3⟩ := o.own _ _ f3; exact ⟨a, b, c, three_at e1 e2 e3, r1.toR.mono (hle _ (List.mem_of_getElem? g1)), r2.toR.mono (hle _ (List.mem_of_getElem? g2)), r3.toR.mono (hle _ (List.mem_of_getElem? g3))⟩
theorem TensO.toR {ts : List Ten} {v : Value} {h : PH} (r : TensO ts v h) : TensR ts v h := by
  obtain ⟨vs, h0, hs, r0, o, m⟩ := r; exact OwnL.tens (r0.toR.mono (m.le h0 (by simp))) o (fun x hx => m.le x (by simp [hx]))
/-- A network that owns its parts. -/
def NetO (ts : List Ten) (op : List Int) (vt vo : Value) (h : PH) : Prop := ∃ vs h0 ho hs, RowO 55 vs ts.length 3 vt h0 ∧ IntsO op vo ho ∧ OwnL (flat ts) vs hs ∧ Made h (h0 :: ho :: hs)
theorem NetO.toR {ts : List Ten} {op : List Int} {vt vo : Value} {h : PH} (r : NetO ts op vt vo h) : TensR ts vt h ∧ IntsR op vo h := by
  obtain ⟨vs, h0, ho, hs, r0, r1, o, m⟩ := r; exact ⟨OwnL.tens (r0.toR.mono (m.le h0 (by simp))) o (fun x hx => m.le x (by simp [hx])), r1.toR.mono (m.le ho (by simp))⟩
end Go.Proofs.YtiefkcaplhnnmaaGreat
namespace Go.Proofs.YtiefkcaplhnnmaaGreat
set_option maxRecDepth 100000
open Go.RowKit
theorem RowO.nil {e : TypeId} {sz : Nat} : RowO e [] 0 sz (.slice none 0 0) emp := ⟨by simp, .inl ⟨rfl, rfl, rfl⟩⟩
theorem dropTo_len (lv : List Lv) (p q : Nat) : ∀ k, (dropTo lv p q k).length ≤ k
  | 0 => by simp [dropTo]
  | k + 1 => by
    have := dropTo_len lv p q k; have h1 : (lv[k]?).toList.length ≤ 1 := by cases lv[k]? <;> simp
    simp only [dropTo]
    split
    · simp only [List.length_append]; omega
    · omega
theorem dropTo_yes {lv : List Lv} {p q k : Nat} {x : Lv} (h : lv[k]? = some x) (h1 : k ≠ p) (h2 : k ≠ q) : dropTo lv p q (k + 1) = dropTo lv p q k ++ [x] := by
  rw [dropTo, if_pos ⟨h1, h2⟩, h]; rfl
theorem dropTo_no {lv : List Lv} {p q k : Nat} (h : k = p ∨ k = q) : dropTo lv p q (k + 1) = dropTo lv p q k := by
  rw [dropTo, if_neg (by omega)]
set_option maxHeartbeats 2000000 in
theorem ct_i_contract (arr op : List Int) (vo : Value) (sh : Sh) (bb : Nat) (p q : Int) (a b : Nat) (w : World) (h : PH) (hle : PLe h (hp w)) (rs : StO arr vo sh bb h) (ro : IntsR op vo (restP w h)) (h0 : 0 ≤ p) (h1 : 0 ≤ q) (hpa : sh.ixs[p.toNat]? = some a) (hqb : sh.ixs[q.toNat]? = some b)
    (hsz : (sh.lab a).length + (sh.lab b).length ≤ 100000) (hall : sh.all.length ≤ 100000) :
    Calls Tryz.prog 119 [.pointer (some ⟨bb, 0, none⟩), num p, num q].toArray w (Ret w h (fun u h' => u = stepV a b ∧ StO arr vo (sh.step op a b) bb h')) := by
  obtain ⟨hal, hok, lvv, hs, rl, md⟩ := rs; have hll := lv_len sh; have hpl := (List.getElem?_eq_some_iff.1 hpa).1; have hql := (List.getElem?_eq_some_iff.1 hqb).1; have hixl : sh.ixs.length ≤ sh.all.length := by have := List.length_filter_le (fun i => !sh.gone.getD i false) (List.range sh.all.length); simpa [Sh.ixs] using this
  refine calls_in Tryz.func119 rfl Tryz.ntmps119 rfl (Sat.open (A := [restP w h]) md (Sat.start2 hle)) ?_; have hle0 := ro.le; have hle1 := rl.le; obtain ⟨cs_rl, rr_rl, hc_rl⟩ := rl.at; refine wp_sc (wp_sq ?_); refine sq_x rfl (x_alloc ty_114 rfl) rfl ?_; rintro _ _ ⟨b6, rfl, rfl⟩; refine sq_end (qs_n (wp_sc (wp_rj 18 [(0, true), (1, true), (2, true), (3, true), (4, true), (5, true), (6, true), (7, true), (8, true), (9, true), (10, true), (11, true), (12, true), (13, true), (14, true), (15, true), (16, true), (17, false), (18, false)] mixed_ok (by kernel_rfl) (rj_v rfl rfl (v_move rfl) rfl (rj_v rfl rfl (v_nilCheck rfl) rfl (rj_v rfl rfl (v_fieldAddr fd_144_2 ty_142 (by decide) rfl) rfl (rj_v rfl rfl (v_loadB 2 ty_142 rfl rfl (pre_get hal 1 rfl)) rfl (rj_v rfl rfl (v_move rfl) rfl ?_)))))))); obtain ⟨x17, a17, hx17, hcs17, rl17⟩ := hc_rl ((p : Int).toNat) (by first | omega | (rw [List.length_set]; omega)); refine rj_v rfl rfl (v_indexAddr Tryz.underlying142 ty_146 rfl rfl rr_rl (by decide) (by omega) (by omega)) rfl ?_; refine rj_v rfl rfl (v_fieldAddrE fd_146_0 ty_3 (by decide) rfl rr_rl (by have := rr_rl.1; first | omega | (simp only [Int.toNat_natCast]; omega) | (rw [stepCells_len, List.length_set]; omega))) rfl ?_; refine rj_v rfl rfl (v_loadE 3 ty_3 rfl rfl rr_rl (sub_get hcs17 (j := 0) rfl)) rfl (rj_v rfl rfl (v_move rfl) rfl (rj_v rfl rfl (v_nilCheck rfl) rfl (rj_v rfl rfl (v_fieldAddr fd_144_2 ty_142 (by decide) rfl) rfl (rj_v rfl rfl (v_loadB 2 ty_142 rfl rfl (pre_get hal 1 rfl)) rfl (rj_v rfl rfl (v_move rfl) rfl ?_))))); obtain ⟨x25, a25, hx25, hcs25, rl25⟩ := hc_rl ((q : Int).toNat) (by first | omega | (rw [List.length_set]; omega)); refine rj_v rfl rfl (v_indexAddr Tryz.underlying142 ty_146 rfl rfl rr_rl (by decide) (by omega) (by omega)) rfl ?_; refine rj_v rfl rfl (v_fieldAddrE fd_146_0 ty_3 (by decide) rfl rr_rl (by have := rr_rl.1; first | omega | (simp only [Int.toNat_natCast]; omega) | (rw [stepCells_len, List.length_set]; omega))) rfl ?_; refine rj_v rfl rfl (v_loadE 3 ty_3 rfl rfl rr_rl (sub_get hcs25 (j := 0) rfl)) rfl ?_; obtain ⟨i17, hi17, e17⟩ := lv_get hx17; obtain ⟨i25, hi25, e25⟩ := lv_get hx25; rw [hpa] at hi17; rw [hqb] at hi25; cases hi17; cases hi25; subst e17; subst e25; refine rj_v rfl rfl (v_build [num (a : Nat), num (b : Nat)] rfl (by kernel_rfl)) rfl ?_; refine rj_x rfl rfl (x_alloc ty_114 rfl) rfl ?_; rintro _ _ ⟨b7, rfl, rfl⟩; refine rj_m 0 rfl rfl rfl rfl (m_store 0 ty_114 rfl rfl rfl rfl (by simp [Value.oneCell']) rfl (Nat.le_of_ble_eq_true rfl)) rfl ?_; rintro _ _ ⟨rfl, rfl⟩; refine rj_end (qs_n (wp_sc ?_)); refine wp_ra (σ := Nat × PH × Value) 10 (fun z_ => IntsO (sh.res op a b) z_.2.2 z_.2.1) (fun z_ => [(0, .pointer (some ⟨bb, 0, none⟩)), (1, num p), (2, num q), (6, .pointer (some ⟨b6, 0, none⟩)), (7, .pointer (some ⟨b7, 0, none⟩)), (8, .pointer (some ⟨z_.1, 0, none⟩))]) (fun z_ => [box z_.1 [num sh.all.length, z_.2.2] 146, z_.2.1, box b7 [num (a : Nat), num (b : Nat)] 114, box b6 [num 0, num 0] 114, (restP w h), box bb (ints arr ++ [vo, lvv, num sh.all.length]) 144, hs]) mixed_ok (by kernel_rfl) ?_ ?_
  · refine ra_v (i := 0) (by kernel_rfl) rfl rfl (v_move rfl) rfl (ra_v (i := 1) (by kernel_rfl) rfl rfl (v_nilCheck rfl) rfl (ra_v (i := 2) (by kernel_rfl) rfl rfl (v_fieldAddr fd_144_3 ty_3 (by decide) rfl) rfl (ra_v (i := 3) (by kernel_rfl) rfl rfl (v_loadB 3 ty_3 rfl rfl (pre_get hal 2 rfl)) rfl (ra_v (i := 4) (by kernel_rfl) rfl rfl (v_move rfl) rfl (ra_v (i := 5) (by kernel_rfl) rfl rfl (v_move rfl) rfl (ra_v (i := 6) (by kernel_rfl) rfl rfl (v_move rfl) rfl ?_)))))); refine ra_2 (i := 7) (j := 9) (by kernel_rfl) ?_ ?_
    · refine ro_x rfl rfl (x_call rfl en_118 (fun w s => ct_i_resultLabels _ op _ _ sh _ _ _ a b w (StR.box hal hok (s.get 3 rfl) (rl.mono (s.get 4 rfl))) (ro.mono (s.get 2 rfl)) h0 h1 hpa hqb hsz)) rfl ?_; rintro v36 h36 r36; refine ra_rj [(8, true), (9, false), (10, false)] (by kernel_rfl) rfl ?_; refine rj_v rfl rfl (v_build [num sh.all.length, v36] rfl (by obtain ⟨_, _, rfl⟩ := r36.toR.sl; kernel_rfl)) rfl ?_; refine rj_x rfl rfl (x_alloc ty_146 rfl) rfl ?_; rintro _ _ ⟨b8, rfl, rfl⟩; refine rj_m 0 rfl rfl rfl rfl (m_store 0 ty_146 rfl rfl rfl rfl (by simp [one_int, r36.toR.sl.one]) rfl (Nat.le_of_ble_eq_true rfl)) rfl ?_; rintro _ _ ⟨rfl, rfl⟩; refine rj_end ?_; exact qs_mid (b8, h36, v36) (r36) ⟨rfl, rfl, rfl, rfl, rfl, rfl, trivial⟩ (fun _ s => s.pick [0, 1, 2, 3, 4, 5, 6] (by decide) rfl)
    · refine ro_x rfl rfl (x_alloc ty_146 rfl) rfl ?_; rintro _ _ ⟨b8, rfl, rfl⟩; refine ra_rj [(7, false), (8, true), (10, false)] (by kernel_rfl) rfl ?_; refine rj_x rfl rfl (x_call rfl en_118 (fun w s => ct_i_resultLabels _ op _ _ sh _ _ _ a b w (StR.box hal hok (s.get 4 rfl) (rl.mono (s.get 5 rfl))) (ro.mono (s.get 3 rfl)) h0 h1 hpa hqb hsz)) rfl ?_; rintro v36 h36 r36; refine rj_v rfl rfl (v_build [num sh.all.length, v36] rfl (by obtain ⟨_, _, rfl⟩ := r36.toR.sl; kernel_rfl)) rfl ?_; refine rj_m 1 rfl rfl rfl rfl (m_store 1 ty_146 rfl rfl rfl rfl (by simp [one_int, r36.toR.sl.one]) rfl (Nat.le_of_ble_eq_true rfl)) rfl ?_; rintro _ _ ⟨rfl, rfl⟩; refine rj_end ?_; exact qs_mid (b8, h36, v36) (r36) ⟨rfl, rfl, rfl, rfl, rfl, rfl, trivial⟩ (fun _ s => s.pick [1, 0, 2, 3, 4, 5, 6] (by decide) rfl)
  · rintro ⟨b8, h36, v36⟩ r36; dsimp only at r36 ⊢; refine qs_n (wp_sc (wp_sq (sq_v rfl (v_assign rfl) rfl (sq_end (qs_n (wp_sc (wp_sc (wp_sq (sq_v rfl (v_move rfl) rfl (sq_v rfl (v_nilCheck rfl) rfl (sq_v rfl (v_fieldAddr fd_144_2 ty_142 (by decide) rfl) rfl (sq_v rfl (v_loadB 5 ty_142 rfl rfl (pre_get hal 1 rfl)) rfl (sq_v rfl (v_len Tryz.underlying142 rfl rl.sl) rfl (sq_v rfl (v_move rfl) rfl (sq_end (qs_n (wp_bl ?_))))))))))))))))); refine wp_lp (σ := Nat × Value × PH × (List Value)) (fun z_ => [(0, .pointer (some ⟨bb, 0, none⟩)), (1, num p), (2, num q), (6, .pointer (some ⟨b6, 0, none⟩)), (7, .pointer (some ⟨b7, 0, none⟩)), (8, .pointer (some ⟨b8, 0, none⟩)), (9, z_.2.1), (41, lvv), (42, num sh.lv.length), (43, num z_.1)]) (fun z_ => [z_.2.2.1, box b8 [num sh.all.length, v36] 146, h36, box b7 [num (a : Nat), num (b : Nat)] 114, box b6 [num 0, num 0] 114, (restP w h), box bb (ints arr ++ [vo, lvv, num sh.all.length]) 144, hs]) (fun z_ => z_.1 ≤ sh.lv.length ∧ LvL (dropTo sh.lv p.toNat q.toNat z_.1) z_.2.2.2 hs ∧ RowO (146) z_.2.2.2 (dropTo sh.lv p.toNat q.toNat z_.1).length 2 z_.2.1 z_.2.2.1) (fun z_ => sh.lv.length - z_.1) (0, .slice none 0 0, emp, []) (⟨by (try dsimp only); omega, LvL.nil _, RowO.nil⟩) ⟨rfl, rfl, rfl, rfl, rfl, rfl, (by first | rfl | exact ksub rfl (by first | omega | (simp; done) | (simp; omega))), rfl, rfl, (by first | rfl | exact ksub rfl (by first | omega | (simp; done) | (simp; omega))), trivial⟩ (fun _ s => (emp_sat s)) ?_; rintro ⟨j, lx, ha, cs⟩ ⟨hj, hlv, rr⟩; dsimp only at hj hlv rr ⊢; have hdl := dropTo_len sh.lv p.toNat q.toNat j; refine wp_sc (wp_sq (sq_v rfl (v_lss rfl rfl) rfl (sq_end (qs_n (wp_sc ?_))))); refine wp_cd rfl (fun c44 => ?_) (fun c44 => ?_)
    · refine wp_sk (qs_n (wp_sc (wp_bl (wp_sc (wp_sq (sq_v rfl (v_move rfl) rfl ?_)))))); obtain ⟨x46, a46, hx46, hcs46, rl46⟩ := hc_rl (j) (by first | omega | (rw [List.length_set]; omega)); refine sq_v rfl (v_indexAddr Tryz.underlying142 ty_146 rfl rfl rr_rl (by decide) (by omega) (by omega)) rfl ?_; refine sq_v rfl (v_loadNE 7 ty_146 rfl rfl rr_rl (by have := rr_rl.1; omega) rfl hcs46) rfl ?_; refine sq_x rfl (x_alloc ty_146 rfl) rfl ?_; rintro _ _ ⟨b11, rfl, rfl⟩; refine sq_v rfl (v_assign rfl) rfl ?_; refine sq_m 0 rfl rfl (m_store 0 ty_146 rfl rfl rfl rfl (by simp [one_int, rl46.sl.one]) rfl (Nat.le_of_ble_eq_true rfl)) rfl ?_; rintro _ _ ⟨rfl, rfl⟩; refine sq_end (qs_n (wp_sc (wp_sq (sq_v rfl (v_move rfl) rfl (sq_v rfl (v_move rfl) rfl (sq_v rfl (v_neq rfl rfl) rfl ?_)))))); refine sq_bd 50 rfl (fun c50 => ?_) (fun c50 => ?_)
      · refine sq_v rfl (v_move rfl) rfl (sq_v rfl (v_move rfl) rfl (sq_v rfl (v_move rfl) rfl (sq_v rfl (v_neq rfl rfl) rfl (sq_v rfl (v_pickt rfl rfl) rfl (sq_end (qs_n ?_)))))); refine wp_cd rfl (fun c55 => ?_) (fun c55 => ?_)
        · refine wp_sq (sq_v rfl (v_move rfl) rfl (sq_v rfl (v_loadNB 0 ty_146 rfl rfl rfl rfl) rfl ?_)); refine sq_x rfl (x_buildS [.agg [num x46.n, a46].toArray] Tryz.underlying142 ty_146 (by decide) rfl rfl rfl (by decide) (by decide) (by intro v hv; simp at hv; subst hv; rfl)) rfl ?_; intro v58 h58 (r58 : RowO 146 [num x46.n, a46] 1 2 v58 h58); refine sq_m 2 rfl rfl (m_append 2 0 Tryz.underlying142 ty_146 rfl rfl (by decide) rfl rfl rfl rr rfl r58.toR (by simp [one_int, rl46.sl.one]) (by unfold maxLen; omega) (by omega)) rfl ?_; intro v59 h_r59 (r59 : RowO 146 (cs ++ [num x46.n, a46]) ((dropTo sh.lv p.toNat q.toNat j).length + 1) 2 v59 h_r59); refine sq_v rfl (v_assign rfl) rfl (sq_end (qs_bn (qs_n (wp_sq ?_)))); refine sq_v rfl (v_add rfl rfl ((by unfold I64; omega))) rfl ?_; refine sq_v rfl (v_move rfl) rfl (sq_end ?_); exact qs_bk (j + 1, v59, h_r59, cs ++ [num x46.n, a46]) ⟨by (try dsimp only); omega, by (try dsimp only); rw [dropTo_yes hx46 (by omega) (by omega)]; exact hlv.snoc rl46, by (try dsimp only); rw [dropTo_yes hx46 (by omega) (by omega), List.length_append]; exact r59⟩ (by simp only; omega) ⟨rfl, rfl, rfl, rfl, rfl, rfl, (by first | rfl | exact ksub rfl (by first | omega | (simp; done) | (simp; omega))), rfl, rfl, (by first | rfl | exact ksub rfl (by first | omega | (simp; done) | (simp; omega))), trivial⟩ (fun _ s => s.pick [2, 3, 4, 5, 6, 7, 8, 9] (by decide) rfl)
        · refine wp_sk (qs_bn (qs_n (wp_sq ?_))); refine sq_v rfl (v_add rfl rfl ((by unfold I64; omega))) rfl ?_; refine sq_v rfl (v_move rfl) rfl (sq_end ?_); exact qs_bk (j + 1, lx, ha, cs) ⟨by (try dsimp only); omega, by (try dsimp only); rw [dropTo_no (by omega)]; exact hlv, by (try dsimp only); rw [dropTo_no (by omega)]; exact rr⟩ (by simp only; omega) ⟨rfl, rfl, rfl, rfl, rfl, rfl, (by first | rfl | exact ksub rfl (by first | omega | (simp; done) | (simp; omega))), rfl, rfl, (by first | rfl | exact ksub rfl (by first | omega | (simp; done) | (simp; omega))), trivial⟩ (fun _ s => s.pick [1, 2, 3, 4, 5, 6, 7, 8] (by decide) rfl)
      · refine sq_v rfl (v_move rfl) rfl (sq_s rfl rfl (sq_s rfl rfl (sq_s rfl rfl (sq_v rfl (v_pickf rfl rfl) rfl (sq_end (qs_n (wp_cf rfl (wp_sk (qs_bn (qs_n (wp_sq ?_))))))))))); refine sq_v rfl (v_add rfl rfl ((by unfold I64; omega))) rfl ?_; refine sq_v rfl (v_move rfl) rfl (sq_end ?_); exact qs_bk (j + 1, lx, ha, cs) ⟨by (try dsimp only); omega, by (try dsimp only); rw [dropTo_no (by omega)]; exact hlv, by (try dsimp only); rw [dropTo_no (by omega)]; exact rr⟩ (by simp only; omega) ⟨rfl, rfl, rfl, rfl, rfl, rfl, (by first | rfl | exact ksub rfl (by first | omega | (simp; done) | (simp; omega))), rfl, rfl, (by first | rfl | exact ksub rfl (by first | omega | (simp; done) | (simp; omega))), trivial⟩ (fun _ s => s.pick [1, 2, 3, 4, 5, 6, 7, 8] (by decide) rfl)
    · refine wp_ex (qs_x (qs_x (qs_bx (qs_n (wp_sc (wp_sq (sq_v rfl (v_move rfl) rfl (sq_v rfl (v_move rfl) rfl (sq_v rfl (v_loadNB 1 ty_146 rfl rfl rfl rfl) rfl ?_))))))))); refine sq_x rfl (x_buildS [.agg [num sh.all.length, v36].toArray] Tryz.underlying142 ty_146 (by decide) rfl rfl rfl (by decide) (by decide) (by intro v hv; simp at hv; subst hv; rfl)) rfl ?_; intro v64 h64 (r64 : RowO 146 [num sh.all.length, v36] 1 2 v64 h64); refine sq_m 1 rfl rfl (m_append 1 0 Tryz.underlying142 ty_146 rfl rfl (by decide) rfl rfl rfl rr rfl r64.toR (by simp [one_int, r36.toR.sl.one]) (by unfold maxLen; omega) (by omega)) rfl ?_; intro v65 h_r65 (r65 : RowO 146 (cs ++ [num sh.all.length, v36]) ((dropTo sh.lv p.toNat q.toNat j).length + 1) 2 v65 h_r65); refine sq_v rfl (v_nilCheck rfl) rfl (sq_v rfl (v_fieldAddr fd_144_2 ty_142 (by decide) rfl) rfl ?_); refine sq_m 7 rfl rfl (m_store1 7 ty_142 rfl rfl r65.toR.sl.one rfl (by simp [ints_length, hal])) rfl ?_; rintro _ _ ⟨rfl, rfl⟩; rw [pre_set (j := 1) hal]; dsimp only [List.set]; refine sq_end (qs_n (wp_sc (wp_sq (sq_v rfl (v_move rfl) rfl (sq_v rfl (v_nilCheck rfl) rfl (sq_v rfl (v_fieldAddr fd_144_3 ty_3 (by decide) rfl) rfl (sq_v rfl (v_loadB 7 ty_3 rfl rfl (pre_get hal 2 rfl)) rfl ?_))))))); refine sq_v rfl (v_add rfl rfl ((by unfold I64; omega))) rfl ?_; refine sq_v rfl (v_nilCheck rfl) rfl (sq_v rfl (v_fieldAddr fd_144_3 ty_3 (by decide) rfl) rfl ?_); refine sq_m 7 rfl rfl (m_store1 7 ty_3 rfl rfl rfl rfl (by simp [ints_length, hal])) rfl ?_; rintro _ _ ⟨rfl, rfl⟩; rw [pre_set (j := 2) hal]; dsimp only [List.set]; refine sq_end (qs_n (wp_sc (wp_sq (sq_v rfl (v_loadNB 4 ty_114 rfl rfl rfl rfl) rfl ?_)))); refine sq_m 5 rfl rfl (m_store 5 ty_114 rfl rfl rfl rfl (by simp [Value.oneCell']) rfl (Nat.le_of_ble_eq_true rfl)) rfl ?_; rintro _ _ ⟨rfl, rfl⟩; refine sq_end (qs_n (wp_rt ?_)); refine qs_close [box bb _ _, restP w h, box b6 _ _] [hs, h_r65, h36] (fun _ s => s.pick [7, 6, 5, 8, 1, 3] (by decide) rfl) (fun md1 => ?_); refine qs_close [restP w h, box b6 _ _] [box bb _ _, joinP [hs, h_r65, h36]] (fun _ s => s.pick [2, 3, 1, 0] (by decide) rfl) (fun md2 => ?_); have ej : j = sh.lv.length := by omega
      subst ej; have e := step_lv (op := op) hok hpa hqb; have el : ((sh.step op a b).all.length : Int) = sh.all.length + 1 := by simp [Sh.step]
      have hlv' : LvL (sh.step op a b).lv (cs ++ [num sh.all.length, v36]) (joinP [hs, h_r65, h36]) := by rw [e]; exact (hlv.mono (md1.le hs (by simp))).snoc (x := ⟨sh.all.length, sh.res op a b⟩) (r36.toR.mono (md1.le h36 (by simp)))
      have hro := r65.toR.mono (md1.le h_r65 (by simp)); exact qs_retc 2 rfl ty_114 rfl rfl rfl (fin_m 0 (i := 1) rfl rfl rfl ⟨rfl, hal, Sh.step_ok hok a b, v65, _, hlv'.live (by rw [e, List.length_append]; exact hro), by rw [el]; exact md2⟩)
/-- What a step of an order turns. -/
def FollowR (arr op : List Int) (vo : Value) (sh : Sh) (bb : Nat) (x y : Int) (u : Value) (h : PH) : Prop :=
  (sh.live x ∧ sh.live y ∧ x < y → u = .bool true ∧ StO arr vo (sh.step op x.toNat y.toNat) bb h) ∧ (¬ (sh.live x ∧ sh.live y ∧ x < y) → u = .bool false ∧ StO arr vo sh bb h)
theorem ct_i_follow (arr op : List Int) (vo : Value) (sh : Sh) (bb : Nat) (x y : Int) (w : World) (h : PH) (hle : PLe h (hp w)) (rs : StO arr vo sh bb h) (ro : IntsR op vo (restP w h))
    (hsz : ∀ i, (sh.lab i).length ≤ 50000) (hall : sh.all.length ≤ 100000) :
    Calls Tryz.prog 133 [.pointer (some ⟨bb, 0, none⟩), stepV x y].toArray w (Ret w h (FollowR arr op vo sh bb x y)) := by
  obtain ⟨lvv, rr⟩ := rs.toR; refine calls_in Tryz.func133 rfl Tryz.ntmps133 rfl (Sat.start2 hle) ?_; have hle0 := ro.le; refine wp_sc (wp_sq ?_); refine sq_x rfl (x_box rfl rfl) rfl ?_; rintro _ _ ⟨b3, rfl, rfl⟩; refine sq_v rfl (v_assign rfl) rfl (sq_end (qs_n (wp_sc (wp_rj 10 [(0, true), (1, true), (2, true), (4, true), (5, true), (6, true), (3, false), (7, false), (8, true), (9, true)] mixed_ok (by kernel_rfl) (rj_v rfl rfl (v_move rfl) rfl (rj_v rfl rfl (v_fieldAddr fd_114_0 ty_3 (by decide) rfl) rfl (rj_v rfl rfl (v_loadB 0 ty_3 rfl rfl rfl) rfl (rj_v rfl rfl (v_move rfl) rfl (rj_v rfl rfl (v_fieldAddr fd_114_1 ty_3 (by decide) rfl) rfl (rj_v rfl rfl (v_loadB 0 ty_3 rfl rfl rfl) rfl (rj_u rfl rfl (x_callv rfl en_117 (fun w s => ct_i_place _ _ _ _ _ _ w (rr.mono (s.get 1 rfl)))) rfl (rj_u rfl rfl (x_callv rfl en_117 (fun w s => ct_i_place _ _ _ _ _ _ w (rr.mono (s.get 1 rfl)))) rfl ?_)))))))))))); refine rj_v rfl rfl (v_assign rfl) rfl (rj_v rfl rfl (v_assign rfl) rfl (rj_end (qs_n (wp_sc (wp_sc (wp_sq (sq_v rfl (v_move rfl) rfl (sq_v rfl (v_lss rfl rfl) rfl ?_)))))))); refine sq_bd 16 rfl (fun c16 => ?_) (fun c16 => ?_)
  · refine sq_v rfl (v_move rfl) rfl (sq_s rfl rfl (sq_s rfl rfl (sq_v rfl (v_pickt rfl rfl) rfl (sq_v rfl (v_move rfl) rfl (sq_s rfl rfl (sq_s rfl rfl (sq_s rfl rfl (sq_s rfl rfl (sq_s rfl rfl ?_))))))))); refine sq_v rfl (v_pickt rfl rfl) rfl (sq_end (qs_n (wp_ct rfl (wp_sc (wp_sq (sq_v rfl (v_assign rfl) rfl (sq_end (qs_n (wp_rt (qs_r ?_)))))))))); exact qs_ret1 rfl rfl (fin_m 1 (i := 2) rfl rfl rfl (⟨fun hh => by have := place_ge.2 hh.1; omega, fun _ => ⟨rfl, rs⟩⟩))
  · refine sq_v rfl (v_move rfl) rfl (sq_v rfl (v_move rfl) rfl (sq_v rfl (v_lss rfl rfl) rfl (sq_v rfl (v_pickf rfl rfl) rfl ?_))); refine sq_bd 20 rfl (fun c20 => ?_) (fun c20 => ?_)
    · refine sq_v rfl (v_move rfl) rfl (sq_s rfl rfl (sq_s rfl rfl (sq_s rfl rfl (sq_s rfl rfl (sq_s rfl rfl (sq_v rfl (v_pickt rfl rfl) rfl (sq_end (qs_n (wp_ct rfl (wp_sc (wp_sq (sq_v rfl (v_assign rfl) rfl (sq_end (qs_n (wp_rt (qs_r ?_)))))))))))))))); exact qs_ret1 rfl rfl (fin_m 1 (i := 2) rfl rfl rfl (⟨fun hh => by have := place_ge.2 hh.2.1; omega, fun _ => ⟨rfl, rs⟩⟩))
    · refine sq_v rfl (v_move rfl) rfl (sq_v rfl (v_fieldAddr fd_114_0 ty_3 (by decide) rfl) rfl (sq_v rfl (v_loadB 0 ty_3 rfl rfl rfl) rfl (sq_v rfl (v_fieldAddr fd_114_1 ty_3 (by decide) rfl) rfl (sq_v rfl (v_loadB 0 ty_3 rfl rfl rfl) rfl (sq_v rfl (v_geq rfl rfl) rfl (sq_v rfl (v_pickf rfl rfl) rfl (sq_end (qs_n ?_)))))))); refine wp_cd rfl (fun c27 => ?_) (fun c27 => ?_)
      · refine wp_sc (wp_sq (sq_v rfl (v_assign rfl) rfl (sq_end (qs_n (wp_rt (qs_r ?_)))))); exact qs_ret1 rfl rfl (fin_m 1 (i := 2) rfl rfl rfl (⟨fun hh => by have := hh.2.2; omega, fun _ => ⟨rfl, rs⟩⟩))
      · refine wp_sk (qs_n (wp_sc (wp_sq (sq_v rfl (v_move rfl) rfl (sq_v rfl (v_move rfl) rfl (sq_v rfl (v_move rfl) rfl ?_)))))); have lx := place_ge.1 (Int.not_lt.1 c16); have ly := place_ge.1 (Int.not_lt.1 c20); have px := place_at lx; have py := place_at ly; refine sq_m 1 rfl rfl (x_call rfl en_119 (fun w s => ct_i_contract _ op _ sh _ _ _ x.toNat y.toNat w _ (s.get 1 rfl) rs (ro.mono (s.getR 1 2 rfl rfl (by decide))) (by first | assumption | omega) (by first | assumption | omega) px.1 py.1 (by have := hsz x.toNat; have := hsz y.toNat; omega) (by first | assumption | omega))) rfl ?_; rintro _ h31 ⟨rfl, rs31⟩; refine sq_end (qs_n (wp_sc (wp_sq (sq_v rfl (v_assign rfl) rfl (sq_end (qs_n (wp_rt ?_))))))); exact qs_ret1 rfl rfl (fin_m 1 (i := 2) rfl rfl rfl (⟨fun _ => ⟨rfl, rs31⟩, fun hn => absurd ⟨lx, ly, by omega⟩ hn⟩))
def sh0 (ts : List Ten) : Sh := ⟨ts.map (·.l), List.replicate ts.length false⟩
theorem sh0_ok (ts : List Ten) : (sh0 ts).ok := by simp [Sh.ok, sh0]
theorem sh0_ixs (ts : List Ten) : (sh0 ts).ixs = List.range ts.length := by
  unfold Sh.ixs
  have : (sh0 ts).all.length = ts.length := by simp [sh0]
  rw [this, List.filter_eq_self]; intro i hi; simp only [sh0, List.getD, List.getElem?_replicate]
  split <;> rfl
def lvTo (ts : List Ten) (i : Nat) : List Lv := (List.range i).map fun (k : Nat) => ⟨k, (sh0 ts).lab k⟩
theorem sh0_lv (ts : List Ten) : (sh0 ts).lv = lvTo ts ts.length := by rw [Sh.lv, sh0_ixs]; rfl
theorem lvTo_step {ts : List Ten} {i : Nat} {t : Ten} (h : ts[i]? = some t) : lvTo ts (i + 1) = lvTo ts i ++ [⟨i, t.l⟩] := by
  have : (sh0 ts).lab i = t.l := by simp [Sh.lab, sh0, List.getD, h]
  rw [lvTo, List.range_succ, List.map_append]
  simp [lvTo, this]
theorem bplaces_state : bplaces Tryz.prog 144 = some ((List.replicate 100 (num 0) ++ [.slice none 0 0, .slice none 0 0, num 0]).toArray, [(0, 100), (100, 1), (101, 1), (102, 1)]) := by kernel_rfl
theorem built_state (arr : List Int) (vo : Value) (nx : Int) (hal : arr.length = 100) (hvo : vo.oneCell' = true) :
    Tryz.prog.built 144 [(0, .agg (ints arr).toArray), (1, vo), (3, num nx)] = some (stCells arr vo (.slice none 0 0) nx).toArray := by
  rw [built_of bplaces_state]; have f1 := fill_at (place := fun i => ([(0, 100), (100, 1), (101, 1), (102, 1)] : List (Nat × Nat)).toArray[i]?) (A := []) (us := ints arr) (cs := List.replicate 100 (num 0)) (B := [.slice none 0 0, .slice none 0 0, num 0]) (i := 0) (v := .agg (ints arr).toArray) (rest := [(1, vo), (3, num nx)]) rfl rfl (by rw [ints_length]; exact hal) rfl (by simp); have f2 := fill_at (place := fun i => ([(0, 100), (100, 1), (101, 1), (102, 1)] : List (Nat × Nat)).toArray[i]?) (A := ints arr) (us := [vo]) (cs := [.slice none 0 0]) (B := [.slice none 0 0, num 0]) (i := 1) (v := vo) (rest := [(3, num nx)]) rfl (oneCell_cells hvo) rfl (by rw [ints_length]; exact hal) rfl; have f3 := fill_at (place := fun i => ([(0, 100), (100, 1), (101, 1), (102, 1)] : List (Nat × Nat)).toArray[i]?) (A := ints arr ++ [vo, .slice none 0 0]) (us := [num nx]) (cs := [num 0]) (B := []) (i := 3) (v := num nx) (rest := []) rfl rfl rfl (by simp [ints_length, hal]) rfl; simp only [List.nil_append] at f1; rw [f1]; rw [show (ints arr ++ [Value.slice none 0 0, .slice none 0 0, num 0]) = ints arr ++ [.slice none 0 0] ++ [.slice none 0 0, num 0] by simp, f2]; rw [show (ints arr ++ [vo] ++ [Value.slice none 0 0, num 0]) = ints arr ++ [vo, .slice none 0 0] ++ [num 0] ++ [] by simp, f3]
  simp [Instr.fill, stCells]
set_option maxHeartbeats 2000000 in
theorem ct_i_startState (k p n : Int) (ts : List Ten) (op : List Int) (vt vo : Value) (w : World) (r : TensR ts vt (hp w)) (r' : IntsR op vo (hp w)) (hok : ∀ t ∈ ts, axesL t.l t.d) (hts : ts.length ≤ 12) :
    Calls Tryz.prog 116 [netV k p n vt vo].toArray w (Ret w emp (fun u h => ∃ bb arr, u = ptrV bb ∧ StO arr vo (sh0 ts) bb h ∧ (consL ts → arrInv ts arr))) := by
  refine calls_in Tryz.func116 rfl Tryz.ntmps116 rfl (Sat.start w) ?_; have hle0 := r.le; obtain ⟨cs_r, rr_r, hc_r⟩ := r.at; have hle1 := r'.le; refine wp_sc (wp_sq ?_); refine sq_x rfl (x_box rfl rfl) rfl ?_; rintro _ _ ⟨b1, rfl, rfl⟩; refine sq_v rfl (v_assign rfl) rfl (sq_end (qs_n (wp_sc (wp_sq (sq_v rfl (v_fieldAddr fd_29_1 ty_26 (by decide) rfl) rfl (sq_v rfl (v_loadB 0 ty_26 rfl rfl rfl) rfl ?_)))))); refine sq_x rfl (x_call rfl en_43 (fun w s => ct_i_dimsOf _ _ w (r.mono (s.get 1 rfl)) (by first | assumption | omega))) rfl ?_; rintro _ h11 ⟨arr, ok, rfl, hal, hok', hav⟩; refine sq_v rfl (v_move rfl) rfl (sq_v rfl (v_extract rfl rfl) rfl (sq_v rfl (v_extract rfl rfl) rfl ?_)); refine sq_x rfl (x_alloc ty_69 rfl) rfl ?_; rintro _ _ ⟨b3, rfl, rfl⟩; refine sq_m 0 rfl rfl (m_storeW 0 ty_69 rfl rfl rfl (by rw [ints_length]; exact hal) (ints_one arr) rfl (by simp)) rfl ?_; rintro _ _ ⟨rfl, rfl⟩; refine sq_v rfl (v_assign rfl) rfl (sq_end (qs_n (wp_sc (wp_sq ?_)))); refine sq_v rfl (v_loadNB 0 ty_69 rfl rfl (by rw [ints_length]; exact hal) (by rw [List.drop_zero, List.take_of_length_le]; rw [ints_length, hal]; omega)) rfl ?_; refine sq_v rfl (v_fieldAddr fd_29_2 ty_27 (by decide) rfl) rfl (sq_v rfl (v_loadB 2 ty_27 rfl rfl rfl) rfl (sq_v rfl (v_fieldAddr fd_29_1 ty_26 (by decide) rfl) rfl (sq_v rfl (v_loadB 2 ty_26 rfl rfl rfl) rfl (sq_v rfl (v_len Tryz.underlying26 rfl r.sl) rfl (sq_v rfl (v_build (stCells arr vo (.slice none 0 0) ts.length) rfl (built_state arr vo _ hal r'.sl.one)) rfl ?_))))); refine sq_x rfl (x_box rfl rfl) rfl ?_; rintro _ _ ⟨b21, rfl, rfl⟩; refine sq_v rfl (v_assign rfl) rfl (sq_end (qs_n (wp_sc (wp_sc (wp_sq (sq_v rfl (v_fieldAddr fd_29_1 ty_26 (by decide) rfl) rfl (sq_v rfl (v_loadB 3 ty_26 rfl rfl rfl) rfl (sq_v rfl (v_len Tryz.underlying26 rfl r.sl) rfl (sq_v rfl (v_move rfl) rfl (sq_end (qs_n (wp_bl ?_)))))))))))); refine wp_lp (σ := Nat × Value × PH × (List Value) × PH) (fun z_ => [(2, .pointer none), (5, .pointer (some ⟨b21, 0, none⟩)), (23, vt), (24, num ts.length), (25, num z_.1)]) (fun z_ => [z_.2.2.2.2, z_.2.2.1, box b21 (ints arr ++ [vo, z_.2.1, num ts.length]) 144, box b3 (ints arr) 69, h11, box b1 [num k, num p, num n, vt, vo] 29, hp w]) (fun z_ => z_.1 ≤ ts.length ∧ LvL (lvTo ts z_.1) z_.2.2.2.1 z_.2.2.2.2 ∧ RowO (146) z_.2.2.2.1 z_.1 2 z_.2.1 z_.2.2.1) (fun z_ => ts.length - z_.1) (0, .slice none 0 0, emp, [], emp) (⟨by (try dsimp only); omega, LvL.nil _, RowO.nil⟩) ⟨rfl, rfl, rfl, rfl, (by first | rfl | exact ksub rfl (by first | omega | (simp; done) | (simp; omega))), trivial⟩ (fun _ s => (emp_sat (emp_sat s))) ?_; rintro ⟨i, lx, ha, cs, hl⟩ ⟨hi, hlv, rr⟩; dsimp only at hi hlv rr ⊢; refine wp_sc (wp_sq (sq_v rfl (v_lss rfl rfl) rfl (sq_end (qs_n (wp_sc ?_))))); refine wp_cd rfl (fun c26 => ?_) (fun c26 => ?_)
  · refine wp_sk (qs_n (wp_sc (wp_bl (wp_sc (wp_sq (sq_v rfl (v_move rfl) rfl ?_)))))); obtain ⟨t28, a28, b28, c28, ht28, hcs28, rl28, rd28, rx28⟩ := hc_r (i) (by first | omega | (rw [List.length_set]; omega)); refine sq_v rfl (v_indexAddr Tryz.underlying26 ty_55 rfl rfl rr_r (by decide) (by omega) (by omega)) rfl ?_; refine sq_v rfl (v_loadNE 6 ty_55 rfl rfl rr_r (by have := rr_r.1; omega) rfl hcs28) rfl ?_; refine sq_x rfl (x_alloc ty_55 rfl) rfl ?_; rintro _ _ ⟨b7, rfl, rfl⟩; refine sq_v rfl (v_assign rfl) rfl ?_; refine sq_m 0 rfl rfl (m_store 0 ty_55 rfl rfl rfl rfl (by simp [rl28.sl.one, rd28.sl.one, rx28.sl.one]) rfl (Nat.le_of_ble_eq_true rfl)) rfl ?_; rintro _ _ ⟨rfl, rfl⟩; refine sq_end ?_; have hax := hok t28 (List.mem_of_getElem? ht28); have hl12 := hax.1; refine qs_n (wp_rk [false, false, true, false, false, false, false, false] 12 [(0, true), (1, true), (2, true), (3, true), (4, true), (5, true), (6, true), (7, true), (8, false), (9, true), (10, false), (11, false), (12, false), (13, false), (14, false)] mixed_ok (by kernel_rfl) (rk_v rfl rfl (v_move rfl) rfl (rk_v rfl rfl (v_move rfl) rfl (rk_v rfl rfl (v_nilCheck rfl) rfl (rk_v rfl rfl (v_fieldAddr fd_144_2 ty_142 (by decide) rfl) rfl (rk_v rfl rfl (v_loadB 3 ty_142 rfl rfl (pre_get hal 1 rfl)) rfl (rk_v rfl rfl (v_move rfl) rfl (rk_v rfl rfl (v_fieldAddr fd_55_0 ty_27 (by decide) rfl) rfl (rk_v rfl rfl (v_loadB 0 ty_27 rfl rfl rfl) rfl ?_))))))))); refine rk_x rfl rfl (x_call rfl en_47 (fun w s => ct_i_copyInts _ _ w (rl28.mono (s.get 7 rfl)) (by first | assumption | omega))) rfl ?_; rintro v38 h38 r38; refine rk_v rfl rfl (v_build [num i, v38] rfl (by obtain ⟨_, _, rfl⟩ := r38.toR.sl; kernel_rfl)) rfl ?_; refine rk_x rfl rfl (x_buildS [.agg [num i, v38].toArray] Tryz.underlying142 ty_146 (by decide) rfl rfl rfl (by decide) (by decide) (by intro v hv; simp at hv; subst hv; rfl)) rfl ?_; intro v40 h40 (r40 : RowO 146 [num i, v38] 1 2 v40 h40); refine rk_m 4 rfl rfl rfl rfl (m_append 4 0 Tryz.underlying142 ty_146 rfl rfl (by decide) rfl rfl rfl rr rfl r40.toR (by simp [one_int, r38.toR.sl.one]) (by unfold maxLen; omega) (by omega)) rfl ?_; intro v41 h_r41 (r41 : RowO 146 (cs ++ [num i, v38]) (i + 1) 2 v41 h_r41); refine rk_fv rfl rfl (v_nilCheck rfl) rfl (rk_fv rfl rfl (v_fieldAddr fd_144_2 ty_142 (by decide) rfl) rfl ?_); refine rk_mt 5 rfl rfl rfl rfl (m_store1 5 ty_142 rfl rfl r41.toR.sl.one rfl (by simp [ints_length, hal])) rfl ?_; rintro _ _ ⟨rfl, rfl⟩; rw [pre_set (j := 1) hal]; dsimp only [List.set]; refine rk_end (qs_bn (qs_n (wp_sq ?_))); refine sq_v rfl (v_add rfl rfl ((by unfold I64; omega))) rfl ?_; refine sq_v rfl (v_move rfl) rfl (sq_end ?_); refine qs_dj 3 1 rfl rfl rfl (fun hdj => ?_); exact qs_bk (i + 1, v41, h_r41, cs ++ [num i, v38], PUn hl h38) ⟨by (try dsimp only); omega, by (try dsimp only); rw [lvTo_step ht28]; exact (hlv.mono (PLe.un_l _ _)).snoc (x := ⟨i, t28.l⟩) (r38.toR.mono (PLe.un_r hdj)), r41⟩ (by simp only; omega) ⟨rfl, rfl, rfl, rfl, (by first | rfl | exact ksub rfl (by first | omega | (simp; done) | (simp; omega))), trivial⟩ (fun _ s => Sat.merge (s.pick [3, 1, 4, 5, 6, 7, 8, 9] (by decide) rfl))
  · refine wp_ex (qs_x (qs_x (qs_bx (qs_n (wp_sc (wp_sq (sq_v rfl (v_move rfl) rfl (sq_v rfl (v_assign rfl) rfl (sq_end (qs_n (wp_rt ?_))))))))))); refine qs_close [box b21 _ _, hp w] [hl, ha] (fun _ s => s.pick [2, 6, 0, 1] (by decide) rfl) (fun md1 => ?_); refine qs_close [hp w] [box b21 _ _, joinP [hl, ha]] (fun _ s => s.pick [2, 1, 0] (by decide) rfl) (fun md2 => ?_); have ei : i = ts.length := by omega
    subst ei; have el : ((sh0 ts).all.length : Int) = ts.length := by simp [sh0]
    have hll : (lvTo ts ts.length).length = ts.length := by simp [lvTo]
    have hlive := (hlv.mono (md1.le hl (by simp))).live (by rw [hll]; exact rr.toR.mono (md1.le ha (by simp))); exact qs_ret1 rfl rfl (fin_t 0 (i := 1) rfl rfl rfl ⟨b21, arr, rfl, ⟨hal, sh0_ok ts, lx, _, by rw [sh0_lv]; exact hlive, by rw [el]; exact md2⟩, fun hc => hav (hok'.2 hc)⟩)
end Go.Proofs.YtiefkcaplhnnmaaGreat
namespace Go.Proofs.YtiefkcaplhnnmaaGreat
set_option maxRecDepth 100000
open Go.RowKit
theorem pigeon : ∀ {l m : List Int}, l.Nodup → (∀ x ∈ l, x ∈ m) → l.length ≤ m.length
  | [], _, _, _ => by simp
  | a :: r, m, hn, hs => by
    have ha := hs a (by simp); have hn' := List.nodup_cons.1 hn; have ih := pigeon (l := r) (m := m.erase a) hn'.2 (fun x hx => (List.mem_erase_of_ne (fun e => hn'.1 (by rw [← e]; exact hx))).2 (hs x (by simp [hx]))); rw [List.length_erase_of_mem ha] at ih; have : 0 < m.length := List.length_pos_of_mem ha; simp only [List.length_cons]
    omega
theorem joinI_nodup {a b : List Int} (ha : a.Nodup) (hb : b.Nodup) : (joinI a b).Nodup := by
  refine List.nodup_append.2 ⟨ha, List.Pairwise.filter _ hb, fun x hx y hy e => ?_⟩; subst e; have := (List.mem_filter.1 hy).2
  simp [hx] at this
theorem mem_joinI {a b : List Int} {x : Int} : x ∈ joinI a b ↔ x ∈ a ∨ x ∈ b := by
  simp only [joinI, List.mem_append, List.mem_filter, decide_eq_true_eq]
  constructor
  · rintro (h | h)
    · exact .inl h
    · exact .inr h.1
  · rintro (h | h)
    · exact .inl h
    · by_cases hx : x ∈ a
      · exact .inl hx
      · exact .inr ⟨h, hx⟩
/-- Each row of labels is without repetition and of labels of the network. -/
def Sh.fine (s : Sh) : Prop := s.ok ∧ ∀ i, (s.lab i).Nodup ∧ ∀ x ∈ s.lab i, 0 ≤ x ∧ x ≤ 99
theorem few_labels {l : List Int} (h : l.Nodup) (h1 : ∀ x ∈ l, 0 ≤ x ∧ x ≤ 99) : l.length ≤ 100 := by
  have := pigeon (m := (List.range 100).map Int.ofNat) h (fun x hx => by
    have := h1 x hx; simp only [List.mem_map, List.mem_range]; exact ⟨x.toNat, by omega, show ((x.toNat : Nat) : Int) = x by omega⟩)
  simpa using this
theorem Sh.fine.few {s : Sh} (h : s.fine) (i : Nat) : (s.lab i).length ≤ 100 := few_labels (h.2 i).1 (h.2 i).2
theorem res_mem {op : List Int} {s : Sh} {a b : Nat} {x : Int} (h : x ∈ s.res op a b) : x ∈ s.lab a ∨ x ∈ s.lab b := mem_joinI.1 (List.mem_filter.1 h).1
theorem Sh.fine.step {s : Sh} (h : s.fine) (op : List Int) (a b : Nat) : (s.step op a b).fine := by
  refine ⟨Sh.step_ok h.1 a b, fun i => ?_⟩
  rcases Nat.lt_trichotomy i s.all.length with hi | hi | hi
  · rw [step_lab hi]; exact h.2 i
  · subst hi; rw [step_lab_new]; refine ⟨List.Pairwise.filter _ (joinI_nodup (h.2 a).1 (h.2 b).1), fun x hx => ?_⟩
    rcases res_mem hx with hx | hx
    · exact (h.2 a).2 x hx
    · exact (h.2 b).2 x hx
  · have : (s.step op a b).lab i = [] := by simp only [Sh.lab, Sh.step, List.getD]; rw [List.getElem?_eq_none (by simp; omega)]; rfl
    rw [this]; exact ⟨List.nodup_nil, fun x hx => by simp at hx⟩
theorem sh0_fine {ts : List Ten} (h : ∀ t ∈ ts, axesL t.l t.d) : (sh0 ts).fine := by
  refine ⟨sh0_ok ts, fun i => ?_⟩
  by_cases hi : i < ts.length
  · have : (sh0 ts).lab i = ts[i].l := by simp [Sh.lab, sh0, List.getD, hi]
    rw [this]; have hax := h ts[i] (List.getElem_mem hi); exact ⟨axes_nodup hax, fun x hx => by obtain ⟨j, hj, e⟩ := getD_of_mem hx; have := (hax.2.2 j hj).1; rw [e] at this; exact this⟩
  · have : (sh0 ts).lab i = [] := by simp [Sh.lab, sh0, List.getD, Nat.le_of_not_lt hi]
    rw [this]; exact ⟨List.nodup_nil, fun x hx => by simp at hx⟩
/-- The state behind some steps. -/
noncomputable def shTo (op : List Int) (s : Sh) (ss : List Stp) : Sh := ss.foldl (fun s x => s.step op x.a.toNat x.b.toNat) s
theorem shTo_step {op : List Int} {s : Sh} {ss : List Stp} {i : Nat} {x : Stp} (h : ss[i]? = some x) : shTo op s (ss.take (i + 1)) = (shTo op s (ss.take i)).step op x.a.toNat x.b.toNat := by
  obtain ⟨hi, e⟩ := List.getElem?_eq_some_iff.1 h; rw [List.take_succ_eq_append_getElem hi, e, shTo, List.foldl_append]; rfl
theorem shTo_fine {op : List Int} {s : Sh} (h : s.fine) : ∀ ss, (shTo op s ss).fine
  | [] => h
  | x :: r => shTo_fine (h.step op x.a.toNat x.b.toNat) r
theorem shTo_all {op : List Int} : ∀ {s : Sh} {ss : List Stp}, (shTo op s ss).all.length = s.all.length + ss.length
  | s, [] => by simp [shTo]
  | s, x :: r => by
    have := shTo_all (op := op) (s := s.step op x.a.toNat x.b.toNat) (ss := r)
    show (shTo op (s.step op x.a.toNat x.b.toNat) r).all.length = _
    rw [this]
    simp [Sh.step]; omega
def stepOk (s : Sh) (x : Stp) : Prop := s.live x.a ∧ s.live x.b ∧ x.a < x.b
def okSteps (op : List Int) (s : Sh) (ss : List Stp) : Prop := ∀ i, i < ss.length → ∀ x, ss[i]? = some x → stepOk (shTo op s (ss.take i)) x
def orderL (k p n : Int) (ts : List Ten) (op : List Int) (ss : List Stp) : Prop := netL k p n ts op ∧ ss.length = ts.length - 1 ∧ okSteps op (sh0 ts) ss
open Classical in
noncomputable def orderB (k p n : Int) (ts : List Ten) (op : List Int) (ss : List Stp) : Bool := decide (orderL k p n ts op ss)
theorem orderB_no {k p n : Int} {ts : List Ten} {op : List Int} {ss : List Stp} (h : ¬ orderL k p n ts op ss) : Value.bool false = .bool (orderB k p n ts op ss) := by simp [orderB, h]
theorem orderB_yes {k p n : Int} {ts : List Ten} {op : List Int} {ss : List Stp} (h : orderL k p n ts op ss) : Value.bool true = .bool (orderB k p n ts op ss) := by simp [orderB, h]
theorem orderB_true {k p n : Int} {ts : List Ten} {op : List Int} {ss : List Stp} : orderB k p n ts op ss = true ↔ orderL k p n ts op ss := by simp [orderB]
theorem orderB_false {k p n : Int} {ts : List Ten} {op : List Int} {ss : List Stp} : orderB k p n ts op ss = false ↔ ¬ orderL k p n ts op ss := by simp [orderB]
open Classical in
noncomputable def okB (s : Sh) (x y : Int) : Bool := decide (s.live x ∧ s.live y ∧ x < y)
open Classical in
noncomputable def nextSh (op : List Int) (s : Sh) (x y : Int) : Sh := if s.live x ∧ s.live y ∧ x < y then s.step op x.toNat y.toNat else s
theorem okB_true {s : Sh} {x y : Int} : okB s x y = true ↔ s.live x ∧ s.live y ∧ x < y := by simp [okB]
theorem okB_false {s : Sh} {x y : Int} : okB s x y = false ↔ ¬ (s.live x ∧ s.live y ∧ x < y) := by simp [okB]
theorem nextSh_yes {op : List Int} {s : Sh} {x y : Int} (h : okB s x y = true) : nextSh op s x y = s.step op x.toNat y.toNat := if_pos (okB_true.1 h)
theorem nextSh_no {op : List Int} {s : Sh} {x y : Int} (h : okB s x y = false) : nextSh op s x y = s := if_neg (okB_false.1 h)
theorem ct_L_follow (arr op : List Int) (vo : Value) (sh : Sh) (bb : Nat) (x y : Int) (w : World) (h : PH) (hle : PLe h (hp w)) (rs : StO arr vo sh bb h) (ro : IntsR op vo (restP w h))
    (hsz : ∀ i, (sh.lab i).length ≤ 50000) (hall : sh.all.length ≤ 100000) :
    Calls Tryz.prog 133 [.pointer (some ⟨bb, 0, none⟩), stepV x y].toArray w (Ret w h (fun u h' => u = .bool (okB sh x y) ∧ StO arr vo (nextSh op sh x y) bb h')) :=
  (ct_i_follow arr op vo sh bb x y w h hle rs ro hsz hall).mono fun _ _ hh => by
    obtain ⟨u, h', h1, h2, h3⟩ := hh; refine ⟨u, h', h1, h2, ?_⟩
    by_cases hc : sh.live x ∧ sh.live y ∧ x < y
    · have := h3.1 hc; exact ⟨by rw [okB_true.2 hc]; exact this.1, by rw [nextSh_yes (okB_true.2 hc)]; exact this.2⟩
    · have := h3.2 hc; exact ⟨by rw [okB_false.2 hc]; exact this.1, by rw [nextSh_no (okB_false.2 hc)]; exact this.2⟩
set_option maxHeartbeats 1000000 in
theorem ct_i_OrderOk (k p n : Int) (ts : List Ten) (op : List Int) (ss : List Stp) (vt vo v : Value) (w : World) (r : TensR ts vt (hp w)) (r' : IntsR op vo (hp w)) (rv : StepsR ss v (hp w)) (hs : op.length ≤ 1048576) :
    Calls Tryz.prog 115 [netV k p n vt vo, v].toArray w (RetV w (.bool (orderB k p n ts op ss))) := by
  refine calls_in Tryz.func115 rfl Tryz.ntmps115 rfl (Sat.start w) ?_; have hle0 := r.le; obtain ⟨cs_r, rr_r, hc_r⟩ := r.at; have hle1 := r'.le; have hle2 := rv.le; obtain ⟨cs_rv, rr_rv, hc_rv⟩ := rv.at; refine wp_sc (wp_sq ?_); refine sq_x rfl (x_box rfl rfl) rfl ?_; rintro _ _ ⟨b2, rfl, rfl⟩; refine sq_v rfl (v_assign rfl) rfl (sq_end (qs_n (wp_sc (wp_sc (wp_sq (sq_v rfl (v_loadNB 0 ty_29 rfl rfl rfl rfl) rfl (sq_u rfl (x_callv rfl en_14 (fun w s => ct_i_NetworkOk _ _ _ _ _ _ _ w (r.mono (s.get 1 rfl)) (r'.mono (s.get 1 rfl)) (by first | assumption | omega))) rfl ?_))))))); refine sq_bb 9 rfl (fun c9 => ?_) (fun c9 => ?_)
  · refine sq_v rfl (v_not rfl) rfl (sq_v rfl (v_move rfl) rfl (sq_v rfl (v_move rfl) rfl (sq_v rfl (v_len Tryz.underlying80 rfl rv.sl) rfl (sq_v rfl (v_fieldAddr fd_29_1 ty_26 (by decide) rfl) rfl (sq_v rfl (v_loadB 0 ty_26 rfl rfl rfl) rfl (sq_v rfl (v_len Tryz.underlying26 rfl r.sl) rfl ?_)))))); refine sq_v rfl (v_sub rfl rfl ((by unfold I64; omega))) rfl ?_; refine sq_v rfl (v_max rfl rfl) rfl (sq_v rfl (v_neq rfl rfl) rfl (sq_v rfl (v_pickf rfl rfl) rfl (sq_end (qs_n ?_)))); refine wp_cd rfl (fun c20 => ?_) (fun c20 => ?_)
    · refine wp_sc (wp_sq (sq_v rfl (v_assign rfl) rfl (sq_end (qs_n (wp_rt (qs_r ?_)))))); exact qs_ret1 rfl rfl (fin_q (i := 1) rfl (orderB_no (fun h => by have := h.2.1; omega)))
    · refine wp_sk (qs_n (wp_sc (wp_sq (sq_v rfl (v_loadNB 0 ty_29 rfl rfl rfl rfl) rfl ?_)))); have hnet := netB_true.1 c9; have hax := net_axes hnet; have h12 := hnet.2.1; have hfi := sh0_fine hax; refine sq_x rfl (x_call rfl en_116 (fun w s => ct_i_startState _ _ _ _ _ _ _ w (r.mono (s.get 1 rfl)) (r'.mono (s.get 1 rfl)) hax h12)) rfl ?_; rintro _ h22 ⟨bb, arr, rfl, rst, _⟩; refine sq_v rfl (v_assign rfl) rfl (sq_end (qs_n (wp_sc (wp_sc (wp_sq (sq_v rfl (v_move rfl) rfl (sq_v rfl (v_len Tryz.underlying80 rfl rv.sl) rfl (sq_v rfl (v_move rfl) rfl (sq_end (qs_n (wp_bl ?_))))))))))); refine wp_lp (σ := Nat × PH) (fun z_ => [(4, .bool false), (5, ptrV bb), (23, v), (24, num ss.length), (25, num z_.1)]) (fun z_ => [z_.2, box b2 [num k, num p, num n, vt, vo] 29, hp w]) (fun z_ => z_.1 ≤ ss.length ∧ StO arr vo (shTo op (sh0 ts) (ss.take z_.1)) bb z_.2 ∧ (∀ j, j < z_.1 → ∀ x, ss[j]? = some x → stepOk (shTo op (sh0 ts) (ss.take j)) x)) (fun z_ => ss.length - z_.1) (0, h22) (⟨by (try dsimp only); omega, rst, fun j hj => by omega⟩) ⟨rfl, rfl, rfl, rfl, (by first | rfl | exact ksub rfl (by first | omega | (simp; done) | (simp; omega))), trivial⟩ (fun _ s => s) ?_; rintro ⟨i, g⟩ ⟨hi, rst, hks⟩; dsimp only at hi rst hks ⊢; have hfs := shTo_fine (op := op) hfi (ss.take i); have hal := shTo_all (op := op) (s := sh0 ts) (ss := ss.take i); rw [show (sh0 ts).all.length = ts.length by simp [sh0], List.length_take] at hal; refine wp_sc (wp_sq (sq_v rfl (v_lss rfl rfl) rfl (sq_end (qs_n (wp_sc ?_))))); refine wp_cd rfl (fun c26 => ?_) (fun c26 => ?_)
      · refine wp_sk (qs_n (wp_sc (wp_bl (wp_sc (wp_sq ?_))))); obtain ⟨x27, hx27, hcs27⟩ := hc_rv (i) (by first | omega | (rw [List.length_set]; omega)); refine sq_v rfl (v_indexAddr Tryz.underlying80 ty_114 rfl rfl rr_rv (by decide) (by omega) (by first | omega | (rw [List.length_set]; omega))) rfl ?_; refine sq_v rfl (v_loadNE 2 ty_114 rfl rfl rr_rv (by have := rr_rv.1; omega) rfl hcs27) rfl ?_; refine sq_x rfl (x_alloc ty_114 rfl) rfl ?_; rintro _ _ ⟨b7, rfl, rfl⟩; refine sq_m 0 rfl rfl (m_store 0 ty_114 rfl rfl rfl rfl (by simp [Value.oneCell']) rfl (Nat.le_of_ble_eq_true rfl)) rfl ?_; rintro _ _ ⟨rfl, rfl⟩; refine sq_end (qs_n (wp_sc (wp_sq (sq_v rfl (v_move rfl) rfl (sq_v rfl (v_loadNB 0 ty_114 rfl rfl rfl rfl) rfl ?_))))); refine sq_m 1 rfl rfl (x_call rfl en_133 (fun w s => ct_L_follow arr op vo _ bb _ _ w _ (s.get 1 rfl) rst (r'.mono (s.getR 1 3 rfl rfl (by decide))) (fun i => by have := hfs.few i; omega) (by omega))) rfl ?_; rintro _ h31 ⟨rfl, rst'⟩; refine sq_v rfl (v_not rfl) rfl (sq_end (qs_n ?_)); refine wp_cn _ rfl (fun c32 => ?_) (fun c32 => ?_)
        · refine wp_sc (wp_sq (sq_v rfl (v_assign rfl) rfl (sq_end (qs_n (wp_rt (qs_br (qs_r (qs_r (qs_br (qs_r ?_)))))))))); exact qs_ret1 rfl rfl (fin_q (i := 3) rfl (orderB_no (fun h => okB_false.1 c32 (h.2.2 i (by omega) x27 hx27))))
        · refine wp_sk (qs_bn (qs_n (wp_sq ?_))); refine sq_v rfl (v_add rfl rfl ((by unfold I64; omega))) rfl ?_; refine sq_v rfl (v_move rfl) rfl (sq_end ?_); exact qs_bk (i + 1, h31) ⟨by (try dsimp only); omega, by (try dsimp only); rw [nextSh_yes c32] at rst'; rw [shTo_step hx27]; exact rst', step_all hks (fun x hx => by rw [hx27] at hx; cases hx; exact okB_true.1 c32)⟩ (by simp only; omega) ⟨rfl, rfl, rfl, rfl, (by first | rfl | exact ksub rfl (by first | omega | (simp; done) | (simp; omega))), trivial⟩ (fun _ s => s.pick [1, 2, 3] (by decide) rfl)
      · refine wp_ex (qs_x (qs_x (qs_bx (qs_n (wp_sc (wp_sq (sq_v rfl (v_assign rfl) rfl (sq_end (qs_n (wp_rt ?_)))))))))); exact qs_ret1 rfl rfl (fin_q (i := 2) rfl (orderB_yes ⟨hnet, by omega, fun j hj => hks j (by omega)⟩))
  · refine sq_v rfl (v_not rfl) rfl (sq_v rfl (v_move rfl) rfl (sq_s rfl rfl (sq_s rfl rfl (sq_s rfl rfl (sq_s rfl rfl (sq_s rfl rfl (sq_s rfl rfl (sq_s rfl rfl (sq_s rfl rfl ?_))))))))); refine sq_v rfl (v_pickt rfl rfl) rfl (sq_end (qs_n (wp_ct rfl (wp_sc (wp_sq (sq_v rfl (v_assign rfl) rfl (sq_end (qs_n (wp_rt (qs_r ?_)))))))))); exact qs_ret1 rfl rfl (fin_q (i := 1) rfl (orderB_no (fun h => netB_false.1 c9 h.1)))
end Go.Proofs.YtiefkcaplhnnmaaGreat
namespace Go.Proofs.YtiefkcaplhnnmaaGreat
set_option maxRecDepth 100000
open Go.RowKit
/-- Of the numbers ds those whose label fits p. -/
def selP (p : Int → Bool) : List Int → List Int → List Int
  | l :: ls, d :: ds => if p l then d :: selP p ls ds else selP p ls ds
  | _, _ => []
theorem selP_map (p : Int → Bool) (f : Int → Int) : ∀ ls : List Int, selP p ls (ls.map f) = (ls.filter p).map f
  | [] => rfl
  | l :: ls => by
    have ih := selP_map p f ls; simp only [List.map_cons, selP, List.filter_cons, ih]
    split <;> simp
def joinD (a b : Ten) : List Int := a.d ++ selP (fun x => decide (x ∉ a.l)) b.l b.d
/-- A label of both has two dimensions. -/
def mism (a b : Ten) : Prop := ∃ i, i < b.l.length ∧ b.l.getD i 0 ∈ a.l ∧ a.d.getD (findI a.l (b.l.getD i 0)).toNat 0 ≠ b.d.getD i 0
def JoinR (a b : Ten) (u : Value) (h : PH) : Prop :=
  (mism a b → u = .tuple [.slice none 0 0, .slice none 0 0, .bool false].toArray) ∧ (¬ mism a b → ∃ v1 v2, u = .tuple [v1, v2, .bool true].toArray ∧ IntsR (joinI a.l b.l) v1 h ∧ IntsR (joinD a b) v2 h)
theorem nodup_not_take {xs : List Int} (h : xs.Nodup) {i : Nat} (hi : i < xs.length) : xs.getD i 0 ∉ xs.take i := by
  intro hm; obtain ⟨j, hj, e⟩ := getD_of_mem hm; simp only [List.length_take] at hj; have e2 : (xs.take i).getD j 0 = xs.getD j 0 := by simp only [List.getD, List.getElem?_take]; rw [if_pos (by omega)]
  rw [e2] at e; have h1 : j < xs.length := by omega
  simp only [List.getD, List.getElem?_eq_getElem h1, List.getElem?_eq_getElem hi, Option.getD_some] at e; have := (List.getElem_inj h).1 e
  omega
theorem joinD_map {t u : Ten} {f : Int → Int} (ht : t.d = t.l.map f) (hu : u.d = u.l.map f) : joinD t u = (joinI t.l u.l).map f := by
  rw [joinD, ht, hu, selP_map, joinI, List.map_append]
theorem mism_not {t u : Ten} {f : Int → Int} (ht : t.d = t.l.map f) (hu : u.d = u.l.map f) : ¬ mism t u := by
  rintro ⟨i, hi, hm, hne⟩; have hg := findI_get hm; rw [ht, hu, map_getD hg.1, map_getD hi, hg.2] at hne; exact hne rfl
end Go.Proofs.YtiefkcaplhnnmaaGreat
namespace Go.Proofs.YtiefkcaplhnnmaaGreat
set_option maxRecDepth 100000
open Go.RowKit
def TensL (ts : List Ten) (cs : List Value) (h : PH) : Prop := cs.length = ts.length * 3 ∧ ∀ (i : Nat) (t : Ten), ts[i]? = some t → TenR t ((cs.drop (i * 3)).take 3) h
theorem TensL.nil (h : PH) : TensL [] [] h := ⟨rfl, fun i x e => by simp at e⟩
theorem TensL.mono {ts : List Ten} {cs : List Value} {h h' : PH} (r : TensL ts cs h) (l : PLe h h') : TensL ts cs h' := ⟨r.1, fun i x e => (r.2 i x e).mono l⟩
theorem TensL.snoc {ts : List Ten} {cs : List Value} {h : PH} (r : TensL ts cs h) {t : Ten} {a b c : Value} (r1 : IntsR t.l a h) (r2 : IntsR t.d b h) (r3 : IntsR t.x c h) : TensL (ts ++ [t]) (cs ++ [a, b, c]) h := by
  refine ⟨by simp [r.1]; omega, fun i y e => ?_⟩
  by_cases hi : i < ts.length
  · rw [List.getElem?_append_left hi] at e; have := r.2 i y e; have e2 : ((cs ++ [a, b, c]).drop (i * 3)).take 3 = (cs.drop (i * 3)).take 3 := by
      rw [List.drop_append, List.take_append]; have hl : 3 - (cs.drop (i * 3)).length = 0 := by simp [r.1]; omega
      rw [hl, List.take_zero, List.append_nil]
    rw [e2]; exact this
  · have hlt := (List.getElem?_eq_some_iff.1 e).1
    simp at hlt
    have : i = ts.length := by omega
    subst this; rw [List.getElem?_append_right (by omega)] at e
    simp at e
    subst e; have e2 : ((cs ++ [a, b, c]).drop (ts.length * 3)).take 3 = [a, b, c] := by
      rw [← r.1, List.drop_left]; rfl
    rw [e2]; exact ⟨a, b, c, rfl, r1, r2, r3⟩
theorem TensL.tens {ts : List Ten} {cs : List Value} {v : Value} {h : PH} (r : TensL ts cs h) (rr : RowR cs ts.length 3 v h) : TensR ts v h := ⟨cs, rr, r.2⟩
theorem PUn.mono_l {a b q : PH} (l : PLe a b) (d : PDj b q) : PLe (PUn a q) (PUn b q) := fun k o e => by
  unfold PUn at *
  split at e
  · rename_i x hx; cases e; rw [l k _ hx]
  · rcases d k with h1 | h1
    · rw [h1]; exact e
    · rw [h1] at e; cases e
theorem PDj.rest {w : World} {h hs : PH} (l : PLe hs h) : PDj hs (restP w h) := fun k => by
  cases e : hs k with
  | none => exact .inl rfl
  | some o => right; simp [restP, l k o e]
theorem Sat.join {w0 w : World} {HS : List PH} {a b : PH} (s : Sat w0 (a :: b :: HS) w) : Sat w0 (PUn a b :: HS) w := s.merge
def shTens (f : Int → Int) (s : Sh) : List Ten := s.all.map fun l => ⟨l, l.map f, []⟩
structure SpR (f : Int → Int) (s : Sh) (va vg : Value) (b : Nat) (h : PH) : Prop where
  ok : s.ok
  c0 : cellP h b 0 = some va
  c1 : cellP h b 1 = some vg
  all : TensR (shTens f s) va h
  gone : BoolsR s.gone vg h
end Go.Proofs.YtiefkcaplhnnmaaGreat
namespace Go.Proofs.YtiefkcaplhnnmaaGreat
set_option maxRecDepth 100000
open Go.RowKit
/-- The world's heap once more. -/
theorem Sat.whole {w0 w : World} {HS : List PH} {q : PH} (lq : PLe q (hp w0)) (s : Sat w0 (q :: restP w0 q :: HS) w) : Sat w0 (HS ++ [hp w0]) w := by
  have l : PLe (hp w0) (PUn q (restP w0 q)) := fun k o e => by
    unfold PUn restP
    cases hq : q k with
    | none => simp [e]
    | some o' => have := lq k o' hq; rw [e] at this; simp [this]
  have s1 := Sat.less (i := 0) s.merge rfl l; exact Sat.comm (A := [hp w0]) (B := HS) s1
theorem net_dmap {k p n : Int} {ts : List Ten} {op : List Int} (h : netL k p n ts op) : ∀ t ∈ ts, t.d = t.l.map (dimOf ts) := fun t ht => by
  have hax := net_axes h t ht; refine ext_getD (by rw [List.length_map, hax.2.1]) fun j hj => ?_; have hj' : j < t.l.length := by rw [hax.2.1]; exact hj
  rw [map_getD hj', net_dim h ht (mem_getD hj'), find_at hax hj', Int.toNat_natCast]
end Go.Proofs.YtiefkcaplhnnmaaGreat
namespace Go.Proofs.YtiefkcaplhnnmaaGreat
set_option maxRecDepth 100000
open Go.RowKit
theorem stepOk_at {op : List Int} {s : Sh} {ss : List Stp} (h : okSteps op s ss) {i : Nat} {x : Stp} (hx : ss[i]? = some x) : stepOk (shTo op s (ss.take i)) x := h i (List.getElem?_eq_some_iff.1 hx).1 x hx
theorem stepCells_take : ∀ (ss : List Stp) (n : Nat), stepCells (ss.take n) = (stepCells ss).take (n * 2)
  | [], n => by simp [stepCells]
  | s :: r, 0 => by simp [stepCells]
  | s :: r, n + 1 => by
    have := stepCells_take r n; rw [List.take_succ_cons, show (n + 1) * 2 = n * 2 + 1 + 1 by omega]
    show [num s.a, num s.b] ++ stepCells (r.take n) = ([num s.a, num s.b] ++ stepCells r).take (n * 2 + 1 + 1)
    rw [this]; rfl
theorem StepsR.subH {ss : List Stp} {v : Value} {h : PH} (r : StepsR ss v h) {hi : Nat} (h2 : hi ≤ ss.length) : StepsR (ss.take hi) (subV v 0 hi 2) h := by
  have := RowR.sub r (Nat.zero_le hi) h2
  unfold StepsR
  rw [stepCells_take, List.length_take, Nat.min_eq_left h2]
  simpa using this
end Go.Proofs.YtiefkcaplhnnmaaGreat
namespace Go.Proofs.YtiefkcaplhnnmaaGreat
set_option maxRecDepth 100000
open Go.RowKit
def pairsL : List Nat → List (Nat × Nat)
  | [] => []
  | a :: r => r.map (fun b => (a, b)) ++ pairsL r
def bestP {α : Type} (g : α → Int) (l : List α) : Option α := l.foldl (fun o x => match o with | none => some x | some y => if g x < g y then some x else some y) none
theorem bestP_snoc {α : Type} (g : α → Int) (l : List α) (x : α) : bestP g (l ++ [x]) = match bestP g l with | none => some x | some y => if g x < g y then some x else some y := by simp [bestP]
noncomputable def gainP (f : Int → Int) (op : List Int) (s : Sh) (x : Nat × Nat) : Int :=
  min (prodI ((s.res op x.1 x.2).map f)) 1000000000 - min (prodI ((s.lab x.1).map f)) 1000000000 - min (prodI ((s.lab x.2).map f)) 1000000000
noncomputable def pickP (f : Int → Int) (op : List Int) (s : Sh) : Nat × Nat := (bestP (gainP f op s) (pairsL s.ixs)).getD (0, 0)
theorem two_off : ∀ {l : List Nat} (_ : l.Nodup) {a b : Nat}, a ∈ l → b ∈ l → a ≠ b → (l.filter fun i => decide (i ≠ a ∧ i ≠ b)).length + 2 = l.length := by
  intro l hn a b ha hb hab; have hp := List.perm_cons_erase ha; have hb' : b ∈ l.erase a := (List.mem_erase_of_ne (Ne.symm hab)).2 hb; have hp2 := List.perm_cons_erase hb'; have hn2 : (l.erase a).Nodup := hn.erase a; have e : l.filter (fun i => decide (i ≠ a ∧ i ≠ b)) = (l.erase a).erase b := by
    rw [List.Nodup.erase_eq_filter hn a, List.Nodup.erase_eq_filter (List.Pairwise.filter _ hn) b, List.filter_filter]
    apply List.filter_congr
    intro i _; rw [Bool.eq_iff_iff]
    simp [and_comm]
  have h1 := hp.length_eq; have h2 := hp2.length_eq; simp only [List.length_cons] at h1 h2; rw [e]
  omega
theorem step_count {op : List Int} {s : Sh} (h : s.ok) {a b : Nat} (ha : a ∈ s.ixs) (hb : b ∈ s.ixs) (hab : a ≠ b) : (s.step op a b).ixs.length + 1 = s.ixs.length := by
  have := two_off (ixs_nodup s) ha hb hab; rw [step_ixs h, List.length_append, List.length_singleton]
  omega
theorem steps_count {op : List Int} {s : Sh} (h : s.fine) {ss : List Stp} (hok : okSteps op s ss) : ∀ i, i ≤ ss.length → (shTo op s (ss.take i)).ixs.length + i = s.ixs.length
  | 0, _ => by simp [shTo]
  | i + 1, hi => by
    have ih := steps_count h hok i (by omega); have hx : ss[i]? = some ss[i] := List.getElem?_eq_getElem (by omega); have hst := stepOk_at hok hx; have h1 := live_ixs.1 hst.1; have h2 := live_ixs.1 hst.2.1; rw [shTo_step hx]; have := step_count (op := op) (shTo_fine h (ss.take i)).1 h1.2 h2.2 (by have := hst.2.2; omega)
    omega
theorem few_steps {op : List Int} {ts : List Ten} (h : ∀ t ∈ ts, axesL t.l t.d) {ss : List Stp} (hok : okSteps op (sh0 ts) ss) : ss.length ≤ ts.length - 1 := by
  have h0 : (sh0 ts).ixs.length = ts.length := by rw [sh0_ixs]; simp
  by_cases e : ss.length = 0
  · omega
  · have hc := steps_count (sh0_fine h) hok (ss.length - 1) (by omega); have hx : ss[ss.length - 1]? = some ss[ss.length - 1] := List.getElem?_eq_getElem (by omega); have hst := stepOk_at hok hx; have h1 := live_ixs.1 hst.1; have h2 := live_ixs.1 hst.2.1; have h3 := two_off (ixs_nodup (shTo op (sh0 ts) (ss.take (ss.length - 1)))) h1.2 h2.2 (by have := hst.2.2; omega)
    omega
noncomputable def greedyTo (f : Int → Int) (op : List Int) (s : Sh) : Nat → List Stp
  | 0 => []
  | k + 1 => greedyTo f op s k ++ [⟨(pickP f op (shTo op s (greedyTo f op s k))).1, (pickP f op (shTo op s (greedyTo f op s k))).2⟩]
def compP (k p n : Int) (ts : List Ten) (op : List Int) (ss : List Stp) : Prop := netL k p n ts op ∧ okSteps op (sh0 ts) ss
open Classical in
noncomputable def compB (k p n : Int) (ts : List Ten) (op : List Int) (ss : List Stp) : Bool := decide (compP k p n ts op ss)
noncomputable def compS (k p n : Int) (ts : List Ten) (op : List Int) (ss : List Stp) : List Stp :=
  @ite _ (compP k p n ts op ss) (Classical.propDecidable _) (ss ++ greedyTo (dimOf ts) op (shTo op (sh0 ts) ss) (ts.length - 1 - ss.length)) []
end Go.Proofs.YtiefkcaplhnnmaaGreat
namespace Go.Proofs.YtiefkcaplhnnmaaGreat
set_option maxRecDepth 100000
open Go.RowKit
theorem SpR.mono {f : Int → Int} {s : Sh} {va vg : Value} {b : Nat} {h h' : PH} (r : SpR f s va vg b h) (l : PLe h h') : SpR f s va vg b h' := ⟨r.ok, cellP.mono l r.c0, cellP.mono l r.c1, r.all.mono l, r.gone.mono l⟩
end Go.Proofs.YtiefkcaplhnnmaaGreat
namespace Go.Proofs.YtiefkcaplhnnmaaGreat
set_option maxRecDepth 100000
open Go.RowKit
def bestAt (g : Nat × Nat → Int) (l : List (Nat × Nat)) (i : Nat) (p : Nat × Nat) : Prop := p ∈ l ∧ (i = 0 → l[0]? = some p) ∧ (0 < i → bestP g (l.take i) = some p)
theorem bestAt.yes {g : Nat × Nat → Int} {l : List (Nat × Nat)} {i : Nat} {p x : Nat × Nat} (h : bestAt g l i p) (hx : l[i]? = some x) (hlt : g x < g p) : bestAt g l (i + 1) x := by
  obtain ⟨hi, e⟩ := List.getElem?_eq_some_iff.1 hx; refine ⟨List.mem_of_getElem? hx, fun e => by omega, fun _ => ?_⟩; rw [List.take_succ_eq_append_getElem hi, e, bestP_snoc]
  rcases Nat.eq_zero_or_pos i with h0 | h0
  · subst h0; simp [bestP]
  · rw [h.2.2 h0]; simp [hlt]
theorem bestAt.no {g : Nat × Nat → Int} {l : List (Nat × Nat)} {i : Nat} {p x : Nat × Nat} (h : bestAt g l i p) (hx : l[i]? = some x) (hlt : ¬ g x < g p) : bestAt g l (i + 1) p := by
  obtain ⟨hi, e⟩ := List.getElem?_eq_some_iff.1 hx; refine ⟨h.1, fun e => by omega, fun _ => ?_⟩; rw [List.take_succ_eq_append_getElem hi, e, bestP_snoc]
  rcases Nat.eq_zero_or_pos i with h0 | h0
  · subst h0; have := h.2.1 rfl; rw [hx] at this
    cases this
    simp [bestP]
  · rw [h.2.2 h0]; simp [hlt]
def CompR (k p n : Int) (ts : List Ten) (op : List Int) (ss : List Stp) (u : Value) (h : PH) : Prop :=
  ∃ v, u = .tuple [v, .bool (compB k p n ts op ss)].toArray ∧ StepsO (compS k p n ts op ss) v h
theorem CompR.no {k p n : Int} {ts : List Ten} {op : List Int} {ss : List Stp} (h : ¬ compP k p n ts op ss) : CompR k p n ts op ss (.tuple [.slice none 0 0, .bool false].toArray) emp :=
  ⟨_, by rw [show compB k p n ts op ss = false by simp [compB, h]], by rw [compS, if_neg h]; exact StepsO.nil⟩
end Go.Proofs.YtiefkcaplhnnmaaGreat
namespace Go.Proofs.YtiefkcaplhnnmaaGreat
set_option maxRecDepth 100000
open Go.RowKit
def bI (g : Nat × Nat → Int) (o : Option (Nat × Nat)) (bi bj bg : Int) : Prop := (o = none → bi = -1) ∧ ∀ x, o = some x → bi = x.1 ∧ bj = x.2 ∧ bg = g x
theorem bI.yes {g : Nat × Nat → Int} {l : List (Nat × Nat)} {bi bj bg : Int} {x : Nat × Nat} (h : bI g (bestP g l) bi bj bg) (c : bi < 0 ∨ g x < bg) : bI g (bestP g (l ++ [x])) x.1 x.2 (g x) := by
  rw [bestP_snoc]
  cases hb : bestP g l with
  | none => exact ⟨fun e => by simp at e, fun y e => by simp at e; subst e; exact ⟨rfl, rfl, rfl⟩⟩
  | some y =>
    have hy := h.2 y hb; have : g x < g y := by omega
    simp only [this, if_true]; exact ⟨fun e => by simp at e, fun y e => by simp at e; subst e; exact ⟨rfl, rfl, rfl⟩⟩
theorem bI.no {g : Nat × Nat → Int} {l : List (Nat × Nat)} {bi bj bg : Int} {x : Nat × Nat} (h : bI g (bestP g l) bi bj bg) (c1 : ¬ bi < 0) (c2 : ¬ g x < bg) : bI g (bestP g (l ++ [x])) bi bj bg := by
  rw [bestP_snoc]
  cases hb : bestP g l with
  | none => have := h.1 hb; omega
  | some y =>
    have hy := h.2 y hb; have : ¬ g x < g y := by omega
    simp only [this, if_false]; exact ⟨fun e => by simp at e, fun z e => by simp at e; subst e; exact hy⟩
end Go.Proofs.YtiefkcaplhnnmaaGreat
namespace Go.Proofs.YtiefkcaplhnnmaaGreat
set_option maxRecDepth 100000
open Go.RowKit
section
variable {P : Program} {n : Nat} {w0 : World} {K : Env} {HS : List PH} {d : Option Tmp} {ty : TypeId} {ps : String} {af : Array Edge} {g : Option (Nat × Bool)}
def landW (a b : Int) : Int := ((BitVec.ofInt 64 a &&& BitVec.ofInt 64 b).toNat : Nat)
theorem landW_in {a b : Int} (h0 : 0 ≤ b) (h1 : b ≤ 9223372036854775807) : 0 ≤ landW a b ∧ landW a b ≤ b := by
  unfold landW
  rw [BitVec.toNat_and, toNat_ofInt h0 h1]; have := Nat.and_le_right (n := (BitVec.ofInt 64 a).toNat) (m := b.toNat)
  omega
theorem v_andW {t t' : TypeId} {x y : Operand} {a b : Int} (hx : ev K x = some (.int .i64 a)) (hy : ev K y = some (.int .i64 b)) (h0 : 0 ≤ b) (h1 : b ≤ 9223372036854775807) : StepV P n w0 K HS ⟨d, .binOp .and t x y t', ty, ps, af, g⟩ (.int .i64 (landW a b)) :=
  fun ac w e _ => by
    have hl := landW_in (a := a) h0 h1; have hw : IntKind.i64.wrap (landW a b) = landW a b := IntWalk.i64_in _ (by omega); have h5 : (Op.intBits .and .i64 a b).run P w = .ok (.int .i64 (landW a b)) w := by
      show Result.ok (Value.int .i64 (IntKind.i64.wrap (landW a b))) w = _
      rw [hw]
    simp only [execOp, e.ev hx, e.ev hy, eqGuard, binOp, Sem.run_bind]; rw [show (if (!(match BinOp.and with | .eql => true | .neq => true | _ => false)) = true then (pure () : Sem Unit) else pure ()) = pure () by rfl]; rw [Sem.run_pure, Result.andThen_ok, if_neg (by simp), h5, Result.andThen_ok]
    rfl
end
end Go.Proofs.YtiefkcaplhnnmaaGreat
namespace Go.Proofs.YtiefkcaplhnnmaaGreat
set_option maxRecDepth 100000
open Go.RowKit
def digI (ds : List Int) (n : Int) (i : Nat) : Int := n / prodI (ds.drop (i + 1)) % ds.getD i 0
def idxL (ds : List Int) (n : Int) : List Int := (List.range ds.length).map fun i => digI ds n i
theorem idxL_len (ds : List Int) (n : Int) : (idxL ds n).length = ds.length := by simp [idxL]
theorem idxL_get {ds : List Int} {n : Int} {i : Nat} (h : i < ds.length) : (idxL ds n).getD i 0 = digI ds n i := by simp [idxL, List.getD, h]
theorem idxL_zero (ds : List Int) : idxL ds 0 = List.replicate ds.length 0 := by
  apply ext_getD (by simp [idxL_len])
  intro j hj; rw [idxL_len] at hj; rw [idxL_get hj, rep_getD]
  simp [digI]
theorem idxL_in {ds : List Int} (hd : ∀ d ∈ ds, 1 ≤ d) (n : Int) : idxIn ds (idxL ds n) := ⟨idxL_len ds n, fun j hj => by
  rw [idxL_get hj]; have := hd _ (mem_getD hj); exact ⟨Int.emod_nonneg _ (by omega), Int.emod_lt_of_pos _ (by omega)⟩⟩
theorem prod_at {ds : List Int} {i : Nat} (h : i < ds.length) : prodI (ds.drop i) = prodI (ds.drop (i + 1)) * ds.getD i 0 := by
  rw [drop_cons h, prodI_cons, Int.mul_comm]
theorem div_at {ds : List Int} (hd : ∀ d ∈ ds, 1 ≤ d) (n : Int) {i : Nat} (h : i < ds.length) : n / prodI (ds.drop i) = n / prodI (ds.drop (i + 1)) / ds.getD i 0 := by
  rw [prod_at h, ← Int.ediv_ediv_of_nonneg (by have := (prodI_drop hd (i + 1)).1; omega)]
theorem horn_idx {ds : List Int} (hd : ∀ d ∈ ds, 1 ≤ d) {n : Int} (h0 : 0 ≤ n) (h1 : n < prodI ds) : ∀ m, m ≤ ds.length → hornTo ds (idxL ds n) m = n / prodI (ds.drop m)
  | 0, _ => by
    rw [hornTo, List.drop_zero, Int.ediv_eq_zero_of_lt h0 h1]
  | m + 1, hm => by
    rw [hornTo, horn_idx hd h0 h1 m (by omega), idxL_get (by omega), div_at hd n (by omega), digI]; have := Int.ediv_mul_add_emod (n / prodI (ds.drop (m + 1))) (ds.getD m 0)
    omega
theorem offL_idx {ds : List Int} (hd : ∀ d ∈ ds, 1 ≤ d) {n : Int} (h0 : 0 ≤ n) (h1 : n < prodI ds) : offL ds (idxL ds n) = n := by
  rw [offL_end (idxL_len ds n).symm, horn_idx hd h0 h1 _ (Nat.le_refl _), List.drop_length]
  simp [prodI]
theorem mix_down {A B : List Int} {k : Nat} (h : A.length = B.length) (hk : k < A.length) : (mixL A B (k + 1)).set k (B.getD k 0) = mixL A B k := by
  apply ext_getD
  · rw [List.length_set, mix_len h (by omega), mix_len h (by omega)]
  · intro j hj; rw [List.length_set, mix_len h (by omega)] at hj
    by_cases e : j = k
    · subst e; rw [mix_get (by omega) (Nat.le_refl _)]; simp only [List.getD]; rw [List.getElem?_set_self (by rw [mix_len h (by omega)]; omega)]; rfl
    · have hs : ((mixL A B (k + 1)).set k (B.getD k 0)).getD j 0 = (mixL A B (k + 1)).getD j 0 := by simp only [List.getD]; rw [List.getElem?_set_ne (by omega)]
      rw [hs]
      by_cases hj2 : k ≤ j
      · rw [mix_get (by omega) (by omega), mix_get (by omega) hj2]
      · simp only [mixL, List.getD]; rw [List.getElem?_append_left (by simp; omega), List.getElem?_append_left (by simp; omega), List.getElem?_take, List.getElem?_take, if_pos (by omega), if_pos (by omega)]
theorem mix_low {A B : List Int} {k j : Nat} (hk : k ≤ A.length) (hj : j < k) : (mixL A B k).getD j 0 = A.getD j 0 := by
  simp only [mixL, List.getD]; rw [List.getElem?_append_left (by simp; omega), List.getElem?_take, if_pos hj]
theorem mix_full {A B : List Int} {k : Nat} (h : A.length = B.length) (hk : k ≤ A.length) (e : ∀ j, j < k → A.getD j 0 = B.getD j 0) : mixL A B k = B := by
  apply ext_getD (by rw [mix_len h hk, h])
  intro j hj; rw [mix_len h hk] at hj
  by_cases hjk : j < k
  · rw [mix_low hk hjk, e j hjk]
  · rw [mix_get hk (by omega)]
theorem div_up {P n : Int} (hP : 1 ≤ P) (_hn : 0 ≤ n) (h : (n + 1) % P = 0) : (n + 1) / P = n / P + 1 := by
  have h1 := Int.ediv_mul_add_emod (n + 1) P; have e : n = (P - 1) + ((n + 1) / P - 1) * P := by rw [Int.sub_mul, Int.one_mul]; omega
  have h2 : n / P = (P - 1) / P + ((n + 1) / P - 1) := by
    conv => lhs; rw [e]
    exact Int.add_mul_ediv_right _ _ (by omega)
  rw [Int.ediv_eq_zero_of_lt (show 0 ≤ P - 1 by omega) (show P - 1 < P by omega)] at h2
  omega
theorem mod_up {x d : Int} (hd : 1 ≤ d) (h : x % d + 1 < d) : (x + 1) % d = x % d + 1 ∧ (x + 1) / d = x / d := by
  have h1 := Int.ediv_mul_add_emod x d; have h0 := Int.emod_nonneg x (show d ≠ 0 by omega); have e : x + 1 = (x % d + 1) + (x / d) * d := by omega
  constructor
  · conv => lhs; rw [e]
    rw [Int.add_mul_emod_self_right, Int.emod_eq_of_lt (by omega) h]
  · conv => lhs; rw [e]
    rw [Int.add_mul_ediv_right _ _ (by omega), Int.ediv_eq_zero_of_lt (by omega) h]
    omega
theorem mod_over {x d : Int} (hd : 1 ≤ d) (h : d ≤ x % d + 1) : (x + 1) % d = 0 := by
  have h1 := Int.ediv_mul_add_emod x d; have h0 := Int.emod_lt_of_pos x (show 0 < d by omega); have e : x + 1 = (x / d + 1) * d := by rw [Int.add_mul]; omega
  rw [e, Int.mul_emod_left]
theorem dig_yes {ds : List Int} (hd : ∀ d ∈ ds, 1 ≤ d) {n : Int} (hn : 0 ≤ n) {i : Nat} (hi : i < ds.length) (hP : (n + 1) % prodI (ds.drop (i + 1)) = 0) (h : digI ds n i + 1 < ds.getD i 0) :
    digI ds (n + 1) i = digI ds n i + 1 ∧ ∀ t, t ≤ i → (n + 1) / prodI (ds.drop (i - t)) = n / prodI (ds.drop (i - t)) := by
  have hp := (prodI_drop hd (i + 1)).1; have hdi := hd _ (mem_getD hi); have h1 := div_up hp hn hP; have h2 := mod_up hdi h; refine ⟨by unfold digI; rw [h1]; exact h2.1, fun t => ?_⟩
  induction t with
  | zero => intro _; rw [Nat.sub_zero, div_at hd _ hi, div_at hd _ hi, h1]; exact h2.2
  | succ t ih =>
    intro ht; rw [div_at hd (n + 1) (show i - (t + 1) < ds.length by omega), div_at hd n (show i - (t + 1) < ds.length by omega), show i - (t + 1) + 1 = i - t by omega, ih (by omega)]
theorem dig_same {ds : List Int} (hd : ∀ d ∈ ds, 1 ≤ d) {n : Int} (hn : 0 ≤ n) {i : Nat} (hi : i < ds.length) (hP : (n + 1) % prodI (ds.drop (i + 1)) = 0) (h : digI ds n i + 1 < ds.getD i 0) (j : Nat) (hj : j < i) : digI ds n j = digI ds (n + 1) j := by
  have := (dig_yes hd hn hi hP h).2 (i - (j + 1)) (by omega); rw [show i - (i - (j + 1)) = j + 1 by omega] at this
  unfold digI
  rw [this]
theorem dig_lt {ds : List Int} (hd : ∀ d ∈ ds, 1 ≤ d) {n : Int} (hn : 0 ≤ n) (h1 : n < prodI ds) {i : Nat} (hi : i < ds.length) (hP : (n + 1) % prodI (ds.drop (i + 1)) = 0) (h : digI ds n i + 1 < ds.getD i 0) : n + 1 < prodI ds := by
  have := (dig_yes hd hn hi hP h).2 i (Nat.le_refl i); rw [Nat.sub_self, List.drop_zero, Int.ediv_eq_zero_of_lt hn h1] at this; have hp := prodI_one hd
  by_cases e : n + 1 < prodI ds
  · exact e
  · have := (Int.le_ediv_iff_mul_le (show 0 < prodI ds by omega) (a := 1) (b := n + 1)).2 (by omega)
    omega
theorem dig_no {ds : List Int} (hd : ∀ d ∈ ds, 1 ≤ d) {n : Int} (hn : 0 ≤ n) {i : Nat} (hi : i < ds.length) (hP : (n + 1) % prodI (ds.drop (i + 1)) = 0) (h : ¬ digI ds n i + 1 < ds.getD i 0) :
    digI ds (n + 1) i = 0 ∧ (n + 1) % prodI (ds.drop i) = 0 := by
  have hp := (prodI_drop hd (i + 1)).1; have hdi := hd _ (mem_getD hi); have h1 := div_up hp hn hP; have h2 := mod_over hdi (x := n / prodI (ds.drop (i + 1))) (by unfold digI at h; omega); rw [← h1] at h2; refine ⟨h2, ?_⟩; have a := Int.dvd_of_emod_eq_zero h2; have e := Int.ediv_mul_add_emod (n + 1) (prodI (ds.drop (i + 1))); rw [hP] at e; have : prodI (ds.drop (i + 1)) * ds.getD i 0 ∣ prodI (ds.drop (i + 1)) * ((n + 1) / prodI (ds.drop (i + 1))) := Int.mul_dvd_mul_left _ a; rw [← prod_at hi, Int.mul_comm (prodI (ds.drop (i + 1))), show (n + 1) / prodI (ds.drop (i + 1)) * prodI (ds.drop (i + 1)) = n + 1 by omega] at this; exact Int.emod_eq_zero_of_dvd this
theorem idx_yes {ds : List Int} (hd : ∀ d ∈ ds, 1 ≤ d) {n : Int} (hn : 0 ≤ n) {m : Nat} (h1 : 1 ≤ m) (hm : m ≤ ds.length) (hP : (n + 1) % prodI (ds.drop m) = 0) (h : digI ds n (m - 1) + 1 < ds.getD (m - 1) 0) :
    (mixL (idxL ds n) (idxL ds (n + 1)) m).set (m - 1) (digI ds n (m - 1) + 1) = idxL ds (n + 1) := by
  obtain ⟨k, rfl⟩ : ∃ k, m = k + 1 := ⟨m - 1, by omega⟩
  rw [Nat.add_sub_cancel] at h ⊢; have hl1 := idxL_len ds n; have hl2 := idxL_len ds (n + 1); have hy := dig_yes hd hn (show k < ds.length by omega) hP h; rw [← hy.1, ← idxL_get (show k < ds.length by omega), mix_down (by omega) (by omega)]; refine mix_full (by omega) (by omega) fun j hj => ?_; rw [idxL_get (by omega), idxL_get (by omega)]; exact dig_same hd hn (show k < ds.length by omega) hP h j hj
theorem idx_no {ds : List Int} (hd : ∀ d ∈ ds, 1 ≤ d) {n : Int} (hn : 0 ≤ n) {m : Nat} (h1 : 1 ≤ m) (hm : m ≤ ds.length) (hP : (n + 1) % prodI (ds.drop m) = 0) (h : ¬ digI ds n (m - 1) + 1 < ds.getD (m - 1) 0) :
    (mixL (idxL ds n) (idxL ds (n + 1)) m).set (m - 1) 0 = mixL (idxL ds n) (idxL ds (n + 1)) (m - 1) ∧ (n + 1) % prodI (ds.drop (m - 1)) = 0 := by
  obtain ⟨k, rfl⟩ : ∃ k, m = k + 1 := ⟨m - 1, by omega⟩
  rw [Nat.add_sub_cancel] at h ⊢; have hl1 := idxL_len ds n; have hl2 := idxL_len ds (n + 1); have hy := dig_no hd hn (show k < ds.length by omega) hP h; refine ⟨?_, hy.2⟩; rw [← mix_down (A := idxL ds n) (B := idxL ds (n + 1)) (k := k) (by omega) (by omega), idxL_get (show k < ds.length by omega), hy.1]
theorem idx_end {P n : Int} (hn : 0 ≤ n) (_h1 : n < P) (h : (n + 1) % P = 0) : ¬ n + 1 < P := fun hlt => by
  rw [Int.emod_eq_of_lt (by omega) hlt] at h
  omega
set_option maxHeartbeats 1000000 in
theorem ct_i_nextIndex (ds : List Int) (n : Int) (u v : Value) (w : World) (h : PH) (hle : PLe h (hp w)) (r : IntsR ds u (restP w h)) (ri : IntsO (idxL ds n) v h) (hd : ∀ d ∈ ds, 1 ≤ d ∧ d ≤ 8) (hn : 0 ≤ n ∧ n < prodI ds) (hl : ds.length ≤ 1000000) :
    Calls Tryz.prog 110 [u, v].toArray w (Ret w h (fun x h' => x = .bool (decide (n + 1 < prodI ds)) ∧ IntsO (idxL ds (n + 1)) v h')) := by
  have hd1 : ∀ d ∈ ds, 1 ≤ d := fun d h => (hd d h).1; have hil := idxL_len ds n; have hil2 := idxL_len ds (n + 1); refine calls_in Tryz.func110 rfl Tryz.ntmps110 rfl (Sat.start2 hle) ?_; have hle0 := r.le; have hle1 := ri.toR.le; refine wp_sc (wp_sq (sq_v rfl (v_assign rfl) rfl (sq_end (qs_n (wp_sc (wp_sc (wp_sq (sq_v rfl (v_move rfl) rfl (sq_v rfl (v_len Tryz.underlying27 rfl r.sl) rfl ?_))))))))); refine sq_v rfl (v_sub rfl rfl ((by unfold I64; omega))) rfl ?_; refine sq_v rfl (v_assign rfl) rfl (sq_end (qs_n (wp_bl ?_))); refine wp_lp (σ := Nat × PH) (fun z_ => [(0, u), (1, v), (4, .bool false), (5, num ((z_.1 : Int) - 1))]) (fun z_ => [z_.2, (restP w h)]) (fun z_ => z_.1 ≤ ds.length ∧ (n + 1) % prodI (ds.drop z_.1) = 0 ∧ IntsO (mixL (idxL ds n) (idxL ds (n + 1)) z_.1) v z_.2) (fun z_ => z_.1) (ds.length, h) (⟨by (try dsimp only); omega, by (try dsimp only); simp [prodI, Int.emod_one], by (try dsimp only); rw [mix_end (by omega) (by omega)]; exact ri⟩) ⟨rfl, rfl, rfl, (by first | rfl | exact ksub rfl (by first | omega | (simp; done) | (simp; omega))), trivial⟩ (fun _ s => s) ?_; rintro ⟨m, g⟩ ⟨hm, hP, q⟩; dsimp only at hm hP q ⊢; have hle_q := q.toR.le; have hml := mix_len (A := idxL ds n) (B := idxL ds (n + 1)) (k := m) (by omega) (by omega); have em : ((m : Int) - 1).toNat = m - 1 := by omega
  refine wp_sc (wp_sc (wp_sq (sq_v rfl (v_move rfl) rfl (sq_v rfl (v_geq rfl rfl) rfl (sq_end (qs_n ?_)))))); refine wp_cd rfl (fun c10 => ?_) (fun c10 => ?_)
  · refine wp_sk (qs_n (wp_sc (wp_bl (wp_sc (wp_sq (sq_v rfl (v_move rfl) rfl (sq_v rfl (v_move rfl) rfl ?_))))))); have hk : m - 1 < ds.length := (by omega); have hdm := hd _ (mem_getD hk); have hlow : (mixL (idxL ds n) (idxL ds (n + 1)) m).getD ((m : Int) - 1).toNat 0 = digI ds n (m - 1) := (by rw [em, mix_low (by omega) (by omega), idxL_get hk]); have hdg := (idxL_in hd1 n).2 (m - 1) hk; rw [idxL_get hk] at hdg; refine sq_v rfl (v_idxI Tryz.underlying27 ty_3 rfl rfl q.toR (by first | omega | (simp; omega) | (simp only [List.length_append, List.length_cons, List.length_nil]; omega) | (rw [List.length_set]; omega)) (by first | omega | (simp; omega) | (simp only [List.length_append, List.length_cons, List.length_nil]; omega) | (rw [List.length_set]; omega))) rfl ?_; refine sq_v rfl (v_loadI  0 ty_3 rfl rfl q.toR (by first | omega | (simp; omega) | (simp only [List.length_append, List.length_cons, List.length_nil]; omega) | (rw [List.length_set]; omega))) rfl ?_; refine sq_v rfl (v_add rfl rfl ((by unfold I64; omega))) rfl ?_; refine sq_v rfl (v_idxI Tryz.underlying27 ty_3 rfl rfl q.toR (by first | omega | (simp; omega) | (simp only [List.length_append, List.length_cons, List.length_nil]; omega) | (rw [List.length_set]; omega)) (by first | omega | (simp; omega) | (simp only [List.length_append, List.length_cons, List.length_nil]; omega) | (rw [List.length_set]; omega))) rfl ?_; refine sq_m 0 rfl rfl (m_storeI 0 ty_3 rfl rfl rfl q (by first | omega | (simp; omega) | (simp only [List.length_append, List.length_cons, List.length_nil]; omega) | (rw [List.length_set]; omega))) rfl ?_; rintro _ h_q4_6 ⟨rfl, q4_6⟩; refine sq_end ?_; rw [hlow, em] at q4_6; refine qs_n (wp_sc (wp_sc (wp_rj 9 [(0, true), (1, true), (2, true), (3, true), (4, true), (5, true), (6, true), (7, true), (8, true)] mixed_ok (by kernel_rfl) (rj_v rfl rfl (v_move rfl) rfl (rj_v rfl rfl (v_move rfl) rfl ?_))))); refine rj_v rfl rfl (v_idxI Tryz.underlying27 ty_3 rfl rfl q4_6.toR (by first | omega | (simp; omega) | (simp only [List.length_append, List.length_cons, List.length_nil]; omega) | (rw [List.length_set]; omega)) (by first | omega | (simp; omega) | (simp only [List.length_append, List.length_cons, List.length_nil]; omega) | (rw [List.length_set]; omega))) rfl ?_; refine rj_v rfl rfl (v_loadI  0 ty_3 rfl rfl q4_6.toR (by first | omega | (simp; omega) | (simp only [List.length_append, List.length_cons, List.length_nil]; omega) | (rw [List.length_set]; omega))) rfl ?_; refine rj_v rfl rfl (v_move rfl) rfl (rj_v rfl rfl (v_move rfl) rfl ?_); refine rj_v rfl rfl (v_idxI Tryz.underlying27 ty_3 rfl rfl r (by first | omega | (simp; omega) | (simp only [List.length_append, List.length_cons, List.length_nil]; omega) | (rw [List.length_set]; omega)) (by first | omega | (simp; omega) | (simp only [List.length_append, List.length_cons, List.length_nil]; omega) | (rw [List.length_set]; omega))) rfl ?_; refine rj_v rfl rfl (v_loadI  1 ty_3 rfl rfl r (by first | omega | (simp; omega) | (simp only [List.length_append, List.length_cons, List.length_nil]; omega) | (rw [List.length_set]; omega))) rfl ?_; refine rj_v rfl rfl (v_lss rfl rfl) rfl (rj_end ?_); have hg4 : ((mixL (idxL ds n) (idxL ds (n + 1)) m).set (m - 1) (digI ds n (m - 1) + 1)).getD ((m : Int) - 1).toNat 0 = digI ds n (m - 1) + 1 := by rw [em]; simp only [List.getD]; rw [List.getElem?_set_self (by omega)]; rfl
    have hc : (((mixL (idxL ds n) (idxL ds (n + 1)) m).set (m - 1) (digI ds n (m - 1) + 1)).getD ((m : Int) - 1).toNat 0 < ds.getD ((m : Int) - 1).toNat 0) ↔ digI ds n (m - 1) + 1 < ds.getD (m - 1) 0 := by rw [hg4, em]
    refine qs_n ?_; refine wp_cd rfl (fun c27 => ?_) (fun c27 => ?_)
    · refine wp_sc (wp_sq (sq_v rfl (v_assign rfl) rfl (sq_end (qs_n (wp_rt (qs_r (qs_br (qs_r (qs_r (qs_br (qs_r ?_))))))))))); exact qs_ret1 rfl rfl (fin_m 0 (i := 1) rfl rfl rfl (⟨by rw [decide_eq_true (dig_lt hd1 hn.1 hn.2 hk (by rw [show m - 1 + 1 = m by omega]; exact hP) (hc.1 c27))], by rw [← idx_yes hd1 hn.1 (by omega) hm hP (hc.1 c27)]; exact q4_6⟩))
    · refine wp_sk (qs_n (wp_sq (sq_v rfl (v_move rfl) rfl (sq_v rfl (v_move rfl) rfl ?_)))); refine sq_v rfl (v_idxI Tryz.underlying27 ty_3 rfl rfl q4_6.toR (by first | omega | (simp; omega) | (simp only [List.length_append, List.length_cons, List.length_nil]; omega) | (rw [List.length_set]; omega)) (by first | omega | (simp; omega) | (simp only [List.length_append, List.length_cons, List.length_nil]; omega) | (rw [List.length_set]; omega))) rfl ?_; refine sq_m 0 rfl rfl (m_storeI 0 ty_3 rfl rfl rfl q4_6 (by first | omega | (simp; omega) | (simp only [List.length_append, List.length_cons, List.length_nil]; omega) | (rw [List.length_set]; omega))) rfl ?_; rintro _ h_q7_3 ⟨rfl, q7_3⟩; refine sq_end ?_; have hno := idx_no hd1 hn.1 (show 1 ≤ m by omega) hm hP (fun h => c27 (hc.2 h)); rw [em, List.set_set, hno.1] at q7_3; refine qs_bn (qs_n (wp_sq (sq_v rfl (v_move rfl) rfl ?_))); refine sq_v rfl (v_sub rfl rfl ((by unfold I64; omega))) rfl ?_; refine sq_v rfl (v_assign rfl) rfl (sq_end ?_); exact qs_bk (m - 1, h_q7_3) ⟨by (try dsimp only); omega, hno.2, q7_3⟩ (by simp only; omega) ⟨rfl, rfl, rfl, (by first | rfl | exact ksub rfl (by first | omega | (simp; done) | (simp; omega))), trivial⟩ (fun _ s => s)
  · refine wp_ex (qs_x (qs_x (qs_bx (qs_n (wp_sc (wp_sq (sq_v rfl (v_assign rfl) rfl (sq_end (qs_n (wp_rt ?_)))))))))); exact qs_ret1 rfl rfl (fin_m 0 (i := 1) rfl rfl rfl (⟨by rw [show m = 0 by omega, List.drop_zero] at hP; rw [decide_eq_false (idx_end hn.1 hn.2 hP)], by rw [show m = 0 by omega, mix_zero] at q; exact q⟩))
end Go.Proofs.YtiefkcaplhnnmaaGreat
namespace Go.Proofs.YtiefkcaplhnnmaaGreat
set_option maxRecDepth 100000
open Go.RowKit

/-- From k on, each number of the lists is one more than the number before it; the next would be k'. -/
def HeldL : Int → List (List Int) → Int → Prop
  | k, [], k' => k = k'
  | k, xs :: r, k' => xs = iota k xs.length ∧ HeldL (k + xs.length) r k'
theorem HeldL.le : ∀ {xss : List (List Int)} {k k' : Int}, HeldL k xss k' → k ≤ k'
  | [], k, k', h => by have : k = k' := h; omega
  | xs :: r, k, k', h => by have := HeldL.le h.2; omega
theorem HeldL.append : ∀ {xss yss : List (List Int)} {k k1 k' : Int}, HeldL k xss k1 → HeldL k1 yss k' → HeldL k (xss ++ yss) k'
  | [], yss, k, k1, k', h, g => by have : k = k1 := h; subst this; exact g
  | xs :: r, yss, k, k1, k', h, g => ⟨h.1, HeldL.append h.2 g⟩
theorem iota_held (k : Int) (m : Nat) : iota k m = iota k (iota k m).length := by rw [iota_len]
theorem HeldL.part : ∀ {xss yss : List (List Int)} {k k' : Int}, HeldL k (xss ++ yss) k' → ∃ k1, HeldL k xss k1 ∧ HeldL k1 yss k'
  | [], yss, k, k', h => ⟨k, rfl, h⟩
  | xs :: r, yss, k, k', h => by
    obtain ⟨k1, h1, h2⟩ := HeldL.part (xss := r) (yss := yss) h.2; exact ⟨k1, ⟨h.1, h1⟩, h2⟩
end Go.Proofs.YtiefkcaplhnnmaaGreat
namespace Go.Proofs.YtiefkcaplhnnmaaGreat
set_option maxRecDepth 100000
open Go.RowKit
section
variable {P : Program} {n : Nat} {w0 : World} {K : Env} {HS : List PH} {d : Option Tmp} {ty : TypeId} {ps : String} {af : Array Edge} {g : Option (Nat × Bool)}
theorem v_eqls {t t' : TypeId} {x y : Operand} {k : IntKind} {a : Int} (hx : ev K x = some (.int k a)) (hy : ev K y = some (.int k a)) : StepV P n w0 K HS ⟨d, .binOp .eql t x y t', ty, ps, af, g⟩ (.bool true) := by
  have := v_eql (P := P) (n := n) (w0 := w0) (HS := HS) (d := d) (t := t) (t' := t') (ty := ty) (ps := ps) (af := af) (g := g) hx hy
  simpa using this
theorem v_neqs {t t' : TypeId} {x y : Operand} {k : IntKind} {a : Int} (hx : ev K x = some (.int k a)) (hy : ev K y = some (.int k a)) : StepV P n w0 K HS ⟨d, .binOp .neq t x y t', ty, ps, af, g⟩ (.bool false) := by
  have := v_neq (P := P) (n := n) (w0 := w0) (HS := HS) (d := d) (t := t) (t' := t') (ty := ty) (ps := ps) (af := af) (g := g) hx hy
  simpa using this
theorem v_neqsb {t t' : TypeId} {x y : Operand} {a : Bool} (ht : P.underlying t = some .bool) (hx : ev K x = some (.bool a)) (hy : ev K y = some (.bool a)) : StepV P n w0 K HS ⟨d, .binOp .neq t x y t', ty, ps, af, g⟩ (.bool false) := by
  have := v_neqb (P := P) (n := n) (w0 := w0) (HS := HS) (d := d) (t := t) (t' := t') (ty := ty) (ps := ps) (af := af) (g := g) ht hx hy
  simpa using this
end
/-- A network that owns its parts, as a call returns it. -/
def NetT (k p n : Int) (ts : List Ten) (op : List Int) (u : Value) (h : PH) : Prop := ∃ vt vo, u = netV k p n vt vo ∧ NetO ts op vt vo h
def TriO (t : Ten) (a b c : Value) (h : PH) : Prop := ∃ h1 h2 h3, IntsO t.l a h1 ∧ IntsO t.d b h2 ∧ IntsO t.x c h3 ∧ Made h [h1, h2, h3]
theorem TriO.toR {t : Ten} {a b c : Value} {h : PH} (r : TriO t a b c h) : IntsR t.l a h ∧ IntsR t.d b h ∧ IntsR t.x c h := by
  obtain ⟨h1, h2, h3, r1, r2, r3, m⟩ := r; exact ⟨r1.toR.mono (m.le h1 (by simp)), r2.toR.mono (m.le h2 (by simp)), r3.toR.mono (m.le h3 (by simp))⟩
def TenT (t : Ten) (u : Value) (h : PH) : Prop := ∃ a b c, u = tenV a b c ∧ TriO t a b c h
end Go.Proofs.YtiefkcaplhnnmaaGreat
namespace Go.Proofs.YtiefkcaplhnnmaaGreat
set_option maxRecDepth 100000
open Go.RowKit
def setP (xs ys : List Int) (j : Nat) : Prop := ys.getD j 0 ∈ xs ∧ ys.getD j 0 ∉ ys.take j
def setL (xs ys : List Int) : Prop := xs.length = ys.length ∧ ∀ j, j < ys.length → setP xs ys j
open Classical in
noncomputable def setB (xs ys : List Int) : Bool := decide (setL xs ys)
theorem setB_no {xs ys : List Int} (h : ¬ setL xs ys) : Value.bool false = .bool (setB xs ys) := by simp [setB, h]
theorem setB_yes {xs ys : List Int} (h : setL xs ys) : Value.bool true = .bool (setB xs ys) := by simp [setB, h]
theorem setB_true {xs ys : List Int} : setB xs ys = true ↔ setL xs ys := by simp [setB]
theorem setB_false {xs ys : List Int} : setB xs ys = false ↔ ¬ setL xs ys := by simp [setB]
theorem ct_i_sameLabels (xs ys : List Int) (v u : Value) (w : World) (r : IntsR xs v (hp w)) (r' : IntsR ys u (hp w)) : Calls Tryz.prog 134 [v, u].toArray w (RetV w (.bool (setB xs ys))) := by
  refine calls_in Tryz.func134 rfl Tryz.ntmps134 rfl (Sat.start w) ?_; have hle0 := r.le; have hle1 := r'.le; refine wp_sc (wp_sq (sq_v rfl (v_assign rfl) rfl (sq_end (qs_n (wp_sc (wp_sc (wp_sq (sq_v rfl (v_move rfl) rfl (sq_v rfl (v_len Tryz.underlying27 rfl r'.sl) rfl (sq_v rfl (v_move rfl) rfl (sq_v rfl (v_len Tryz.underlying27 rfl r.sl) rfl (sq_v rfl (v_neq rfl rfl) rfl (sq_end (qs_n ?_)))))))))))))); refine wp_cd rfl (fun c11 => ?_) (fun c11 => ?_)
  · refine wp_sc (wp_sq (sq_v rfl (v_assign rfl) rfl (sq_end (qs_n (wp_rt (qs_r ?_)))))); exact qs_ret1 rfl rfl (fin_q (i := 0) rfl (setB_no (fun h => by have := h.1; omega)))
  · refine wp_sk (qs_n (wp_sc (wp_sc (wp_sq (sq_v rfl (v_move rfl) rfl (sq_v rfl (v_len Tryz.underlying27 rfl r'.sl) rfl (sq_v rfl (v_move rfl) rfl (sq_end (qs_n (wp_bl ?_)))))))))); refine wp_lp (σ := Nat) (fun z_ => [(0, v), (1, u), (4, .bool false), (12, u), (13, num ys.length), (14, num z_)]) (fun z_ => [hp w]) (fun z_ => z_ ≤ ys.length ∧ (∀ j, j < z_ → setP xs ys j)) (fun z_ => ys.length - z_) 0 (⟨by omega, fun j hj => by omega⟩) ⟨rfl, rfl, rfl, rfl, rfl, (by first | rfl | exact ksub rfl (by first | omega | (simp; done) | (simp; omega))), trivial⟩ (fun _ s => s) ?_; rintro i ⟨hi, hv⟩; refine wp_sc (wp_sq (sq_v rfl (v_lss rfl rfl) rfl (sq_end (qs_n (wp_sc ?_))))); refine wp_cd rfl (fun c15 => ?_) (fun c15 => ?_)
    · refine wp_sk (qs_n (wp_sc (wp_bl (wp_sc (wp_sq (sq_v rfl (v_move rfl) rfl ?_)))))); refine sq_v rfl (v_idxI Tryz.underlying27 ty_3 rfl rfl r' (by first | omega | (simp; omega) | (simp only [List.length_append, List.length_cons, List.length_nil]; omega) | (rw [List.length_set]; omega)) (by first | omega | (simp; omega) | (simp only [List.length_append, List.length_cons, List.length_nil]; omega) | (rw [List.length_set]; omega))) rfl ?_; refine sq_v rfl (v_loadI (k := i) 0 ty_3 rfl rfl r' (by first | omega | (simp; omega) | (simp only [List.length_append, List.length_cons, List.length_nil]; omega) | (rw [List.length_set]; omega))) rfl ?_; refine sq_v rfl (v_assign rfl) rfl (sq_v rfl (v_assign rfl) rfl (sq_end (qs_n (wp_sc (wp_sq (sq_v rfl (v_move rfl) rfl (sq_v rfl (v_move rfl) rfl (sq_v rfl (v_sliceH Tryz.underlying27 ty_3 rfl rfl  r' (by omega) (by omega)) rfl (sq_v rfl (v_move rfl) rfl (sq_u rfl (x_callv rfl en_64 (fun w s => ct_i_hasInt _ _ _ w ((r'.subH (hi := i) (by omega)).mono (s.get 0 rfl)))) rfl ?_)))))))))); refine sq_bd 23 rfl (fun c23 => ?_) (fun c23 => ?_)
      · refine sq_v rfl (v_move rfl) rfl (sq_s rfl rfl (sq_s rfl rfl (sq_s rfl rfl (sq_s rfl rfl (sq_v rfl (v_pickt rfl rfl) rfl (sq_end (qs_n (wp_ct rfl (wp_sc (wp_sq (sq_v rfl (v_assign rfl) rfl (sq_end (qs_n (wp_rt (qs_br (qs_r (qs_r (qs_br (qs_r ?_))))))))))))))))))); exact qs_ret1 rfl rfl (fin_q (i := 0) rfl (setB_no (fun h => by have h1 := h.2 i (by omega); first | exact h1.2 c23 | exact c29 h1.1)))
      · refine sq_v rfl (v_move rfl) rfl (sq_v rfl (v_move rfl) rfl (sq_v rfl (v_move rfl) rfl (sq_u rfl (x_callv rfl en_64 (fun w s => ct_i_hasInt _ _ _ w (r.mono (s.get 0 rfl)))) rfl (sq_v rfl (v_not rfl) rfl (sq_v rfl (v_pickf rfl rfl) rfl (sq_end (qs_n ?_))))))); refine wp_cnd rfl (fun c29 => ?_) (fun c29 => ?_)
        · refine wp_sc (wp_sq (sq_v rfl (v_assign rfl) rfl (sq_end (qs_n (wp_rt (qs_br (qs_r (qs_r (qs_br (qs_r ?_)))))))))); exact qs_ret1 rfl rfl (fin_q (i := 0) rfl (setB_no (fun h => by have h1 := h.2 i (by omega); first | exact h1.2 c23 | exact c29 h1.1)))
        · refine wp_sk (qs_bn (qs_n (wp_sq ?_))); refine sq_v rfl (v_add rfl rfl ((by unfold I64; omega))) rfl ?_; refine sq_v rfl (v_move rfl) rfl (sq_end ?_); exact qs_bk (i + 1) ⟨by omega, step_all hv ⟨c29, c23⟩⟩ (by omega) ⟨rfl, rfl, rfl, rfl, rfl, (by first | rfl | exact ksub rfl (by first | omega | (simp; done) | (simp; omega))), trivial⟩ (fun _ s => s)
    · refine wp_ex (qs_x (qs_x (qs_bx (qs_n (wp_sc (wp_sq (sq_v rfl (v_assign rfl) rfl (sq_end (qs_n (wp_rt ?_)))))))))); exact qs_ret1 rfl rfl (fin_q (i := 0) rfl (setB_yes ⟨by omega, fun j hj => hv j (by omega)⟩))
theorem nodup_of {ys : List Int} (h : ∀ j, j < ys.length → ys.getD j 0 ∉ ys.take j) : ys.Nodup := by
  rw [List.Nodup, List.pairwise_iff_getElem]; intro i j hi hj hij e; refine h j hj ?_; simp only [List.getD, List.getElem?_eq_getElem hj, Option.getD_some]; rw [← e]; exact List.mem_iff_getElem.2 ⟨i, by simp; omega, by simp⟩
theorem perm_of : ∀ {xs ys : List Int}, xs.Nodup → (∀ x ∈ xs, x ∈ ys) → ys.length ≤ xs.length → xs.Perm ys
  | [], ys, _, _, hl => by
    have : ys = [] := List.eq_nil_of_length_eq_zero (by simpa using hl); rw [this]
  | x :: xs, ys, hn, hs, hl => by
    have hx := hs x (by simp); have hp := List.perm_cons_erase hx; have hnx := List.nodup_cons.1 hn; refine (List.Perm.cons x (perm_of hnx.2 (fun y hy => ?_) ?_)).trans hp.symm
    · exact (List.mem_erase_of_ne (fun e => hnx.1 (by rw [← e]; exact hy))).2 (hs y (by simp [hy]))
    · have := List.length_erase_of_mem hx; simp only [List.length_cons] at hl
      omega
theorem setL_perm {xs ys : List Int} (h : setL xs ys) : ys.Perm xs :=
  perm_of (nodup_of fun j hj => (h.2 j hj).2) (fun y hy => by
    obtain ⟨j, hj, e⟩ := getD_of_mem hy; exact e ▸ (h.2 j hj).1) (by have := h.1; omega)
theorem prodI_perm {a b : List Int} (h : a.Perm b) : prodI a = prodI b := by
  induction h with
  | nil => rfl
  | cons x _ ih => rw [prodI_cons, prodI_cons, ih]
  | swap x y l => rw [prodI_cons, prodI_cons, prodI_cons, prodI_cons, Int.mul_left_comm]
  | trans _ _ h1 h2 => exact h1.trans h2
def permD (t : Ten) (ls : List Int) : List Int := idxAt t.l t.d ls
def permX (wd : Int) (t : Ten) (ls ds : List Int) (m : Nat) : List Int := (List.range m).flatMap fun (i : Nat) => elt t.x wd (offL t.d (idxAt ls (idxL ds i) t.l))
noncomputable def permT (k n : Int) (t : Ten) (ls : List Int) : Ten := ⟨ls, permD t ls, permX (widthI k n) t ls (permD t ls) (prodI (permD t ls)).toNat⟩
theorem permX_step (wd : Int) (t : Ten) (ls ds : List Int) (m : Nat) : permX wd t ls ds (m + 1) = permX wd t ls ds m ++ elt t.x wd (offL t.d (idxAt ls (idxL ds m) t.l)) := by
  simp [permX, List.range_succ]
theorem permD_len (t : Ten) (ls : List Int) : (permD t ls).length = ls.length := List.length_map _
structure PermOK (k p n : Int) (t : Ten) (ls : List Int) : Prop where
  ring : ringL k p n
  ten : tensorL k p n t.l t.d t.x
  perm : ls.Perm t.l
section
variable {k p n : Int} {t : Ten} {ls : List Int}
theorem PermOK.axes (h : PermOK k p n t ls) : axesL t.l t.d := tensor_axes h.ten
theorem PermOK.nodup (h : PermOK k p n t ls) : ls.Nodup := (List.Perm.nodup_iff h.perm).2 (axes_nodup h.axes)
theorem PermOK.len (h : PermOK k p n t ls) : ls.length = t.l.length ∧ t.l.length = t.d.length ∧ ls.length ≤ 12 := by
  have := h.perm.length_eq; have := h.axes; exact ⟨by omega, this.2.1, by have := this.1; omega⟩
theorem PermOK.find (h : PermOK k p n t ls) {j : Nat} (hj : j < ls.length) : 0 ≤ findI t.l (ls.getD j 0) ∧ findI t.l (ls.getD j 0) < t.d.length ∧ t.l.getD (findI t.l (ls.getD j 0)).toNat 0 = ls.getD j 0 := by
  have hm : ls.getD j 0 ∈ t.l := h.perm.mem_iff.1 (mem_getD hj); have h1 := findI_ge.2 hm; have h2 := findI_get hm; have := h.len; exact ⟨h1, by omega, h2.2⟩
theorem PermOK.dims (h : PermOK k p n t ls) : dimsIn (permD t ls) := fun j hj => by
  rw [permD_len] at hj; have hf := h.find hj; rw [permD, idxAt, map_getD hj]; exact axes_dims h.axes _ (by omega)
theorem PermOK.prod (h : PermOK k p n t ls) : prodI (permD t ls) = prodI t.d := by
  have e : t.d = idxAt t.l t.d t.l := by
    apply ext_getD (by simp [idxAt, h.axes.2.1])
    intro j hj; have hj' : j < t.l.length := by rw [h.axes.2.1]; exact hj
    rw [idxAt, map_getD hj', find_at h.axes hj', Int.toNat_natCast]
  conv => rhs; rw [e]
  exact prodI_perm (h.perm.map _)
theorem PermOK.small (h : PermOK k p n t ls) : 1 ≤ prodI (permD t ls) ∧ prodI (permD t ls) ≤ 4096 := by
  refine ⟨prodI_one fun d hd => (dims_mem h.dims d hd).1, ?_⟩; rw [h.prod]; exact (sizeI_ge.1 h.ten.2.1).2
theorem PermOK.back (h : PermOK k p n t ls) {j : Nat} (hj : j < t.l.length) : (findI ls (t.l.getD j 0)).toNat < ls.length ∧ ls.getD (findI ls (t.l.getD j 0)).toNat 0 = t.l.getD j 0 :=
  findI_get (h.perm.mem_iff.2 (mem_getD hj))
theorem PermOK.idx (h : PermOK k p n t ls) (i : Int) : idxIn t.d (idxAt ls (idxL (permD t ls) i) t.l) := by
  have hd : ∀ d ∈ permD t ls, 1 ≤ d := fun d hd => (dims_mem h.dims d hd).1; refine ⟨by simp [idxAt, h.axes.2.1], fun j hj => ?_⟩; have hj' : j < t.l.length := by rw [h.axes.2.1]; exact hj
  have hb := h.back hj'; have hv := (idxL_in hd i).2 (findI ls (t.l.getD j 0)).toNat (by rw [permD_len]; exact hb.1); rw [idxAt, map_getD hj']; rw [show (permD t ls).getD (findI ls (t.l.getD j 0)).toNat 0 = t.d.getD j 0 by
    rw [permD, idxAt, map_getD hb.1, hb.2, find_at h.axes hj', Int.toNat_natCast]] at hv
  exact hv
theorem PermOK.off (h : PermOK k p n t ls) (i : Int) : 0 ≤ offL t.d (idxAt ls (idxL (permD t ls) i) t.l) ∧ offL t.d (idxAt ls (idxL (permD t ls) i) t.l) < prodI t.d := by
  have := offL_in (fun d hd => (dims_mem (axes_dims h.axes) d hd).1) (h.idx i)
  omega
theorem PermOK.dot (h : PermOK k p n t ls) (i : Int) : dotL (stepsL ls t.l t.d) (idxL (permD t ls) i) = offL t.d (idxAt ls (idxL (permD t ls) i) t.l) := by
  rw [dotL, stepsL_len, dot_off h.nodup h.axes.2.1 (axes_nodup h.axes) (fun x hx => h.perm.mem_iff.2 hx)]
end
theorem permX_len {k p n : Int} {t : Ten} {ls : List Int} (h : PermOK k p n t ls) : ∀ m, (permX (widthI k n) t ls (permD t ls) m).length ≤ m * 6
  | 0 => by simp [permX]
  | m + 1 => by
    have := permX_len h m; have hw := width_range h.ring; rw [permX_step, List.length_append]; have : (elt t.x (widthI k n) (offL t.d (idxAt ls (idxL (permD t ls) m) t.l))).length ≤ 6 := by
      unfold elt
      rw [List.length_take]
      omega
    omega
end Go.Proofs.YtiefkcaplhnnmaaGreat
namespace Go.Proofs.YtiefkcaplhnnmaaGreat
set_option maxRecDepth 100000
open Go.RowKit
theorem ct_i_axisOf (ls : List Int) (x : Int) (a b c : Value) (w : World) (r : IntsR ls a (hp w)) (_hb : b.oneCell' = true) (_hc : c.oneCell' = true) : Calls Tryz.prog 80 [tenV a b c, num x].toArray w (RetV w (num (findI ls x))) := by
  refine calls_in Tryz.func80 rfl Tryz.ntmps80 rfl (Sat.start w) ?_; have hle0 := r.le; refine wp_sc (wp_sq ?_); refine sq_x rfl (x_box rfl rfl) rfl ?_; rintro _ _ ⟨b2, rfl, rfl⟩; refine sq_v rfl (v_assign rfl) rfl (sq_end (qs_n (wp_sc (wp_sc (wp_sq (sq_v rfl (v_fieldAddr fd_55_0 ty_27 (by decide) rfl) rfl (sq_v rfl (v_loadB 0 ty_27 rfl rfl rfl) rfl (sq_v rfl (v_len Tryz.underlying27 rfl r.sl) rfl (sq_v rfl (v_move rfl) rfl (sq_end (qs_n (wp_bl ?_)))))))))))); refine wp_lp (σ := Nat) (fun z_ => [(1, num x), (4, num 0), (8, a), (9, num ls.length), (10, num z_)]) (fun z_ => [box b2 [a, b, c] 55, hp w]) (fun z_ => z_ ≤ ls.length ∧ (∀ j, j < z_ → ls.getD j 0 ≠ x)) (fun z_ => ls.length - z_) 0 (⟨by omega, fun j hj => by omega⟩) ⟨rfl, rfl, rfl, rfl, (by first | rfl | exact ksub rfl (by first | omega | (simp; done) | (simp; omega))), trivial⟩ (fun _ s => s) ?_; rintro i ⟨hi, hv⟩; refine wp_sc (wp_sq (sq_v rfl (v_lss rfl rfl) rfl (sq_end (qs_n (wp_sc ?_))))); refine wp_cd rfl (fun c11 => ?_) (fun c11 => ?_)
  · refine wp_sk (qs_n (wp_sc (wp_bl (wp_sc (wp_sq (sq_v rfl (v_move rfl) rfl ?_)))))); refine sq_v rfl (v_idxI Tryz.underlying27 ty_3 rfl rfl r (by first | omega | (simp; omega) | (simp only [List.length_append, List.length_cons, List.length_nil]; omega) | (rw [List.length_set]; omega)) (by first | omega | (simp; omega) | (simp only [List.length_append, List.length_cons, List.length_nil]; omega) | (rw [List.length_set]; omega))) rfl ?_; refine sq_v rfl (v_loadI (k := i) 1 ty_3 rfl rfl r (by first | omega | (simp; omega) | (simp only [List.length_append, List.length_cons, List.length_nil]; omega) | (rw [List.length_set]; omega))) rfl ?_; refine sq_v rfl (v_assign rfl) rfl (sq_v rfl (v_assign rfl) rfl (sq_end (qs_n (wp_sc (wp_sq (sq_v rfl (v_move rfl) rfl (sq_v rfl (v_move rfl) rfl (sq_v rfl (v_eql rfl rfl) rfl (sq_end (qs_n ?_)))))))))); refine wp_cd rfl (fun c17 => ?_) (fun c17 => ?_)
    · refine wp_sc (wp_sq (sq_v rfl (v_move rfl) rfl (sq_v rfl (v_assign rfl) rfl (sq_end (qs_n (wp_rt (qs_br (qs_r (qs_r (qs_br (qs_r ?_))))))))))); exact qs_ret1 rfl rfl (fin_q (i := 1) rfl (by rw [idx_first hv (by omega) c17]))
    · refine wp_sk (qs_bn (qs_n (wp_sq ?_))); refine sq_v rfl (v_add rfl rfl ((by unfold I64; omega))) rfl ?_; refine sq_v rfl (v_move rfl) rfl (sq_end ?_); exact qs_bk (i + 1) ⟨by omega, step_all hv c17⟩ (by omega) ⟨rfl, rfl, rfl, rfl, (by first | rfl | exact ksub rfl (by first | omega | (simp; done) | (simp; omega))), trivial⟩ (fun _ s => s)
  · refine wp_ex (qs_x (qs_x (qs_bx (qs_n (wp_sc (wp_sq (sq_v rfl (v_assign rfl) rfl (sq_end (qs_n (wp_rt ?_)))))))))); exact qs_ret1 rfl rfl (fin_q (i := 1) rfl (by rw [findI_none (not_mem_of fun j hj => hv j (by omega))]))
theorem ct_u_axisOf (ls ds xs : List Int) (x : Int) (a b c : Value) (w : World) (r : IntsR ls a (hp w)) (r2 : IntsR ds b (hp w)) (r3 : IntsR xs c (hp w)) : Calls Tryz.prog 80 [tenV a b c, num x].toArray w (RetV w (num (findI ls x))) :=
  ct_i_axisOf ls x a b c w r r2.sl.one r3.sl.one
set_option maxHeartbeats 1000000 in
theorem ct_i_rawPermute (k p n : Int) (t : Ten) (ls : List Int) (a b c v : Value) (w : World) (r1 : IntsR t.l a (hp w)) (r2 : IntsR t.d b (hp w)) (r3 : IntsR t.x c (hp w)) (rl : IntsR ls v (hp w)) (ok : PermOK k p n t ls) :
    Calls Tryz.prog 135 [ringV k p n, tenV a b c, v].toArray w (Ret w emp (TenT (permT k n t ls))) := by
  have hlen := ok.len; have hD := ok.dims; have hDm := dims_mem hD; have hD1 : ∀ d ∈ permD t ls, 1 ≤ d := fun d h => (hDm d h).1; have htd := dims_mem (axes_dims ok.axes); have htd1 : ∀ d ∈ t.d, 1 ≤ d := fun d h => (htd d h).1; have hsm := ok.small; have hpr := ok.prod; have hring := ok.ring; have hDl := permD_len t ls; have hw := width_range hring; have hsl := stepsL_len ls t.l t.d; have hsi := steps_in (labels := ls) (ls := t.l) htd1; refine calls_in Tryz.func135 rfl Tryz.ntmps135 rfl (Sat.start w) ?_; have hle0 := r1.le; have hle1 := r2.le; have hle2 := r3.le; have hle3 := rl.le; refine wp_sc (wp_sq ?_); refine sq_x rfl (x_box rfl rfl) rfl ?_; rintro _ _ ⟨b3, rfl, rfl⟩; refine sq_x rfl (x_box rfl rfl) rfl ?_; rintro _ _ ⟨b4, rfl, rfl⟩; refine sq_x rfl (x_alloc ty_55 rfl) rfl ?_; rintro _ _ ⟨b6, rfl, rfl⟩; refine sq_end (qs_n (wp_sc ?_)); refine wp_ra (σ := Nat × PH × Value × PH × Value) 7 (fun z_ => IntsO ls z_.2.2.2.2 z_.2.2.2.1 ∧ IntsO (List.replicate (ls.length : Int).toNat 0) z_.2.2.1 z_.2.1) (fun z_ => [(2, v), (3, .pointer (some ⟨b3, 0, none⟩)), (4, .pointer (some ⟨b4, 0, none⟩)), (6, .pointer (some ⟨b6, 0, none⟩)), (7, .pointer (some ⟨z_.1, 0, none⟩))]) (fun z_ => [box z_.1 [z_.2.2.2.2, z_.2.2.1, .slice none 0 0] 55, z_.2.1, z_.2.2.2.1, box b6 [.slice none 0 0, .slice none 0 0, .slice none 0 0] 55, box b4 [a, b, c] 55, box b3 [num k, num p, num n] 24, hp w]) mixed_ok (by kernel_rfl) ?_ ?_
  · refine ra_v (i := 0) (by kernel_rfl) rfl rfl (v_move rfl) rfl (ra_v (i := 2) (by kernel_rfl) rfl rfl (v_move rfl) rfl (ra_v (i := 3) (by kernel_rfl) rfl rfl (v_len Tryz.underlying27 rfl rl.sl) rfl ?_)); refine ra_3 (i := 1) (j := 4) (p := 6) (by kernel_rfl) ?_ ?_ ?_
    · refine ro_x rfl rfl (x_call rfl en_47 (fun w s => ct_i_copyInts _ _ w (rl.mono (s.get 3 rfl)) (by first | assumption | omega))) rfl ?_; rintro v13 h13 r13; refine ra_2 (i := 4) (j := 6) (by kernel_rfl) ?_ ?_
      · refine ro_x rfl rfl (x_makeI Tryz.underlying27 ty_3 rfl rfl (by first | omega | (simp; omega) | (simp only [List.length_append, List.length_cons, List.length_nil]; omega) | (rw [List.length_set]; omega)) (by first | omega | (simp; omega) | (simp only [List.length_append, List.length_cons, List.length_nil]; omega) | (rw [List.length_set]; omega)) (by first | omega | (simp; omega) | (simp only [List.length_append, List.length_cons, List.length_nil]; omega) | (rw [List.length_set]; omega))) rfl ?_; intro v16 h16 r16; refine ra_rj [(5, true), (6, false), (7, false)] (by kernel_rfl) rfl ?_; refine rj_v rfl rfl (v_build [v13, v16, .slice none 0 0] rfl (by obtain ⟨_, _, rfl⟩ := r13.toR.sl; obtain ⟨_, _, rfl⟩ := r16.toR.sl; kernel_rfl)) rfl ?_; refine rj_x rfl rfl (x_alloc ty_55 rfl) rfl ?_; rintro _ _ ⟨b7, rfl, rfl⟩; refine rj_m 0 rfl rfl rfl rfl (m_store 0 ty_55 rfl rfl rfl rfl (by simp [r13.toR.sl.one, r16.toR.sl.one, one_sl]) rfl (Nat.le_of_ble_eq_true rfl)) rfl ?_; rintro _ _ ⟨rfl, rfl⟩; refine rj_end ?_; exact qs_mid (b7, h16, v16, h13, v13) ⟨r13, r16⟩ ⟨rfl, rfl, rfl, rfl, rfl, trivial⟩ (fun _ s => s.pick [0, 1, 2, 3, 4, 5, 6] (by decide) rfl)
      · refine ro_x rfl rfl (x_alloc ty_55 rfl) rfl ?_; rintro _ _ ⟨b7, rfl, rfl⟩; refine ra_rj [(4, false), (5, true), (7, false)] (by kernel_rfl) rfl ?_; refine rj_x rfl rfl (x_makeI Tryz.underlying27 ty_3 rfl rfl (by first | omega | (simp; omega) | (simp only [List.length_append, List.length_cons, List.length_nil]; omega) | (rw [List.length_set]; omega)) (by first | omega | (simp; omega) | (simp only [List.length_append, List.length_cons, List.length_nil]; omega) | (rw [List.length_set]; omega)) (by first | omega | (simp; omega) | (simp only [List.length_append, List.length_cons, List.length_nil]; omega) | (rw [List.length_set]; omega))) rfl ?_; intro v16 h16 r16; refine rj_v rfl rfl (v_build [v13, v16, .slice none 0 0] rfl (by obtain ⟨_, _, rfl⟩ := r13.toR.sl; obtain ⟨_, _, rfl⟩ := r16.toR.sl; kernel_rfl)) rfl ?_; refine rj_m 1 rfl rfl rfl rfl (m_store 1 ty_55 rfl rfl rfl rfl (by simp [r13.toR.sl.one, r16.toR.sl.one, one_sl]) rfl (Nat.le_of_ble_eq_true rfl)) rfl ?_; rintro _ _ ⟨rfl, rfl⟩; refine rj_end ?_; exact qs_mid (b7, h16, v16, h13, v13) ⟨r13, r16⟩ ⟨rfl, rfl, rfl, rfl, rfl, trivial⟩ (fun _ s => s.pick [1, 0, 2, 3, 4, 5, 6] (by decide) rfl)
    · refine ro_x rfl rfl (x_makeI Tryz.underlying27 ty_3 rfl rfl (by first | omega | (simp; omega) | (simp only [List.length_append, List.length_cons, List.length_nil]; omega) | (rw [List.length_set]; omega)) (by first | omega | (simp; omega) | (simp only [List.length_append, List.length_cons, List.length_nil]; omega) | (rw [List.length_set]; omega)) (by first | omega | (simp; omega) | (simp only [List.length_append, List.length_cons, List.length_nil]; omega) | (rw [List.length_set]; omega))) rfl ?_; intro v16 h16 r16; refine ra_2 (i := 1) (j := 6) (by kernel_rfl) ?_ ?_
      · refine ro_x rfl rfl (x_call rfl en_47 (fun w s => ct_i_copyInts _ _ w (rl.mono (s.get 4 rfl)) (by first | assumption | omega))) rfl ?_; rintro v13 h13 r13; refine ra_rj [(5, true), (6, false), (7, false)] (by kernel_rfl) rfl ?_; refine rj_v rfl rfl (v_build [v13, v16, .slice none 0 0] rfl (by obtain ⟨_, _, rfl⟩ := r13.toR.sl; obtain ⟨_, _, rfl⟩ := r16.toR.sl; kernel_rfl)) rfl ?_; refine rj_x rfl rfl (x_alloc ty_55 rfl) rfl ?_; rintro _ _ ⟨b7, rfl, rfl⟩; refine rj_m 0 rfl rfl rfl rfl (m_store 0 ty_55 rfl rfl rfl rfl (by simp [r13.toR.sl.one, r16.toR.sl.one, one_sl]) rfl (Nat.le_of_ble_eq_true rfl)) rfl ?_; rintro _ _ ⟨rfl, rfl⟩; refine rj_end ?_; exact qs_mid (b7, h16, v16, h13, v13) ⟨r13, r16⟩ ⟨rfl, rfl, rfl, rfl, rfl, trivial⟩ (fun _ s => s.pick [0, 2, 1, 3, 4, 5, 6] (by decide) rfl)
      · refine ro_x rfl rfl (x_alloc ty_55 rfl) rfl ?_; rintro _ _ ⟨b7, rfl, rfl⟩; refine ra_rj [(1, false), (5, true), (7, false)] (by kernel_rfl) rfl ?_; refine rj_x rfl rfl (x_call rfl en_47 (fun w s => ct_i_copyInts _ _ w (rl.mono (s.get 5 rfl)) (by first | assumption | omega))) rfl ?_; rintro v13 h13 r13; refine rj_v rfl rfl (v_build [v13, v16, .slice none 0 0] rfl (by obtain ⟨_, _, rfl⟩ := r13.toR.sl; obtain ⟨_, _, rfl⟩ := r16.toR.sl; kernel_rfl)) rfl ?_; refine rj_m 1 rfl rfl rfl rfl (m_store 1 ty_55 rfl rfl rfl rfl (by simp [r13.toR.sl.one, r16.toR.sl.one, one_sl]) rfl (Nat.le_of_ble_eq_true rfl)) rfl ?_; rintro _ _ ⟨rfl, rfl⟩; refine rj_end ?_; exact qs_mid (b7, h16, v16, h13, v13) ⟨r13, r16⟩ ⟨rfl, rfl, rfl, rfl, rfl, trivial⟩ (fun _ s => s.pick [1, 2, 0, 3, 4, 5, 6] (by decide) rfl)
    · refine ro_x rfl rfl (x_alloc ty_55 rfl) rfl ?_; rintro _ _ ⟨b7, rfl, rfl⟩; refine ra_2 (i := 1) (j := 4) (by kernel_rfl) ?_ ?_
      · refine ro_x rfl rfl (x_call rfl en_47 (fun w s => ct_i_copyInts _ _ w (rl.mono (s.get 4 rfl)) (by first | assumption | omega))) rfl ?_; rintro v13 h13 r13; refine ra_rj [(4, false), (5, true), (7, false)] (by kernel_rfl) rfl ?_; refine rj_x rfl rfl (x_makeI Tryz.underlying27 ty_3 rfl rfl (by first | omega | (simp; omega) | (simp only [List.length_append, List.length_cons, List.length_nil]; omega) | (rw [List.length_set]; omega)) (by first | omega | (simp; omega) | (simp only [List.length_append, List.length_cons, List.length_nil]; omega) | (rw [List.length_set]; omega)) (by first | omega | (simp; omega) | (simp only [List.length_append, List.length_cons, List.length_nil]; omega) | (rw [List.length_set]; omega))) rfl ?_; intro v16 h16 r16; refine rj_v rfl rfl (v_build [v13, v16, .slice none 0 0] rfl (by obtain ⟨_, _, rfl⟩ := r13.toR.sl; obtain ⟨_, _, rfl⟩ := r16.toR.sl; kernel_rfl)) rfl ?_; refine rj_m 2 rfl rfl rfl rfl (m_store 2 ty_55 rfl rfl rfl rfl (by simp [r13.toR.sl.one, r16.toR.sl.one, one_sl]) rfl (Nat.le_of_ble_eq_true rfl)) rfl ?_; rintro _ _ ⟨rfl, rfl⟩; refine rj_end ?_; exact qs_mid (b7, h16, v16, h13, v13) ⟨r13, r16⟩ ⟨rfl, rfl, rfl, rfl, rfl, trivial⟩ (fun _ s => s.pick [2, 0, 1, 3, 4, 5, 6] (by decide) rfl)
      · refine ro_x rfl rfl (x_makeI Tryz.underlying27 ty_3 rfl rfl (by first | omega | (simp; omega) | (simp only [List.length_append, List.length_cons, List.length_nil]; omega) | (rw [List.length_set]; omega)) (by first | omega | (simp; omega) | (simp only [List.length_append, List.length_cons, List.length_nil]; omega) | (rw [List.length_set]; omega)) (by first | omega | (simp; omega) | (simp only [List.length_append, List.length_cons, List.length_nil]; omega) | (rw [List.length_set]; omega))) rfl ?_; intro v16 h16 r16; refine ra_rj [(1, false), (5, true), (7, false)] (by kernel_rfl) rfl ?_; refine rj_x rfl rfl (x_call rfl en_47 (fun w s => ct_i_copyInts _ _ w (rl.mono (s.get 5 rfl)) (by first | assumption | omega))) rfl ?_; rintro v13 h13 r13; refine rj_v rfl rfl (v_build [v13, v16, .slice none 0 0] rfl (by obtain ⟨_, _, rfl⟩ := r13.toR.sl; obtain ⟨_, _, rfl⟩ := r16.toR.sl; kernel_rfl)) rfl ?_; refine rj_m 2 rfl rfl rfl rfl (m_store 2 ty_55 rfl rfl rfl rfl (by simp [r13.toR.sl.one, r16.toR.sl.one, one_sl]) rfl (Nat.le_of_ble_eq_true rfl)) rfl ?_; rintro _ _ ⟨rfl, rfl⟩; refine rj_end ?_; exact qs_mid (b7, h16, v16, h13, v13) ⟨r13, r16⟩ ⟨rfl, rfl, rfl, rfl, rfl, trivial⟩ (fun _ s => s.pick [2, 1, 0, 3, 4, 5, 6] (by decide) rfl)
  · rintro ⟨b7, h16, v16, h13, v13⟩ ⟨r13, r16⟩; dsimp only at r13 r16 ⊢; refine qs_n (wp_sc (wp_sc (wp_sq (sq_v rfl (v_move rfl) rfl (sq_v rfl (v_len Tryz.underlying27 rfl rl.sl) rfl (sq_v rfl (v_move rfl) rfl (sq_end (qs_n (wp_bl ?_))))))))); refine wp_lp (σ := Nat × PH) (fun z_ => [(2, v), (3, .pointer (some ⟨b3, 0, none⟩)), (4, .pointer (some ⟨b4, 0, none⟩)), (6, .pointer (some ⟨b6, 0, none⟩)), (7, .pointer (some ⟨b7, 0, none⟩)), (18, v), (19, num ls.length), (20, num z_.1)]) (fun z_ => [box b7 [v13, v16, .slice none 0 0] 55, z_.2, h13, box b6 [.slice none 0 0, .slice none 0 0, .slice none 0 0] 55, box b4 [a, b, c] 55, box b3 [num k, num p, num n] 24, hp w]) (fun z_ => z_.1 ≤ ls.length ∧ IntsO ((permD t ls).take z_.1 ++ List.replicate ((permD t ls).length - z_.1) 0) v16 z_.2) (fun z_ => ls.length - z_.1) (0, h16) (⟨by (try dsimp only); omega, by (try dsimp only); simpa [hDl] using r16⟩) ⟨rfl, rfl, rfl, rfl, rfl, rfl, rfl, (by first | rfl | exact ksub rfl (by first | omega | (simp; done) | (simp; omega))), trivial⟩ (fun _ s => s) ?_; rintro ⟨i, g⟩ ⟨hi, q⟩; dsimp only at hi q ⊢; have hle_q := q.toR.le; have hll : ((permD t ls).take i ++ List.replicate ((permD t ls).length - i) 0).length = ls.length := by simp; omega
    refine wp_sc (wp_sq (sq_v rfl (v_lss rfl rfl) rfl (sq_end (qs_n (wp_sc ?_))))); refine wp_cd rfl (fun c21 => ?_) (fun c21 => ?_)
    · refine wp_sk (qs_n (wp_sc (wp_bl (wp_sc (wp_sq (sq_v rfl (v_move rfl) rfl ?_)))))); refine sq_v rfl (v_idxI Tryz.underlying27 ty_3 rfl rfl rl (by first | omega | (simp; omega) | (simp only [List.length_append, List.length_cons, List.length_nil]; omega) | (rw [List.length_set]; omega)) (by first | omega | (simp; omega) | (simp only [List.length_append, List.length_cons, List.length_nil]; omega) | (rw [List.length_set]; omega))) rfl ?_; refine sq_v rfl (v_loadI (k := i) 6 ty_3 rfl rfl rl (by first | omega | (simp; omega) | (simp only [List.length_append, List.length_cons, List.length_nil]; omega) | (rw [List.length_set]; omega))) rfl ?_; refine sq_v rfl (v_assign rfl) rfl (sq_v rfl (v_assign rfl) rfl (sq_end (qs_n (wp_rj 11 [(0, true), (1, true), (2, true), (3, true), (4, true), (5, true), (6, true), (7, false), (8, true), (9, true), (10, true), (11, false)] mixed_ok (by kernel_rfl) (rj_v rfl rfl (v_fieldAddr fd_55_1 ty_27 (by decide) rfl) rfl (rj_v rfl rfl (v_loadB 0 ty_27 rfl rfl rfl) rfl (rj_v rfl rfl (v_move rfl) rfl (rj_v rfl rfl (v_fieldAddr fd_55_1 ty_27 (by decide) rfl) rfl (rj_v rfl rfl (v_loadB 4 ty_27 rfl rfl rfl) rfl (rj_v rfl rfl (v_loadNB 4 ty_55 rfl rfl rfl rfl) rfl (rj_v rfl rfl (v_move rfl) rfl ?_))))))))))); refine rj_u rfl rfl (x_callv rfl en_80 (fun w s => ct_u_axisOf _ _ _ _ _ _ _ w (r1.mono (s.get 6 rfl)) (r2.mono (s.get 6 rfl)) (r3.mono (s.get 6 rfl)))) rfl ?_; have hf := ok.find (j := i) (by omega); refine rj_v rfl rfl (v_idxI Tryz.underlying27 ty_3 rfl rfl r2 (by first | omega | (simp; omega) | (simp only [List.length_append, List.length_cons, List.length_nil]; omega) | (rw [List.length_set]; omega)) (by first | omega | (simp; omega) | (simp only [List.length_append, List.length_cons, List.length_nil]; omega) | (rw [List.length_set]; omega))) rfl ?_; refine rj_v rfl rfl (v_loadI  6 ty_3 rfl rfl r2 (by first | omega | (simp; omega) | (simp only [List.length_append, List.length_cons, List.length_nil]; omega) | (rw [List.length_set]; omega))) rfl ?_; refine rj_v rfl rfl (v_idxI Tryz.underlying27 ty_3 rfl rfl q.toR (by first | omega | (simp; omega) | (simp only [List.length_append, List.length_cons, List.length_nil]; omega) | (rw [List.length_set]; omega)) (by first | omega | (simp; omega) | (simp only [List.length_append, List.length_cons, List.length_nil]; omega) | (rw [List.length_set]; omega))) rfl ?_; refine rj_m 1 rfl rfl rfl rfl (m_storeI (k := i) 1 ty_3 rfl rfl rfl q (by first | omega | (simp; omega) | (simp only [List.length_append, List.length_cons, List.length_nil]; omega) | (rw [List.length_set]; omega))) rfl ?_; rintro _ h_q5_11 ⟨rfl, q5_11⟩; refine rj_end (qs_bn (qs_n (wp_sq ?_))); refine sq_v rfl (v_add rfl rfl ((by unfold I64; omega))) rfl ?_; refine sq_v rfl (v_move rfl) rfl (sq_end ?_); exact qs_bk (i + 1, h_q5_11) ⟨by (try dsimp only); omega, by (try dsimp only); rw [← set_prefix (by omega), permD, idxAt, map_getD (by omega)]; exact q5_11⟩ (by simp only; omega) ⟨rfl, rfl, rfl, rfl, rfl, rfl, rfl, (by first | rfl | exact ksub rfl (by first | omega | (simp; done) | (simp; omega))), trivial⟩ (fun _ s => s)
    · refine wp_ex (qs_x (qs_x (qs_bx (qs_n (wp_sc (wp_sq (sq_v rfl (v_loadNB 4 ty_55 rfl rfl rfl rfl) rfl (sq_v rfl (v_move rfl) rfl ?_)))))))); rw [List.take_of_length_le (by omega), show (permD t ls).length - i = 0 by omega, List.replicate_zero, List.append_nil] at q; refine sq_x rfl (x_call rfl en_91 (fun w s => ct_i_stridesOf _ _ _ _ _ _ _ w (r1.mono (s.get 6 rfl)) (r2.mono (s.get 6 rfl)) (rl.mono (s.get 6 rfl)) (by first | assumption | omega) (by first | assumption | omega) (by first | assumption | omega) (by first | assumption | omega))) rfl ?_; rintro v39 h39 r39; refine sq_v rfl (v_assign rfl) rfl (sq_end (qs_n (wp_sc (wp_sq (sq_v rfl (v_move rfl) rfl (sq_v rfl (v_len Tryz.underlying27 rfl rl.sl) rfl ?_)))))); refine sq_x rfl (x_makeI Tryz.underlying27 ty_3 rfl rfl (by first | omega | (simp; omega) | (simp only [List.length_append, List.length_cons, List.length_nil]; omega) | (rw [List.length_set]; omega)) (by first | omega | (simp; omega) | (simp only [List.length_append, List.length_cons, List.length_nil]; omega) | (rw [List.length_set]; omega)) (by first | omega | (simp; omega) | (simp only [List.length_append, List.length_cons, List.length_nil]; omega) | (rw [List.length_set]; omega))) rfl ?_; intro v42 h42 r42; refine sq_v rfl (v_assign rfl) rfl (sq_end (qs_n (wp_bl ?_))); refine wp_lp (σ := Nat × PH × Value × PH) (fun z_ => [(3, .pointer (some ⟨b3, 0, none⟩)), (4, .pointer (some ⟨b4, 0, none⟩)), (6, .pointer (some ⟨b6, 0, none⟩)), (7, .pointer (some ⟨b7, 0, none⟩)), (10, v39), (11, v42)]) (fun z_ => [z_.2.2.2, z_.2.1, h39, box b7 [v13, v16, z_.2.2.1] 55, g, h13, box b6 [.slice none 0 0, .slice none 0 0, .slice none 0 0] 55, box b4 [a, b, c] 55, box b3 [num k, num p, num n] 24, hp w]) (fun z_ => z_.1 < (prodI (permD t ls)).toNat ∧ IntsO (idxL (permD t ls) z_.1) v42 z_.2.1 ∧ IntsO (permX (widthI k n) t ls (permD t ls) z_.1) z_.2.2.1 z_.2.2.2) (fun z_ => (prodI (permD t ls)).toNat - z_.1) (0, h42, .slice none 0 0, emp) (⟨by (try dsimp only); omega, by (try dsimp only); rw [show ((0 : Nat) : Int) = 0 from rfl, idxL_zero, hDl]; simpa using r42, IntsO.nil⟩) ⟨rfl, rfl, rfl, rfl, rfl, rfl, trivial⟩ (fun _ s => (emp_sat s)) ?_; rintro ⟨m, g2, vx, hx⟩ ⟨hm, q42, qx⟩; dsimp only at hm q42 qx ⊢; have hle_q42 := q42.toR.le; have hle_qx := qx.toR.le; have hxl := permX_len ok m; have hil := idxL_len (permD t ls) m; have hii := idxL_in hD1 m; have hdt := ok.dot m; have ho := ok.off m; have hef := elt_fits ok.ten ho.2; have hel : (elt t.x (widthI k n) (offL t.d (idxAt ls (idxL (permD t ls) m) t.l))).length ≤ 6 := by unfold elt; rw [List.length_take]; omega
      have hb : ∀ b ∈ idxL (permD t ls) m, 0 ≤ b ∧ b ≤ 1048576 := all_of fun j hj => by have := hii.2 j (by omega); have := hD j (by omega); omega
      refine wp_bl (wp_sc (wp_rj 8 [(0, true), (1, true), (2, true), (3, true), (4, true), (5, true), (6, false), (7, false), (8, false), (9, false), (10, false)] mixed_ok (by kernel_rfl) (rj_v rfl rfl (v_fieldAddr fd_55_2 ty_27 (by decide) rfl) rfl (rj_v rfl rfl (v_loadB 3 ty_27 rfl rfl rfl) rfl (rj_v rfl rfl (v_loadNB 8 ty_24 rfl rfl rfl rfl) rfl (rj_v rfl rfl (v_loadNB 7 ty_55 rfl rfl rfl rfl) rfl (rj_v rfl rfl (v_move rfl) rfl (rj_v rfl rfl (v_move rfl) rfl ?_)))))))); refine rj_u rfl rfl (x_callv rfl en_90 (fun w s => ct_i_dotOf _ _ _ _ w (r39.toR.mono (s.get 2 rfl)) (q42.toR.mono (s.get 1 rfl)) (fun a h => by have := hsi a h; omega) (by first | assumption | omega) (by first | assumption | omega) (by first | assumption | omega))) rfl ?_; rw [hdt] at *; refine rj_u rfl rfl (x_callv rfl en_51 (fun w s => ct_i_rawElem _ _ _ _ _ _ _ _ w (by first | assumption | omega) (r3.mono (s.get 9 rfl)) (by first | assumption | omega) (by first | assumption | omega) (by first | assumption | omega))) rfl ?_; refine rj_m 0 rfl rfl rfl rfl (m_appI 0 9 Tryz.underlying27 ty_3 rfl rfl rfl rfl qx rfl (eltV_read r3 (by first | assumption | omega) (by first | assumption | omega) (by first | assumption | omega)) (by first | omega | (simp; omega) | (simp only [List.length_append, List.length_cons, List.length_nil]; omega) | (rw [List.length_set]; omega))) rfl ?_; intro v51 h_r51 r51; refine rj_fv rfl rfl (v_fieldAddr fd_55_2 ty_27 (by decide) rfl) rfl ?_; refine rj_m 3 rfl rfl rfl rfl (m_store1 3 ty_27 rfl rfl r51.toR.sl.one rfl (Nat.le_of_ble_eq_true rfl)) rfl ?_; rintro _ _ ⟨rfl, rfl⟩; refine rj_end (qs_n (wp_sc (wp_sq (sq_v rfl (v_fieldAddr fd_55_1 ty_27 (by decide) rfl) rfl (sq_v rfl (v_loadB 3 ty_27 rfl rfl rfl) rfl (sq_v rfl (v_move rfl) rfl ?_)))))); refine sq_m 1 rfl rfl (x_call rfl en_110 (fun w s => ct_i_nextIndex _ _ _ _ w _ (s.get 1 rfl) (q.toR.mono (s.getR 1 4 rfl rfl (by decide))) q42 (by first | assumption | omega) (by first | assumption | omega) (by first | assumption | omega))) rfl ?_; rintro _ h56 ⟨rfl, r56⟩; refine sq_v rfl (v_not rfl) rfl (sq_end (qs_n ?_)); refine wp_cnd rfl (fun c57 => ?_) (fun c57 => ?_)
      · refine wp_sc (wp_sq (sq_v rfl (v_loadNB 3 ty_55 rfl rfl rfl rfl) rfl ?_)); refine sq_m 6 rfl rfl (m_store 6 ty_55 rfl rfl rfl rfl (by simp [r13.toR.sl.one, q.toR.sl.one, r51.toR.sl.one]) rfl (Nat.le_of_ble_eq_true rfl)) rfl ?_; rintro _ _ ⟨rfl, rfl⟩; refine sq_end (qs_n (wp_rt (qs_br (qs_r (qs_br ?_))))); refine qs_close [box b6 _ _, hp w] [h13, g, h_r51] (fun _ s => s.pick [6, 9, 5, 4, 0] (by decide) rfl) (fun md => ?_); exact qs_retc 1 rfl ty_55 rfl rfl rfl (fin_t 0 (i := 2) rfl rfl rfl ⟨_, _, _, rfl, _, _, _, r13, q, (show IntsO (permX (widthI k n) t ls (permD t ls) (prodI (permD t ls)).toNat) v51 h_r51 by rw [show (prodI (permD t ls)).toNat = m + 1 by omega, permX_step]; exact r51), md⟩)
      · refine wp_sk (qs_bn ?_); exact qs_bk (m + 1, h56, v51, h_r51) ⟨by (try dsimp only); omega, r56, by (try dsimp only); rw [permX_step]; exact r51⟩ (by simp only; omega) ⟨rfl, rfl, rfl, rfl, rfl, rfl, trivial⟩ (fun _ s => s)
end Go.Proofs.YtiefkcaplhnnmaaGreat
namespace Go.Proofs.YtiefkcaplhnnmaaGreat
set_option maxRecDepth 100000
open Go.RowKit
section
variable (P : Program) (n : Nat) (w0 : World)
def RAK (ops : Array Oper) (m : Nat) (Q : Exit → Act → World → Prop) (f : Nat) (listed : Array Bool) (K : Env) (HS HK : List PH) : Prop :=
  WkL HS HK → HeadInv .any ops m listed → (Region.noSelect ops && tailOK ops m) = true → ∀ (a : Act) (w : World), EnvOK n K a → Sat w0 HS w → RAny P ops Q (Sat w0 HK) m f listed a w
def ROK (ops : Array Oper) (m : Nat) (Q : Exit → Act → World → Prop) (f : Nat) (i : Nat) (listed : Array Bool) (K : Env) (HS HK : List PH) : Prop :=
  WkL HS HK → HeadInv .any ops m (listed.setIfInBounds i true) → (Region.noSelect ops && tailOK ops m) = true → ∀ (a : Act) (w : World), EnvOK n K a → Sat w0 HS w →
    wpOp P ops (OnlyN Q) i (fun a' w' => (i < m → Sat w0 HK w') ∧ RAny P ops Q (Sat w0 HK) m f (listed.setIfInBounds i true) a' w') a w
end
section
variable {P : Program} {n : Nat} {w0 : World} {K : Env} {HS HK : List PH} {Q : Exit → Act → World → Prop} {ops : Array Oper} {m f : Nat} {listed : Array Bool}
theorem rak_of (h : RAK P n w0 ops m Q f listed K HS HS) : RA P n w0 ops m Q f listed K HS := fun inv ht a w e s => h (WkL.refl HS) inv ht a w e s
theorem rak_yield {i : Nat} {oi : Oper} {v : Value} (hc : (decide (i < m) && (Region.ready .any ops listed).contains i && Region.free .any ops listed i) = true) (hi : ops[i]? = some oi) (hy : ∀ a, EnvOK n K a → YieldsIf P ops (Sat w0 HK) oi v a) (hf : fitsK n oi.dst = true)
    (k : RAK P n w0 ops m Q f (listed.setIfInBounds i true) (putK oi.dst v K) HS HK) : RAK P n w0 ops m Q (f + 1) listed K HS HK := fun hwk inv ht a w e s => by
  simp only [Bool.and_eq_true, decide_eq_true_eq] at hc; obtain ⟨⟨him, hr⟩, hfr⟩ := hc; have hr' : i ∈ Region.ready .any ops listed := by simpa using hr
  have ht' := ht; rw [Bool.and_eq_true] at ht'; exact rany_first hi (Region.noSelect_spec ht'.1) him ht'.2 _ listed a w inv (Region.free_spec hi hfr) hr' (hy a e) (hwk.sat s)
    (k hwk (inv.set hr' him) ht _ _ (e.put v hf) s)
theorem rak_v {i : Nat} {oi : Oper} {v : Value} (hc : (decide (i < m) && (Region.ready .any ops listed).contains i && Region.free .any ops listed i) = true) (hi : ops[i]? = some oi) (hw : wantK ops K oi.guard = some true) (hv : StepV P n w0 K HK oi v) (hf : fitsK n oi.dst = true)
    (k : RAK P n w0 ops m Q f (listed.setIfInBounds i true) (putK oi.dst v K) HS HK) : RAK P n w0 ops m Q (f + 1) listed K HS HK :=
  rak_yield hc hi (fun a e => .inl ⟨e.wanted hw, fun w s => hv a w e s⟩) hf k
theorem rak_alts {l : List Nat} (hc : (decide (Region.ready .any ops listed = l) && (l.all fun i => decide (i < m)) && !l.isEmpty) = true) (k : ∀ i ∈ l, ROK P n w0 ops m Q f i listed K HS HK) : RAK P n w0 ops m Q (f + 1) listed K HS HK := fun hwk inv ht a w e s => by
  simp only [Bool.and_eq_true, decide_eq_true_eq, List.all_eq_true, Bool.not_eq_true'] at hc; obtain ⟨⟨hr, hm⟩, hne⟩ := hc; refine ⟨fun h0 => (by rw [hr] at h0; rw [h0] at hne; cases hne), fun j hj => ?_⟩; have hj' := hj; rw [hr] at hj; exact k j hj hwk (inv.set hj' (hm j hj)) ht a w e s
theorem rak_2 {i j : Nat} (hc : (decide (Region.ready .any ops listed = [i, j]) && ([i, j].all fun i => decide (i < m)) && !([i, j] : List Nat).isEmpty) = true) (k1 : ROK P n w0 ops m Q f i listed K HS HK) (k2 : ROK P n w0 ops m Q f j listed K HS HK) : RAK P n w0 ops m Q (f + 1) listed K HS HK :=
  rak_alts hc (fun x hx => by simp only [List.mem_cons, List.not_mem_nil, or_false] at hx; rcases hx with rfl | rfl <;> assumption)
theorem rok_x {i : Nat} {oi : Oper} {T : Value → PH → Prop} (hi : ops[i]? = some oi) (hw : wantK ops K oi.guard = some true) (hx : StepX P n w0 K HS oi emp T) (hf : fitsK n oi.dst = true)
    (k : ∀ v h', T v h' → RAK P n w0 ops m Q f (listed.setIfInBounds i true) (putK oi.dst v K) (h' :: HS) (h' :: HK)) : ROK P n w0 ops m Q f i listed K HS HK := fun hwk inv ht a w e s => by
  unfold wpOp
  simp only [hi]; rw [if_pos (e.wanted hw)]; refine .inl (Oper.wp_imp (hx a w e s) (fun a' w' ⟨v, h', ha, u, ht'⟩ => ?_) (fun _ _ _ f => f.elim)); subst ha; exact ⟨fun _ => hwk.sat (s.same u), rany_mono (fun _ t => t.drop) _ _ _ _ (k v h' ht' ⟨.inl rfl, hwk⟩ inv ht _ _ (e.put v hf) (s.new u))⟩
/-- What is made here may be turned ahead of the tail: nothing hoisted looks at it. -/
theorem rok_xb {i : Nat} {oi : Oper} {T : Value → PH → Prop} (hi : ops[i]? = some oi) (hw : wantK ops K oi.guard = some true) (hx : StepX P n w0 K HS oi emp T) (hf : fitsK n oi.dst = true)
    (k : ∀ v h', T v h' → RAK P n w0 ops m Q f (listed.setIfInBounds i true) (putK oi.dst v K) (h' :: HS) (emp :: HK)) : ROK P n w0 ops m Q f i listed K HS HK := fun hwk inv ht a w e s => by
  unfold wpOp
  simp only [hi]; rw [if_pos (e.wanted hw)]; refine .inl (Oper.wp_imp (hx a w e s) (fun a' w' ⟨v, h', ha, u, ht'⟩ => ?_) (fun _ _ _ f => f.elim)); subst ha; exact ⟨fun _ => hwk.sat (s.same u), rany_mono (fun _ t => t.drop) _ _ _ _ (k v h' ht' ⟨.inr rfl, hwk⟩ inv ht _ _ (e.put v hf) (s.new u))⟩
theorem rk_xb {r : List (Nat × Bool)} {i : Nat} {oi : Oper} {T : Value → PH → Prop} (hi : ops[i]? = some oi) (hw : wantK ops K oi.guard = some true) (hx : StepX P n w0 K HS oi emp T) (hf : fitsK n oi.dst = true)
    (k : ∀ v h', T v h' → RK P n w0 ops m Q r (listed.setIfInBounds i true) (putK oi.dst v K) (h' :: HS) (emp :: HK)) : RK P n w0 ops m Q ((i, false) :: r) listed K HS HK :=
  rk_only hi fun h1 h2 _ h4 h5 hwk a w e s => by
    unfold wpOp
    simp only [hi]; rw [if_pos (e.wanted hw)]; refine .inl (Oper.wp_imp (hx a w e s) (fun a' w' ⟨v, h', ha, u, ht⟩ => ?_) (fun _ _ _ f => f.elim)); subst ha; exact ⟨fun _ => hwk.sat (s.same u), rany_mono (fun _ t => t.drop) _ _ _ _ (k v h' ht ⟨.inr rfl, hwk⟩ (fun i' s' r' e' hlt => h5 (h1 i' s' r' e' hlt)) h2 h4 _ _ (e.put v hf) (s.new u))⟩
theorem rak_rk (order : List (Nat × Bool)) (hc : chk ops m order listed = true) (hl : f = order.length) (h : RK P n w0 ops m Q order listed K HS HK) : RAK P n w0 ops m Q f listed K HS HK := fun hwk inv ht a w e s => by
  rw [hl]; exact h hwk (fun _ _ _ _ _ => inv) hc ht a w e s
end
end Go.Proofs.YtiefkcaplhnnmaaGreat
namespace Go.Proofs.YtiefkcaplhnnmaaGreat
set_option maxRecDepth 100000
open Go.RowKit
section
variable {P : Program} {n : Nat} {w0 : World} {K : Env} {HS HK : List PH} {Q : Exit → Act → World → Prop} {ops : Array Oper} {m f : Nat} {listed : Array Bool}
end
section
variable {P : Program} {n : Nat} {w0 : World} {K : Env} {HS : List PH} {d : Option Tmp} {ty : TypeId} {ps : String} {af : Array Edge} {g : Option (Nat × Bool)}
theorem v_convI {src dst : TypeId} {x : Operand} {q k : IntKind} {a b : Int} (hs : (P.underlying src).isSome = true) (hd : P.underlying dst = some (.int k)) (hx : ev K x = some (.int q a)) (hw : k.wrap a = b) : StepV P n w0 K HS ⟨d, .convert src dst x, ty, ps, af, g⟩ (.int k b) := fun ac w e _ => by
  obtain ⟨u, hu⟩ := Option.isSome_iff_exists.mp hs
  simp [execOp, e.ev hx, convert, run_underlying hu, run_underlying hd, Conv.intToInt, hw]
end
end Go.Proofs.YtiefkcaplhnnmaaGreat
namespace Go.Proofs.YtiefkcaplhnnmaaGreat
set_option maxRecDepth 100000
open Go.RowKit
/-- A network and whether there is one. -/
def NetB (k p n : Int) (ts : List Ten) (op : List Int) (b : Bool) (x : Value) (h : PH) : Prop := ∃ vt vo, x = .tuple [netV k p n vt vo, .bool b].toArray ∧ NetO ts op vt vo h
def TenB (t : Ten) (b : Bool) (x : Value) (h : PH) : Prop := ∃ va vb vc, x = .tuple [tenV va vb vc, .bool b].toArray ∧ TriO t va vb vc h
end Go.Proofs.YtiefkcaplhnnmaaGreat
namespace Go.Proofs.YtiefkcaplhnnmaaGreat
set_option maxRecDepth 100000
open Go.RowKit
section
variable {P : Program} {n : Nat} {w0 : World} {K : Env} {HS : List PH} {d : Option Tmp} {ty : TypeId} {ps : String} {af : Array Edge} {g : Option (Nat × Bool)}
def shrW (a b : Int) : Int := a.fdiv (2 ^ min b.toNat 64)
theorem v_shrW {t t' : TypeId} {x y : Operand} {yk : IntKind} {a b : Int} (hx : ev K x = some (.int .i64 a)) (hy : ev K y = some (.int yk b)) (h0 : 0 ≤ b) : StepV P n w0 K HS ⟨d, .binOp .shr t x y t', ty, ps, af, g⟩ (.int .i64 (shrW a b)) :=
  fun ac w e _ => by
    have h2' : ¬ b < 0 := by omega
    have h5 : (Op.shift .shr .i64 a yk b).run P w = .ok (.int .i64 (shrW a b)) w := by
      unfold Op.shift
      rw [if_neg h2']
      rfl
    simp only [execOp, e.ev hx, e.ev hy, eqGuard, binOp, Sem.run_bind]; rw [show (if (!(match BinOp.shr with | .eql => true | .neq => true | _ => false)) = true then (pure () : Sem Unit) else pure ()) = pure () by rfl]; rw [Sem.run_pure, Result.andThen_ok, h5, Result.andThen_ok]
    rfl
def lxorW (a b : Int) : Int := IntKind.i64.wrap ((BitVec.ofInt 64 a ^^^ BitVec.ofInt 64 b).toNat : Nat)
theorem v_xorW {t t' : TypeId} {x y : Operand} {a b : Int} (hx : ev K x = some (.int .i64 a)) (hy : ev K y = some (.int .i64 b)) : StepV P n w0 K HS ⟨d, .binOp .xor t x y t', ty, ps, af, g⟩ (.int .i64 (lxorW a b)) :=
  fun ac w e _ => by
    have h5 : (Op.intBits .xor .i64 a b).run P w = .ok (.int .i64 (lxorW a b)) w := rfl; simp only [execOp, e.ev hx, e.ev hy, eqGuard, binOp, Sem.run_bind]; rw [show (if (!(match BinOp.xor with | .eql => true | .neq => true | _ => false)) = true then (pure () : Sem Unit) else pure ()) = pure () by rfl]; rw [Sem.run_pure, Result.andThen_ok, if_neg (by simp), h5, Result.andThen_ok]
    rfl
theorem v_remG {t t' : TypeId} {x y : Operand} {a b c : Int} (hx : ev K x = some (.int .i64 a)) (hy : ev K y = some (.int .i64 b)) (h0 : b ≠ 0) (e : a.tmod b = c) : StepV P n w0 K HS ⟨d, .binOp .rem t x y t', ty, ps, af, g⟩ (.int .i64 c) := by
  subst e; exact v_rem hx hy h0
end
def bys (xs : List Int) : List Value := xs.map fun x => .int .u8 x
def BytesR (xs : List Int) (v : Value) (h : PH) : Prop := RowR (bys xs) xs.length 1 v h ∧ ∀ x ∈ xs, 0 ≤ x ∧ x ≤ 255
theorem BytesR.mono {xs : List Int} {v : Value} {h h' : PH} (r : BytesR xs v h) (l : PLe h h') : BytesR xs v h' := ⟨r.1.mono l, r.2⟩
theorem BytesR.le {xs : List Int} {v : Value} {h : PH} (r : BytesR xs v h) : (xs.length : Int) ≤ 9223372036854775807 := by
  obtain ⟨_, a, c, _, ⟨h, _⟩, _⟩ := r.1
  unfold maxLen at h
  omega
theorem BytesR.sl {xs : List Int} {v : Value} {h : PH} (r : BytesR xs v h) : SlL v xs.length := r.1.sl
theorem bys_get {xs : List Int} {i : Nat} (h : i < xs.length) : (bys xs)[i]? = some (.int .u8 (xs.getD i 0)) := by simp [bys, List.getD, h]
theorem BytesR.in {xs : List Int} {v : Value} {h : PH} (r : BytesR xs v h) {i : Nat} (hi : i < xs.length) : 0 ≤ xs.getD i 0 ∧ xs.getD i 0 ≤ 255 := by
  have e : xs.getD i 0 = xs[i] := by simp [List.getD, hi]
  rw [e]; exact r.2 _ (List.getElem_mem hi)
def CurO (vb vp : Value) (h : PH) : Prop := ∃ b i x, vp = .pointer (some ⟨b, 0, none⟩) ∧ 0 ≤ i ∧ h = box b [vb, num i, num x] 99
def DrawM (vb vp : Value) (n : Int) (u : Value) (h : PH) : Prop := ∃ x, u = num x ∧ 0 ≤ x ∧ x < n ∧ CurO vb vp h
def nxtH (x : Int) : Int := IntKind.i64.wrap (IntKind.i64.wrap (x * 6364136223846793005) + 1442695040888963407)
def rawH (x : Int) : Int := landW (lxorW (shrW (nxtH x) 33) (shrW (nxtH x) 45)) 255
theorem rawH_in (x : Int) : 0 ≤ rawH x ∧ rawH x ≤ 255 := landW_in (by omega) (by omega)
set_option maxHeartbeats 1000000 in
theorem ct_s_l01Byte (xs : List Int) (vb vp : Value) (w : World) (h : PH) (hle : PLe h (hp w)) (rc : CurO vb vp h) (rb : BytesR xs vb (restP w h)) : Calls Tryz.prog 111 [vp].toArray w (Ret w h (DrawM vb vp 256)) := by
  obtain ⟨bc, i, x, rfl, hi, rfl⟩ := rc; have hxl := rb.le; have hx := rawH_in x; refine calls_in Tryz.func111 rfl Tryz.ntmps111 rfl (Sat.start2 hle) ?_; have hle1 := rb.le; refine wp_sc (wp_sq (sq_v rfl (v_assign rfl) rfl (sq_end (qs_n (wp_sc (wp_sq (sq_v rfl (v_move rfl) rfl (sq_v rfl (v_move rfl) rfl (sq_v rfl (v_nilCheck rfl) rfl (sq_v rfl (v_fieldAddr fd_99_2 ty_3 (by decide) rfl) rfl (sq_v rfl (v_loadB 0 ty_3 rfl rfl rfl) rfl (sq_v rfl (v_mulw rfl rfl) rfl (sq_v rfl (v_addw rfl rfl) rfl (sq_v rfl (v_nilCheck rfl) rfl (sq_v rfl (v_fieldAddr fd_99_2 ty_3 (by decide) rfl) rfl ?_))))))))))))))); refine sq_m 0 rfl rfl (m_store1 0 ty_3 rfl rfl rfl rfl (Nat.le_of_ble_eq_true rfl)) rfl ?_; rintro _ _ ⟨rfl, rfl⟩; refine sq_end (qs_n (wp_sc (wp_rj 13 [(0, true), (1, true), (2, true), (3, true), (4, true), (5, true), (6, true), (7, true), (8, true), (9, true), (10, true), (11, true), (12, true)] mixed_ok (by kernel_rfl) (rj_v rfl rfl (v_move rfl) rfl (rj_v rfl rfl (v_nilCheck rfl) rfl (rj_v rfl rfl (v_fieldAddr fd_99_2 ty_3 (by decide) rfl) rfl (rj_v rfl rfl (v_loadB 0 ty_3 rfl rfl rfl) rfl (rj_v rfl rfl (v_shrW rfl rfl (by omega)) rfl (rj_v rfl rfl (v_move rfl) rfl (rj_v rfl rfl (v_nilCheck rfl) rfl (rj_v rfl rfl (v_fieldAddr fd_99_2 ty_3 (by decide) rfl) rfl (rj_v rfl rfl (v_loadB 0 ty_3 rfl rfl rfl) rfl ?_)))))))))))); refine rj_v rfl rfl (v_shrW rfl rfl (by omega)) rfl (rj_v rfl rfl (v_xorW rfl rfl) rfl (rj_v rfl rfl (v_andW rfl rfl (by omega) (by omega)) rfl (rj_v rfl rfl (v_assign rfl) rfl (rj_end (qs_n (wp_sc (wp_sc (wp_rj 10 [(0, true), (1, true), (2, true), (3, true), (4, true), (5, true), (6, true), (7, true), (8, true), (9, true)] mixed_ok (by kernel_rfl) (rj_v rfl rfl (v_move rfl) rfl (rj_v rfl rfl (v_nilCheck rfl) rfl (rj_v rfl rfl (v_fieldAddr fd_99_1 ty_3 (by decide) rfl) rfl (rj_v rfl rfl (v_loadB 0 ty_3 rfl rfl rfl) rfl (rj_v rfl rfl (v_move rfl) rfl ?_))))))))))))); refine rj_v rfl rfl (v_nilCheck rfl) rfl (rj_v rfl rfl (v_fieldAddr fd_99_0 ty_22 (by decide) rfl) rfl (rj_v rfl rfl (v_loadB 0 ty_22 rfl rfl rfl) rfl (rj_v rfl rfl (v_len Tryz.underlying22 rfl rb.1.sl) rfl (rj_v rfl rfl (v_lss rfl rfl) rfl (rj_end (qs_n ?_)))))); refine wp_cd rfl (fun c34 => ?_) (fun c34 => ?_)
  · refine wp_sc (wp_rj 15 [(0, true), (1, true), (2, true), (3, true), (4, true), (5, true), (6, true), (7, true), (8, true), (9, true), (10, true), (11, true), (12, true), (13, true), (14, true)] mixed_ok (by kernel_rfl) (rj_v rfl rfl (v_move rfl) rfl (rj_v rfl rfl (v_move rfl) rfl (rj_v rfl rfl (v_nilCheck rfl) rfl (rj_v rfl rfl (v_fieldAddr fd_99_0 ty_22 (by decide) rfl) rfl (rj_v rfl rfl (v_loadB 0 ty_22 rfl rfl rfl) rfl (rj_v rfl rfl (v_move rfl) rfl (rj_v rfl rfl (v_nilCheck rfl) rfl (rj_v rfl rfl (v_fieldAddr fd_99_1 ty_3 (by decide) rfl) rfl (rj_v rfl rfl (v_loadB 0 ty_3 rfl rfl rfl) rfl ?_)))))))))); refine rj_v rfl rfl (v_indexAddr Tryz.underlying22 ty_5 rfl rfl rb.1 (by decide) hi (by omega)) rfl ?_; refine rj_v rfl rfl (v_loadE 1 ty_5 rfl rfl rb.1 (by rw [Nat.mul_one]; exact bys_get (by omega))) rfl ?_; have hbi := rb.in (i := i.toNat) (by omega); refine rj_v rfl rfl (v_convI (by kernel_rfl) Tryz.underlying3 rfl (I64.wrap (by unfold I64; omega))) rfl ?_; refine rj_v rfl rfl (v_add (a := rawH x) (b := xs.getD i.toNat 0) rfl rfl (by unfold I64; omega)) rfl ?_; refine rj_v rfl rfl (v_andW (a := rawH x + xs.getD i.toNat 0) rfl rfl (by omega) (by omega)) rfl (rj_v rfl rfl (v_assign rfl) rfl (rj_end ?_)); have hland := landW_in (a := rawH x + xs.getD i.toNat 0) (b := 255) (by omega) (by omega); refine qs_n (wp_sq (sq_v rfl (v_move rfl) rfl (sq_v rfl (v_move rfl) rfl (sq_v rfl (v_nilCheck rfl) rfl (sq_v rfl (v_fieldAddr fd_99_1 ty_3 (by decide) rfl) rfl (sq_v rfl (v_loadB 0 ty_3 rfl rfl rfl) rfl ?_)))))); refine sq_v rfl (v_add rfl rfl ((by unfold I64; omega))) rfl ?_; refine sq_v rfl (v_nilCheck rfl) rfl (sq_v rfl (v_fieldAddr fd_99_1 ty_3 (by decide) rfl) rfl ?_); refine sq_m 0 rfl rfl (m_store1 0 ty_3 rfl rfl rfl rfl (Nat.le_of_ble_eq_true rfl)) rfl ?_; rintro _ _ ⟨rfl, rfl⟩; refine sq_end (qs_n (wp_sc (wp_sq (sq_v rfl (v_move rfl) rfl (sq_v rfl (v_assign rfl) rfl (sq_end (qs_n (wp_rt ?_)))))))); exact qs_ret1 rfl rfl (fin_m (i := 1) 0 rfl rfl rfl ⟨landW (rawH x + xs.getD i.toNat 0) 255, rfl, by omega, by omega, bc, _, _, rfl, by omega, rfl⟩)
  · refine wp_sk (qs_n (wp_sc (wp_sq (sq_v rfl (v_move rfl) rfl (sq_v rfl (v_assign rfl) rfl (sq_end (qs_n (wp_rt ?_)))))))); exact qs_ret1 rfl rfl (fin_m (i := 1) 0 rfl rfl rfl ⟨rawH x, rfl, by omega, by omega, bc, _, _, rfl, by omega, rfl⟩)
def OnceM (vb vp : Value) (u : Value) (h : PH) : Prop := ∃ b, u = .bool b ∧ CurO vb vp h
def PickM (vb vp : Value) (ls : List Int) (u : Value) (h : PH) : Prop := ∃ x, u = num x ∧ x ∈ ls ∧ CurO vb vp h
theorem ct_s_l01Below (n : Int) (xs : List Int) (vb vp : Value) (w : World) (h : PH) (hle : PLe h (hp w)) (rc : CurO vb vp h) (rb : BytesR xs vb (restP w h)) (hn : 1 ≤ n) : Calls Tryz.prog 71 [vp, num n].toArray w (Ret w h (DrawM vb vp n)) := by
  refine calls_in Tryz.func71 rfl Tryz.ntmps71 rfl (Sat.start2 hle) ?_; have hle1 := rb.le; refine wp_sc (wp_sq (sq_v rfl (v_assign rfl) rfl (sq_end (qs_n (wp_sc (wp_sc (wp_sq (sq_v rfl (v_move rfl) rfl (sq_v rfl (v_leq rfl rfl) rfl (sq_end (qs_n ?_))))))))))); refine wp_cd rfl (fun c6 => ?_) (fun c6 => ?_)
  · refine wp_sc (wp_sq (sq_v rfl (v_assign rfl) rfl (sq_end (qs_n (wp_rt (qs_r ?_))))))
    exfalso; omega
  · refine wp_sk (qs_n (wp_sc (wp_sq (sq_v rfl (v_move rfl) rfl ?_)))); refine sq_m 0 rfl rfl (x_call rfl en_111 (fun w s => ct_s_l01Byte _ _ _ w _ (s.get 0 rfl) rc (rb.mono (s.getR 0 1 rfl rfl (by decide))))) rfl ?_; rintro _ h8 ⟨x8, rfl, hx8, hy8, cu8⟩; refine sq_v rfl (v_move rfl) rfl (sq_v rfl (v_remG rfl rfl (by omega) rfl) rfl (sq_v rfl (v_assign rfl) rfl (sq_end (qs_n (wp_rt ?_))))); exact qs_ret1 rfl rfl (fin_m (i := 1) 0 rfl rfl rfl ⟨_, rfl, Int.tmod_nonneg _ hx8, Int.tmod_lt_of_pos _ (by omega), cu8⟩)
theorem ct_s_l01Once (n : Int) (xs : List Int) (vb vp : Value) (w : World) (h : PH) (hle : PLe h (hp w)) (rc : CurO vb vp h) (rb : BytesR xs vb (restP w h)) (hn : 1 ≤ n) : Calls Tryz.prog 77 [vp, num n].toArray w (Ret w h (OnceM vb vp)) := by
  refine calls_in Tryz.func77 rfl Tryz.ntmps77 rfl (Sat.start2 hle) ?_; have hle1 := rb.le; refine wp_sc (wp_sq (sq_v rfl (v_assign rfl) rfl (sq_end (qs_n (wp_sc (wp_sq (sq_v rfl (v_move rfl) rfl (sq_v rfl (v_move rfl) rfl ?_)))))))); refine sq_m 0 rfl rfl (x_call rfl en_71 (fun w s => ct_s_l01Below _ _ _ _ w _ (s.get 0 rfl) rc (rb.mono (s.getR 0 1 rfl rfl (by decide))) (by first | assumption | omega))) rfl ?_; rintro _ h7 ⟨x7, rfl, hx7, hy7, cu7⟩; refine sq_v rfl (v_eql rfl rfl) rfl (sq_v rfl (v_assign rfl) rfl (sq_end (qs_n (wp_rt ?_)))); exact qs_ret1 rfl rfl (fin_m (i := 1) 0 rfl rfl rfl ⟨_, rfl, cu7⟩)
theorem ct_s_l01Pick (xs ls : List Int) (vb vp vl : Value) (w : World) (h : PH) (hle : PLe h (hp w)) (rc : CurO vb vp h) (rb : BytesR xs vb (restP w h)) (rl : IntsR ls vl (restP w h)) (hn : 1 ≤ ls.length) : Calls Tryz.prog 72 [vp, vl].toArray w (Ret w h (PickM vb vp ls)) := by
  refine calls_in Tryz.func72 rfl Tryz.ntmps72 rfl (Sat.start2 hle) ?_; have hle1 := rb.le; have hle2 := rl.le; refine wp_sc (wp_sq (sq_v rfl (v_assign rfl) rfl (sq_end (qs_n (wp_sc (wp_sq (sq_v rfl (v_move rfl) rfl (sq_v rfl (v_move rfl) rfl (sq_v rfl (v_move rfl) rfl (sq_v rfl (v_len Tryz.underlying27 rfl rl.sl) rfl ?_)))))))))); refine sq_m 0 rfl rfl (x_call rfl en_71 (fun w s => ct_s_l01Below _ _ _ _ w _ (s.get 0 rfl) rc (rb.mono (s.getR 0 1 rfl rfl (by decide))) (by first | assumption | omega))) rfl ?_; rintro _ h9 ⟨x9, rfl, hx9, hy9, cu9⟩; refine sq_v rfl (v_idxI Tryz.underlying27 ty_3 rfl rfl rl (by first | omega | (simp; omega) | (simp only [List.length_append, List.length_cons, List.length_nil]; omega) | (rw [List.length_set]; omega)) (by first | omega | (simp; omega) | (simp only [List.length_append, List.length_cons, List.length_nil]; omega) | (rw [List.length_set]; omega))) rfl ?_; refine sq_v rfl (v_loadI  1 ty_3 rfl rfl rl (by first | omega | (simp; omega) | (simp only [List.length_append, List.length_cons, List.length_nil]; omega) | (rw [List.length_set]; omega))) rfl ?_; refine sq_v rfl (v_assign rfl) rfl (sq_end (qs_n (wp_rt ?_))); exact qs_ret1 rfl rfl (fin_m (i := 1) 0 rfl rfl rfl ⟨_, rfl, mem_getD (by omega), cu9⟩)
set_option maxHeartbeats 1000000 in
theorem ct_s_l01New (xs : List Int) (vb : Value) (w : World) (rb : BytesR xs vb (hp w)) (hxl : xs.length ≤ 1048576) : Calls Tryz.prog 73 [vb].toArray w (Ret w emp (CurO vb)) := by
  refine calls_in Tryz.func73 rfl Tryz.ntmps73 rfl (Sat.start w) ?_; have hle0 := rb.le; refine wp_sc (wp_sq (sq_v rfl (v_assign rfl) rfl (sq_end (qs_n (wp_sc (wp_sq (sq_v rfl (v_move rfl) rfl (sq_v rfl (v_len Tryz.underlying22 rfl rb.1.sl) rfl ?_)))))))); refine sq_v rfl (v_add rfl rfl ((by unfold I64; omega))) rfl ?_; refine sq_v rfl (v_assign rfl) rfl (sq_end (qs_n (wp_sc (wp_sc (wp_sq (sq_v rfl (v_assign rfl) rfl (sq_end (qs_n (wp_bl ?_))))))))); refine wp_lp (σ := Nat × Int) (fun z_ => [(0, vb), (2, .pointer none), (3, num z_.2), (4, num z_.1)]) (fun z_ => [hp w]) (fun z_ => z_.1 ≤ xs.length ∧ (0 ≤ z_.2 ∧ z_.2 ≤ 1100000000)) (fun z_ => xs.length - z_.1) (0, (55127 + xs.length : Int)) (⟨by (try dsimp only); omega, by (try dsimp only); omega⟩) ⟨rfl, rfl, (by first | rfl | exact ksub rfl (by first | omega | (simp; done) | (simp; omega))), (by first | rfl | exact ksub rfl (by first | omega | (simp; done) | (simp; omega))), trivial⟩ (fun _ s => s) ?_; rintro ⟨i, q⟩ ⟨hi, hq⟩; dsimp only at hi hq ⊢; refine wp_sc (wp_sc (wp_sq (sq_v rfl (v_move rfl) rfl (sq_v rfl (v_move rfl) rfl (sq_v rfl (v_len Tryz.underlying22 rfl rb.1.sl) rfl (sq_v rfl (v_lss rfl rfl) rfl ?_)))))); refine sq_bd 11 rfl (fun c11 => ?_) (fun c11 => ?_)
  · refine sq_v rfl (v_move rfl) rfl (sq_v rfl (v_move rfl) rfl (sq_v rfl (v_lss rfl rfl) rfl (sq_v rfl (v_pickt rfl rfl) rfl (sq_end (qs_n ?_))))); refine wp_cd rfl (fun c15 => ?_) (fun c15 => ?_)
    · refine wp_sk (qs_n (wp_sc (wp_bl (wp_sq (sq_v rfl (v_move rfl) rfl ?_))))); refine sq_v rfl (v_mul rfl rfl ((by unfold I64; omega))) rfl ?_; refine sq_v rfl (v_move rfl) rfl (sq_v rfl (v_move rfl) rfl (sq_v rfl (v_indexAddr Tryz.underlying22 ty_5 rfl rfl rb.1 (by decide) (by omega) (by omega)) rfl ?_)); refine sq_v rfl (v_loadE 0 ty_5 rfl rfl rb.1 (by rw [Nat.mul_one]; exact bys_get (by omega))) rfl ?_; have hbi := rb.in (i := (i : Int).toNat) (by omega); refine sq_v rfl (v_convI (by kernel_rfl) Tryz.underlying3 rfl (I64.wrap (by unfold I64; omega))) rfl ?_; refine sq_v rfl (v_add rfl rfl ((by unfold I64; omega))) rfl ?_; refine sq_v rfl (v_add rfl rfl ((by unfold I64; omega))) rfl ?_; refine sq_v rfl (v_andW (a := q * 131 + xs.getD (i : Int).toNat 0 + 7) rfl rfl (by omega) (by omega)) rfl (sq_v rfl (v_assign rfl) rfl (sq_end ?_)); have hland := landW_in (a := q * 131 + xs.getD (i : Int).toNat 0 + 7) (b := 1073741823) (by omega) (by omega); refine qs_bn (qs_n (wp_sq (sq_v rfl (v_move rfl) rfl ?_))); refine sq_v rfl (v_add rfl rfl ((by unfold I64; omega))) rfl ?_; refine sq_v rfl (v_assign rfl) rfl (sq_end ?_); exact qs_bk (i + 1, landW (q * 131 + xs.getD (i : Int).toNat 0 + 7) 1073741823) ⟨by (try dsimp only); omega, by (try dsimp only); omega⟩ (by simp only; omega) ⟨rfl, rfl, (by first | rfl | exact ksub rfl (by first | omega | (simp; done) | (simp; omega))), (by first | rfl | exact ksub rfl (by first | omega | (simp; done) | (simp; omega))), trivial⟩ (fun _ s => s)
    · refine wp_ex (qs_x (qs_x (qs_bx (qs_n (wp_sc (wp_sq (sq_v rfl (v_move rfl) rfl (sq_v rfl (v_move rfl) rfl ?_)))))))); refine sq_v rfl (v_build [vb, num 0, num q] rfl (by obtain ⟨_, _, rfl⟩ := rb.sl; kernel_rfl)) rfl ?_; refine sq_x rfl (x_box rfl rfl) rfl ?_; rintro _ _ ⟨b31, rfl, rfl⟩; refine sq_v rfl (v_assign rfl) rfl (sq_end (qs_n (wp_rt ?_))); exact qs_ret1 rfl rfl (fin_t 0 (i := 1) rfl rfl rfl ⟨b31, _, _, rfl, by omega, rfl⟩)
  · refine sq_v rfl (v_move rfl) rfl (sq_s rfl rfl (sq_s rfl rfl (sq_v rfl (v_pickf rfl rfl) rfl (sq_end (qs_n (wp_cf rfl (wp_ex (qs_x (qs_x (qs_bx (qs_n (wp_sc (wp_sq (sq_v rfl (v_move rfl) rfl (sq_v rfl (v_move rfl) rfl ?_))))))))))))))); refine sq_v rfl (v_build [vb, num 0, num q] rfl (by obtain ⟨_, _, rfl⟩ := rb.sl; kernel_rfl)) rfl ?_; refine sq_x rfl (x_box rfl rfl) rfl ?_; rintro _ _ ⟨b31, rfl, rfl⟩; refine sq_v rfl (v_assign rfl) rfl (sq_end (qs_n (wp_rt ?_))); exact qs_ret1 rfl rfl (fin_t 0 (i := 1) rfl rfl rfl ⟨b31, _, _, rfl, by omega, rfl⟩)
end Go.Proofs.YtiefkcaplhnnmaaGreat
