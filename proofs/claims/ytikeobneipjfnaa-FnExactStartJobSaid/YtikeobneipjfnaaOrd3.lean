/-
  The program's state of an order: joined labels, the labels of a result, a step.
  Conditions: none.
-/
import Derived.Test.YtikeobneipjfnaaOrd2
namespace Go.Proofs.Ytikeobneipjfnaa
set_option maxRecDepth 100000
open Go.RowKit
theorem filter_yes {xs : List Int} {p : Int → Bool} {i : Nat} (h : i < xs.length) (hp : p (xs.getD i 0) = true) : (xs.take (i + 1)).filter p = (xs.take i).filter p ++ [xs.getD i 0] := by
  rw [take_succ h, List.filter_append, List.filter_cons_of_pos hp]; rfl
theorem filter_no {xs : List Int} {p : Int → Bool} {i : Nat} (h : i < xs.length) (hp : p (xs.getD i 0) = false) : (xs.take (i + 1)).filter p = (xs.take i).filter p := by
  rw [take_succ h, List.filter_append, List.filter_cons_of_neg (by rw [hp]; decide)]; simp
theorem filter_take_len (xs : List Int) (p : Int → Bool) (i : Nat) : ((xs.take i).filter p).length ≤ xs.length := by
  have := List.length_filter_le p (xs.take i)
  simp only [List.length_take] at this
  omega
theorem ct_i_joinLabels (xs ys : List Int) (v u : Value) (w : World) (r : IntsR xs v (hp w)) (r' : IntsR ys u (hp w)) (hs : xs.length + ys.length ≤ 1000000) :
    Calls Try.prog 183 [v, u].toArray w (Ret w emp (IntsO (joinI xs ys))) := by
  refine calls_in Try.func183 rfl Try.ntmps183 rfl (Sat.start w) ?_
  have hle0 := r.le
  have hle1 := r'.le
  refine wp_sc ?_
  refine wp_sq ?_
  refine sq_v rfl (v_assign rfl) rfl ?_
  refine sq_end ?_
  refine qs_n ?_
  refine wp_sc ?_
  refine wp_sq ?_
  refine sq_v rfl (v_move rfl) rfl ?_
  refine sq_x rfl (x_call rfl en_91 (fun w s => ct_i_copyInts _ _ w (r.mono (s.get 0 rfl)) (by first | assumption | omega))) rfl ?_; rintro v9 h9 r9
  refine sq_v rfl (v_assign rfl) rfl ?_
  refine sq_end ?_
  refine qs_n ?_
  refine wp_sc ?_
  refine wp_sc ?_
  refine wp_sq ?_
  refine sq_v rfl (v_move rfl) rfl ?_
  refine sq_v rfl (v_len Try.underlying24 rfl r'.sl) rfl ?_
  refine sq_v rfl (v_move rfl) rfl ?_
  refine sq_end ?_
  refine qs_n ?_
  refine wp_bl ?_
  refine wp_lp (σ := Nat × Value × PH) (fun z_ => [(0, v), (4, .slice none 0 0), (5, z_.2.1), (10, u), (11, num ys.length), (12, num z_.1)]) (fun z_ => [z_.2.2, hp w]) (fun z_ => z_.1 ≤ ys.length ∧ IntsO (xs ++ (ys.take z_.1).filter fun x => decide (x ∉ xs)) z_.2.1 z_.2.2) (fun z_ => ys.length - z_.1) (0, v9, h9) (⟨by (try dsimp only); omega, by (try dsimp only); simpa using r9⟩) ⟨rfl, rfl, (by first | rfl | exact ksub rfl (by first | omega | (simp; done) | (simp; omega))), rfl, rfl, (by first | rfl | exact ksub rfl (by first | omega | (simp; done) | (simp; omega))), trivial⟩ (fun _ s => s) ?_
  rintro ⟨i, lv, lh⟩ ⟨hi, q⟩
  dsimp only at hi q ⊢
  have hle_q := q.toR.le
  have hfl := filter_take_len ys (fun x => decide (x ∉ xs)) i
  refine wp_sc ?_
  refine wp_sq ?_
  refine sq_v rfl (v_lss rfl rfl) rfl ?_
  refine sq_end ?_
  refine qs_n ?_
  refine wp_sc ?_
  refine wp_cd rfl (fun c13 => ?_) (fun c13 => ?_)
  · refine wp_sk ?_
    refine qs_n ?_
    refine wp_sc ?_
    refine wp_bl ?_
    refine wp_sc ?_
    refine wp_sq ?_
    refine sq_v rfl (v_idxI Try.underlying24 ty_3 rfl rfl r' (by first | omega | (simp only [List.length_cons, List.length_nil]; omega) | (simp only [List.length_append, List.length_cons, List.length_nil]; omega) | (rw [List.length_set]; omega) | (rw [List.length_replicate]; omega) | (simp; omega)) (by first | omega | (simp only [List.length_cons, List.length_nil]; omega) | (simp only [List.length_append, List.length_cons, List.length_nil]; omega) | (rw [List.length_set]; omega) | (rw [List.length_replicate]; omega) | (simp; omega))) rfl ?_
    refine sq_v rfl (v_loadI (k := i) 1 ty_3 rfl rfl r' (by first | omega | (simp only [List.length_cons, List.length_nil]; omega) | (simp only [List.length_append, List.length_cons, List.length_nil]; omega) | (rw [List.length_set]; omega) | (rw [List.length_replicate]; omega) | (simp; omega))) rfl ?_
    refine sq_v rfl (v_assign rfl) rfl ?_
    refine sq_end ?_
    refine qs_n ?_
    refine wp_sc ?_
    refine wp_sq ?_
    refine sq_v rfl (v_move rfl) rfl ?_
    refine sq_v rfl (v_move rfl) rfl ?_
    refine sq_u rfl (x_callv rfl en_212 (fun w s => ct_i_hasInt _ _ _ w (r.mono (s.get 1 rfl)))) rfl ?_
    refine sq_v rfl (v_not rfl) rfl ?_
    refine sq_end ?_
    refine qs_n ?_
    refine wp_cnd rfl (fun c19 => ?_) (fun c19 => ?_)
    · refine wp_sq ?_
      refine sq_v rfl (v_move rfl) rfl ?_
      refine sq_v rfl (v_move rfl) rfl ?_
      refine sq_x rfl (x_buildS [num (ys.getD i 0)] Try.underlying24 ty_3 (by decide) rfl rfl rfl (by decide) (by decide) (by intro v hv; simp at hv; rcases hv with rfl <;> rfl)) rfl ?_; intro v22 h22 (r22 : IntsO [ys.getD i 0] v22 h22)
      refine sq_m 1 rfl rfl (m_appI 1 0 Try.underlying24 ty_3 rfl rfl rfl rfl q rfl r22.toR (by first | omega | (simp only [List.length_cons, List.length_nil]; omega) | (simp only [List.length_append, List.length_cons, List.length_nil]; omega) | (rw [List.length_set]; omega) | (rw [List.length_replicate]; omega) | (simp; omega))) rfl ?_; intro v23 h_r23 r23
      refine sq_v rfl (v_assign rfl) rfl ?_
      refine sq_end ?_
      refine qs_bn ?_
      refine qs_n ?_
      refine wp_sq ?_
      refine sq_v rfl (v_add rfl rfl ((by unfold I64; omega))) rfl ?_
      refine sq_v rfl (v_move rfl) rfl ?_
      refine sq_end ?_
      exact qs_bk (i + 1, v23, h_r23) ⟨by (try dsimp only); omega, by (try dsimp only); rw [filter_yes (by omega) (by simpa using c19), ← List.append_assoc]; exact r23⟩ (by simp only; omega) ⟨rfl, rfl, (by first | rfl | exact ksub rfl (by first | omega | (simp; done) | (simp; omega))), rfl, rfl, (by first | rfl | exact ksub rfl (by first | omega | (simp; done) | (simp; omega))), trivial⟩ (fun _ s => s.pick [1, 2] (by decide) rfl)
    · refine wp_sk ?_
      refine qs_bn ?_
      refine qs_n ?_
      refine wp_sq ?_
      refine sq_v rfl (v_add rfl rfl ((by unfold I64; omega))) rfl ?_
      refine sq_v rfl (v_move rfl) rfl ?_
      refine sq_end ?_
      exact qs_bk (i + 1, lv, lh) ⟨by (try dsimp only); omega, by (try dsimp only); rw [filter_no (by omega) (by simpa using c19)]; exact q⟩ (by simp only; omega) ⟨rfl, rfl, (by first | rfl | exact ksub rfl (by first | omega | (simp; done) | (simp; omega))), rfl, rfl, (by first | rfl | exact ksub rfl (by first | omega | (simp; done) | (simp; omega))), trivial⟩ (fun _ s => s)
  · refine wp_ex ?_
    refine qs_x ?_
    refine qs_x ?_
    refine qs_bx ?_
    refine qs_n ?_
    refine wp_sc ?_
    refine wp_sq ?_
    refine sq_v rfl (v_move rfl) rfl ?_
    refine sq_v rfl (v_assign rfl) rfl ?_
    refine sq_end ?_
    refine qs_n ?_
    refine wp_rt ?_
    exact qs_ret1 rfl rfl (fin_t 0 (i := 1) rfl rfl rfl (by rw [List.take_of_length_le (by omega)] at q; exact q))
theorem joinI_len (xs ys : List Int) : (joinI xs ys).length ≤ xs.length + ys.length := by
  have := List.length_filter_le (fun x => decide (x ∉ xs)) ys
  simp only [joinI, List.length_append]
  omega
def keptTo (op : List Int) (lv : List Lv) (p q : Int) (j : Nat) (x : Int) : Prop := x ∈ op ∨ ∃ k, k < j ∧ (k : Int) ≠ p ∧ (k : Int) ≠ q ∧ ∃ y, lv[k]? = some y ∧ x ∈ y.l
theorem keptTo_yes {op : List Int} {lv : List Lv} {p q : Int} {j : Nat} {x : Int} {y : Lv} (hy : lv[j]? = some y) (h1 : (j : Int) ≠ p) (h2 : (j : Int) ≠ q) (h3 : x ∈ y.l) : keptTo op lv p q (j + 1) x := .inr ⟨j, by omega, h1, h2, y, hy, h3⟩
theorem keptTo_no {op : List Int} {lv : List Lv} {p q : Int} {j : Nat} {x : Int} {y : Lv} (hy : lv[j]? = some y) (h : (j : Int) = p ∨ (j : Int) = q ∨ x ∉ y.l) : keptTo op lv p q (j + 1) x ↔ keptTo op lv p q j x := by
  refine or_congr Iff.rfl ⟨?_, fun ⟨k, h1, h2⟩ => ⟨k, by omega, h2⟩⟩
  rintro ⟨k, h1, h2, h3, y', h4, h5⟩
  by_cases e : k = j
  · subst e
    rw [hy] at h4
    cases h4
    rcases h with h | h | h
    · exact absurd h h2
    · exact absurd h h3
    · exact absurd h5 h
  · exact ⟨k, by omega, h2, h3, y', h4, h5⟩
theorem keptTo_end {op : List Int} {s : Sh} {p q : Int} {a b : Nat} (h0 : 0 ≤ p) (h1 : 0 ≤ q) (hp : s.ixs[p.toNat]? = some a) (hq : s.ixs[q.toNat]? = some b) (x : Int) : keptTo op s.lv p q s.lv.length x ↔ s.kept op a b x := by
  rw [kept_places hp hq]
  refine or_congr Iff.rfl (exists_congr fun k => and_congr Iff.rfl (and_congr ⟨fun h => by omega, fun h => by omega⟩ (and_congr ⟨fun h => by omega, fun h => by omega⟩ Iff.rfl)))
set_option maxHeartbeats 1000000 in
theorem ct_i_resultLabels (arr op : List Int) (vo lvv : Value) (s : Sh) (bb : Nat) (p q : Int) (a b : Nat) (w : World) (r : StR arr vo lvv s bb (hp w)) (ro : IntsR op vo (hp w)) (h0 : 0 ≤ p) (h1 : 0 ≤ q) (hpa : s.ixs[p.toNat]? = some a) (hqb : s.ixs[q.toNat]? = some b) (hsz : (s.lab a).length + (s.lab b).length ≤ 100000) :
    Calls Try.prog 222 [.pointer (some ⟨bb, 0, none⟩), num p, num q].toArray w (Ret w emp (IntsO (s.res op a b))) := by
  have rl := r.live
  have hll := lv_len s
  have hpl := (List.getElem?_eq_some_iff.1 hpa).1
  have hql := (List.getElem?_eq_some_iff.1 hqb).1
  refine calls_in Try.func222 rfl Try.ntmps222 rfl (Sat.start w) ?_
  have hle0 := ro.le
  have hle1 := rl.le
  obtain ⟨cs_rl, rr_rl, hc_rl⟩ := rl.at
  refine wp_sc ?_
  refine wp_sq ?_
  refine sq_v rfl (v_assign rfl) rfl ?_
  refine sq_end ?_
  refine qs_n ?_
  refine wp_sc ?_
  refine wp_sq ?_
  refine sq_v rfl (v_assign rfl) rfl ?_
  refine sq_end ?_
  refine qs_n ?_
  refine wp_sc ?_
  refine wp_sc ?_
  refine wp_rj 19 [(0, true), (1, true), (2, true), (3, true), (4, true), (5, true), (6, true), (7, true), (8, true), (9, true), (10, true), (11, true), (12, true), (13, true), (14, true), (15, true), (18, true), (16, false), (17, true)] mixed_ok (by kernel_rfl) ?_
  refine rj_v rfl rfl (v_move rfl) rfl ?_
  refine rj_v rfl rfl (v_nilCheck rfl) rfl ?_
  refine rj_v rfl rfl (v_fieldAddr fd_216_2 ty_214 (by decide) rfl) rfl ?_
  refine rj_v rfl rfl (v_load 0 ty_214 rfl rfl r.c101) rfl ?_
  refine rj_v rfl rfl (v_move rfl) rfl ?_
  obtain ⟨x18, a18, hx18, hcs18, rl18⟩ := hc_rl ((p : Int).toNat) (by first | omega | (rw [List.length_set]; omega))
  refine rj_v rfl rfl (v_indexAddr Try.underlying214 ty_213 rfl rfl rr_rl (by decide) (by omega) (by omega)) rfl ?_
  refine rj_v rfl rfl (v_fieldAddrE fd_213_1 ty_24 (by decide) rfl rr_rl (by have := rr_rl.1; first | omega | (simp only [Int.toNat_natCast]; omega) | (rw [stepCells_len, List.length_set]; omega))) rfl ?_
  refine rj_v rfl rfl (v_loadE 0 ty_24 rfl rfl rr_rl (sub_get hcs18 (j := 1) rfl)) rfl ?_
  refine rj_v rfl rfl (v_move rfl) rfl ?_
  refine rj_v rfl rfl (v_nilCheck rfl) rfl ?_
  refine rj_v rfl rfl (v_fieldAddr fd_216_2 ty_214 (by decide) rfl) rfl ?_
  refine rj_v rfl rfl (v_load 0 ty_214 rfl rfl r.c101) rfl ?_
  refine rj_v rfl rfl (v_move rfl) rfl ?_
  obtain ⟨x26, a26, hx26, hcs26, rl26⟩ := hc_rl ((q : Int).toNat) (by first | omega | (rw [List.length_set]; omega))
  refine rj_v rfl rfl (v_indexAddr Try.underlying214 ty_213 rfl rfl rr_rl (by decide) (by omega) (by omega)) rfl ?_
  refine rj_v rfl rfl (v_fieldAddrE fd_213_1 ty_24 (by decide) rfl rr_rl (by have := rr_rl.1; first | omega | (simp only [Int.toNat_natCast]; omega) | (rw [stepCells_len, List.length_set]; omega))) rfl ?_
  refine rj_v rfl rfl (v_loadE 0 ty_24 rfl rfl rr_rl (sub_get hcs26 (j := 1) rfl)) rfl ?_
  refine rj_v rfl rfl (v_move rfl) rfl ?_
  obtain ⟨i18, hi18, e18⟩ := lv_get hx18; obtain ⟨i26, hi26, e26⟩ := lv_get hx26; rw [hpa] at hi18; rw [hqb] at hi26; cases hi18; cases hi26; have l18 : x18.l = s.lab a := (by rw [e18]); have l26 : x26.l = s.lab b := (by rw [e26]); have hjl := joinI_len x18.l x26.l; rw [l18, l26] at hjl
  refine rj_x rfl rfl (x_call rfl en_183 (fun w s => ct_i_joinLabels _ _ _ _ w (rl18.mono (s.get 0 rfl)) (rl26.mono (s.get 0 rfl)) (by rw [l18, l26]; omega))) rfl ?_; rintro v29 h29 r29
  refine rj_v rfl rfl (v_len Try.underlying24 rfl r29.toR.sl) rfl ?_
  refine rj_end ?_
  refine qs_n ?_
  refine wp_bl ?_
  refine wp_lp (σ := Nat × Value × PH) (fun z_ => [(0, .pointer (some ⟨bb, 0, none⟩)), (1, num p), (2, num q), (6, .slice none 0 0), (7, z_.2.1), (29, v29), (30, num (joinI x18.l x26.l).length), (31, num z_.1)]) (fun z_ => [z_.2.2, h29, hp w]) (fun z_ => z_.1 ≤ (joinI x18.l x26.l).length ∧ IntsO (((joinI x18.l x26.l).take z_.1).filter fun y => @decide (s.kept op a b y) (Classical.propDecidable _)) z_.2.1 z_.2.2) (fun z_ => (joinI x18.l x26.l).length - z_.1) (0, .slice none 0 0, emp) (⟨by (try dsimp only); omega, IntsO.nil⟩) ⟨rfl, rfl, rfl, rfl, (by first | rfl | exact ksub rfl (by first | omega | (simp; done) | (simp; omega))), rfl, rfl, (by first | rfl | exact ksub rfl (by first | omega | (simp; done) | (simp; omega))), trivial⟩ (fun _ s => (emp_sat s)) ?_
  rintro ⟨i, ov, oh⟩ ⟨hi, q'⟩
  dsimp only at hi q' ⊢
  have hle_q' := q'.toR.le
  have hfl := filter_take_len (joinI x18.l x26.l) (fun y => @decide (s.kept op a b y) (Classical.propDecidable _)) i
  have hjl' : (joinI x18.l x26.l).length ≤ 100000 := by rw [l18, l26]; omega
  refine wp_sc ?_
  refine wp_sq ?_
  refine sq_v rfl (v_lss rfl rfl) rfl ?_
  refine sq_end ?_
  refine qs_n ?_
  refine wp_sc ?_
  refine wp_cd rfl (fun c32 => ?_) (fun c32 => ?_)
  · refine wp_sk ?_
    refine qs_n ?_
    refine wp_sc ?_
    refine wp_bl ?_
    refine wp_sc ?_
    refine wp_sq ?_
    refine sq_v rfl (v_idxI Try.underlying24 ty_3 rfl rfl r29.toR (by first | omega | (simp only [List.length_cons, List.length_nil]; omega) | (simp only [List.length_append, List.length_cons, List.length_nil]; omega) | (rw [List.length_set]; omega) | (rw [List.length_replicate]; omega) | (simp; omega)) (by first | omega | (simp only [List.length_cons, List.length_nil]; omega) | (simp only [List.length_append, List.length_cons, List.length_nil]; omega) | (rw [List.length_set]; omega) | (rw [List.length_replicate]; omega) | (simp; omega))) rfl ?_
    refine sq_v rfl (v_loadI (k := i) 1 ty_3 rfl rfl r29.toR (by first | omega | (simp only [List.length_cons, List.length_nil]; omega) | (simp only [List.length_append, List.length_cons, List.length_nil]; omega) | (rw [List.length_set]; omega) | (rw [List.length_replicate]; omega) | (simp; omega))) rfl ?_
    refine sq_v rfl (v_assign rfl) rfl ?_
    refine sq_end ?_
    refine qs_n ?_
    refine wp_sc ?_
    refine wp_sq ?_
    refine sq_v rfl (v_move rfl) rfl ?_
    refine sq_v rfl (v_nilCheck rfl) rfl ?_
    refine sq_v rfl (v_fieldAddr fd_216_1 ty_24 (by decide) rfl) rfl ?_
    refine sq_v rfl (v_load 2 ty_24 rfl rfl r.c100) rfl ?_
    refine sq_v rfl (v_move rfl) rfl ?_
    refine sq_u rfl (x_callv rfl en_212 (fun w s => ct_i_hasInt _ _ _ w (ro.mono (s.get 2 rfl)))) rfl ?_
    refine sq_v rfl (v_assign rfl) rfl ?_
    refine sq_end ?_
    refine qs_n ?_
    refine wp_sc ?_
    refine wp_sc ?_
    refine wp_sq ?_
    refine sq_v rfl (v_move rfl) rfl ?_
    refine sq_v rfl (v_nilCheck rfl) rfl ?_
    refine sq_v rfl (v_fieldAddr fd_216_2 ty_214 (by decide) rfl) rfl ?_
    refine sq_v rfl (v_load 2 ty_214 rfl rfl r.c101) rfl ?_
    refine sq_v rfl (v_len Try.underlying214 rfl rl.sl) rfl ?_
    refine sq_v rfl (v_move rfl) rfl ?_
    refine sq_end ?_
    refine qs_n ?_
    refine wp_bl ?_
    refine wp_lp (σ := Nat × Bool) (fun z_ => [(0, .pointer (some ⟨bb, 0, none⟩)), (1, num p), (2, num q), (6, .slice none 0 0), (7, ov), (9, num ((joinI x18.l x26.l).getD i 0)), (10, .bool z_.2), (29, v29), (30, num (joinI x18.l x26.l).length), (31, num i), (32, .bool (decide ((i : Int) < (joinI x18.l x26.l).length))), (34, num ((joinI x18.l x26.l).getD i 0)), (35, .pointer (some ⟨bb, 0, none⟩)), (36, .pointer (some ⟨bb, 0, none⟩)), (37, .pointer (some ⟨bb, 100, none⟩)), (38, vo), (39, num ((joinI x18.l x26.l).getD i 0)), (40, .bool (decide (((joinI x18.l x26.l).getD i 0) ∈ op))), (41, .pointer (some ⟨bb, 0, none⟩)), (42, .pointer (some ⟨bb, 0, none⟩)), (43, .pointer (some ⟨bb, 101, none⟩)), (44, lvv), (45, num s.lv.length), (46, num z_.1)]) (fun z_ => [oh, h29, hp w]) (fun z_ => z_.1 ≤ s.lv.length ∧ (z_.2 = true ↔ keptTo op s.lv p q z_.1 ((joinI x18.l x26.l).getD i 0))) (fun z_ => s.lv.length - z_.1) (0, decide ((joinI x18.l x26.l).getD i 0 ∈ op)) (⟨by (try dsimp only); omega, by (try dsimp only); simp [keptTo]⟩) ⟨rfl, rfl, rfl, rfl, rfl, rfl, (by first | rfl | exact ksub rfl (by first | omega | (simp; done) | (simp; omega))), rfl, rfl, rfl, rfl, rfl, rfl, rfl, rfl, rfl, rfl, rfl, rfl, rfl, rfl, rfl, rfl, (by first | rfl | exact ksub rfl (by first | omega | (simp; done) | (simp; omega))), trivial⟩ (fun _ s => s) ?_
    rintro ⟨j, kb⟩ ⟨hj, hk⟩
    dsimp only at hj hk ⊢
    have hpn : ∀ z : Nat, (z : Int) = p → z = p.toNat := fun z h => by omega
    refine wp_sc ?_
    refine wp_sq ?_
    refine sq_v rfl (v_lss rfl rfl) rfl ?_
    refine sq_end ?_
    refine qs_n ?_
    refine wp_sc ?_
    refine wp_cd rfl (fun c47 => ?_) (fun c47 => ?_)
    · refine wp_sk ?_
      refine qs_n ?_
      refine wp_sc ?_
      refine wp_bl ?_
      refine wp_sc ?_
      refine wp_sq ?_
      refine sq_v rfl (v_move rfl) rfl ?_
      obtain ⟨x49, a49, hx49, hcs49, rl49⟩ := hc_rl (j) (by first | omega | (rw [List.length_set]; omega))
      refine sq_v rfl (v_indexAddr Try.underlying214 ty_213 rfl rfl rr_rl (by decide) (by omega) (by omega)) rfl ?_
      refine sq_v rfl (v_loadNE 2 ty_213 rfl rfl rr_rl (by have := rr_rl.1; omega) rfl hcs49) rfl ?_
      refine sq_x rfl (x_alloc ty_213 rfl) rfl ?_; rintro _ _ ⟨b12, rfl, rfl⟩
      refine sq_v rfl (v_assign rfl) rfl ?_
      refine sq_m 0 rfl rfl (m_store 0 ty_213 rfl rfl rfl rfl (by simp [one_int, rl49.sl.one]) rfl (Nat.le_of_ble_eq_true rfl)) rfl ?_; rintro _ _ ⟨rfl, rfl⟩
      refine sq_end ?_
      refine qs_n ?_
      refine wp_sc ?_
      refine wp_sq ?_
      refine sq_v rfl (v_move rfl) rfl ?_
      refine sq_v rfl (v_move rfl) rfl ?_
      refine sq_v rfl (v_neq rfl rfl) rfl ?_
      refine sq_bd 53 rfl (fun c53 => ?_) (fun c53 => ?_)
      · refine sq_v rfl (v_move rfl) rfl ?_
        refine sq_v rfl (v_move rfl) rfl ?_
        refine sq_v rfl (v_move rfl) rfl ?_
        refine sq_v rfl (v_neq rfl rfl) rfl ?_
        refine sq_v rfl (v_pickt rfl rfl) rfl ?_
        refine sq_bd 58 rfl (fun c58 => ?_) (fun c58 => ?_)
        · refine sq_v rfl (v_move rfl) rfl ?_
          refine sq_v rfl (v_fieldAddr fd_213_1 ty_24 (by decide) rfl) rfl ?_
          refine sq_v rfl (v_loadB 0 ty_24 rfl rfl rfl) rfl ?_
          refine sq_v rfl (v_move rfl) rfl ?_
          refine sq_u rfl (x_callv rfl en_212 (fun w s => ct_i_hasInt _ _ _ w (rl49.mono (s.get 3 rfl)))) rfl ?_
          refine sq_v rfl (v_pickt rfl rfl) rfl ?_
          refine sq_end ?_
          refine qs_n ?_
          refine wp_cd rfl (fun c64 => ?_) (fun c64 => ?_)
          · refine wp_sq ?_
            refine sq_v rfl (v_assign rfl) rfl ?_
            refine sq_end ?_
            refine qs_bn ?_
            refine qs_n ?_
            refine wp_sq ?_
            refine sq_v rfl (v_add rfl rfl ((by unfold I64; omega))) rfl ?_
            refine sq_v rfl (v_move rfl) rfl ?_
            refine sq_end ?_
            exact qs_bk (j + 1, true) ⟨by (try dsimp only); omega, by (try dsimp only); simp only [true_iff]; exact keptTo_yes hx49 (by omega) (by omega) (by simpa using c64)⟩ (by simp only; omega) ⟨rfl, rfl, rfl, rfl, rfl, rfl, (by first | rfl | exact ksub rfl (by first | omega | (simp; done) | (simp; omega))), rfl, rfl, rfl, rfl, rfl, rfl, rfl, rfl, rfl, rfl, rfl, rfl, rfl, rfl, rfl, rfl, (by first | rfl | exact ksub rfl (by first | omega | (simp; done) | (simp; omega))), trivial⟩ (fun _ s => s.pick [1, 2, 3] (by decide) rfl)
          · refine wp_sk ?_
            refine qs_bn ?_
            refine qs_n ?_
            refine wp_sq ?_
            refine sq_v rfl (v_add rfl rfl ((by unfold I64; omega))) rfl ?_
            refine sq_v rfl (v_move rfl) rfl ?_
            refine sq_end ?_
            exact qs_bk (j + 1, kb) ⟨by (try dsimp only); omega, by (try dsimp only); rw [keptTo_no hx49 (.inr (.inr (by simpa using c64)))]; exact hk⟩ (by simp only; omega) ⟨rfl, rfl, rfl, rfl, rfl, rfl, (by first | rfl | exact ksub rfl (by first | omega | (simp; done) | (simp; omega))), rfl, rfl, rfl, rfl, rfl, rfl, rfl, rfl, rfl, rfl, rfl, rfl, rfl, rfl, rfl, rfl, (by first | rfl | exact ksub rfl (by first | omega | (simp; done) | (simp; omega))), trivial⟩ (fun _ s => s.pick [1, 2, 3] (by decide) rfl)
        · refine sq_v rfl (v_move rfl) rfl ?_
          refine sq_s rfl rfl ?_
          refine sq_s rfl rfl ?_
          refine sq_s rfl rfl ?_
          refine sq_s rfl rfl ?_
          refine sq_v rfl (v_pickf rfl rfl) rfl ?_
          refine sq_end ?_
          refine qs_n ?_
          refine wp_cf rfl ?_
          refine wp_sk ?_
          refine qs_bn ?_
          refine qs_n ?_
          refine wp_sq ?_
          refine sq_v rfl (v_add rfl rfl ((by unfold I64; omega))) rfl ?_
          refine sq_v rfl (v_move rfl) rfl ?_
          refine sq_end ?_
          exact qs_bk (j + 1, kb) ⟨by (try dsimp only); omega, by (try dsimp only); rw [keptTo_no hx49 (.inr (.inl (by omega)))]; exact hk⟩ (by simp only; omega) ⟨rfl, rfl, rfl, rfl, rfl, rfl, (by first | rfl | exact ksub rfl (by first | omega | (simp; done) | (simp; omega))), rfl, rfl, rfl, rfl, rfl, rfl, rfl, rfl, rfl, rfl, rfl, rfl, rfl, rfl, rfl, rfl, (by first | rfl | exact ksub rfl (by first | omega | (simp; done) | (simp; omega))), trivial⟩ (fun _ s => s.pick [1, 2, 3] (by decide) rfl)
      · refine sq_v rfl (v_move rfl) rfl ?_
        refine sq_s rfl rfl ?_
        refine sq_s rfl rfl ?_
        refine sq_s rfl rfl ?_
        refine sq_v rfl (v_pickf rfl rfl) rfl ?_
        refine sq_v rfl (v_move rfl) rfl ?_
        refine sq_s rfl rfl ?_
        refine sq_s rfl rfl ?_
        refine sq_s rfl rfl ?_
        refine sq_s rfl rfl ?_
        refine sq_v rfl (v_pickf rfl rfl) rfl ?_
        refine sq_end ?_
        refine qs_n ?_
        refine wp_cf rfl ?_
        refine wp_sk ?_
        refine qs_bn ?_
        refine qs_n ?_
        refine wp_sq ?_
        refine sq_v rfl (v_add rfl rfl ((by unfold I64; omega))) rfl ?_
        refine sq_v rfl (v_move rfl) rfl ?_
        refine sq_end ?_
        exact qs_bk (j + 1, kb) ⟨by (try dsimp only); omega, by (try dsimp only); rw [keptTo_no hx49 (.inl (by omega))]; exact hk⟩ (by simp only; omega) ⟨rfl, rfl, rfl, rfl, rfl, rfl, (by first | rfl | exact ksub rfl (by first | omega | (simp; done) | (simp; omega))), rfl, rfl, rfl, rfl, rfl, rfl, rfl, rfl, rfl, rfl, rfl, rfl, rfl, rfl, rfl, rfl, (by first | rfl | exact ksub rfl (by first | omega | (simp; done) | (simp; omega))), trivial⟩ (fun _ s => s.pick [1, 2, 3] (by decide) rfl)
    · refine wp_ex ?_
      refine qs_x ?_
      refine qs_x ?_
      refine qs_bx ?_
      refine qs_n ?_
      refine wp_sc ?_
      refine wp_sq ?_
      rw [show j = s.lv.length by omega, keptTo_end h0 h1 hpa hqb] at hk
      refine sq_v rfl (v_move rfl) rfl ?_
      refine sq_end ?_
      refine qs_n ?_
      refine wp_cb _ rfl (fun c66 => ?_) (fun c66 => ?_)
      · refine wp_sq ?_
        refine sq_v rfl (v_move rfl) rfl ?_
        refine sq_v rfl (v_move rfl) rfl ?_
        refine sq_x rfl (x_buildS [num ((joinI x18.l x26.l).getD i 0)] Try.underlying24 ty_3 (by decide) rfl rfl rfl (by decide) (by decide) (by intro v hv; simp at hv; rcases hv with rfl <;> rfl)) rfl ?_; intro v69 h69 (r69 : IntsO [(joinI x18.l x26.l).getD i 0] v69 h69)
        refine sq_m 1 rfl rfl (m_appI 1 0 Try.underlying24 ty_3 rfl rfl rfl rfl q' rfl r69.toR (by first | omega | (simp only [List.length_cons, List.length_nil]; omega) | (simp only [List.length_append, List.length_cons, List.length_nil]; omega) | (rw [List.length_set]; omega) | (rw [List.length_replicate]; omega) | (simp; omega))) rfl ?_; intro v70 h_r70 r70
        refine sq_v rfl (v_assign rfl) rfl ?_
        refine sq_end ?_
        refine qs_bn ?_
        refine qs_n ?_
        refine wp_sq ?_
        refine sq_v rfl (v_add rfl rfl ((by unfold I64; omega))) rfl ?_
        refine sq_v rfl (v_move rfl) rfl ?_
        refine sq_end ?_
        exact qs_bk (i + 1, v70, h_r70) ⟨by (try dsimp only); omega, by (try dsimp only); rw [filter_yes (by omega) (by simpa using hk.1 c66)]; exact r70⟩ (by simp only; omega) ⟨rfl, rfl, rfl, rfl, (by first | rfl | exact ksub rfl (by first | omega | (simp; done) | (simp; omega))), rfl, rfl, (by first | rfl | exact ksub rfl (by first | omega | (simp; done) | (simp; omega))), trivial⟩ (fun _ s => s.pick [1, 2, 3] (by decide) rfl)
      · refine wp_sk ?_
        refine qs_bn ?_
        refine qs_n ?_
        refine wp_sq ?_
        refine sq_v rfl (v_add rfl rfl ((by unfold I64; omega))) rfl ?_
        refine sq_v rfl (v_move rfl) rfl ?_
        refine sq_end ?_
        exact qs_bk (i + 1, ov, oh) ⟨by (try dsimp only); omega, by (try dsimp only); rw [filter_no (by omega) (by simp only [decide_eq_false_iff_not]; intro h; rw [hk.2 h] at c66; cases c66)]; exact q'⟩ (by simp only; omega) ⟨rfl, rfl, rfl, rfl, (by first | rfl | exact ksub rfl (by first | omega | (simp; done) | (simp; omega))), rfl, rfl, (by first | rfl | exact ksub rfl (by first | omega | (simp; done) | (simp; omega))), trivial⟩ (fun _ s => s)
  · refine wp_ex ?_
    refine qs_x ?_
    refine qs_x ?_
    refine qs_bx ?_
    refine qs_n ?_
    refine wp_sc ?_
    refine wp_sq ?_
    refine sq_v rfl (v_move rfl) rfl ?_
    refine sq_v rfl (v_assign rfl) rfl ?_
    refine sq_end ?_
    refine qs_n ?_
    refine wp_rt ?_
    exact qs_ret1 rfl rfl (fin_t 0 (i := 2) rfl rfl rfl (by rw [List.take_of_length_le (by omega), l18, l26] at q'; exact q'))
end Go.Proofs.Ytikeobneipjfnaa
