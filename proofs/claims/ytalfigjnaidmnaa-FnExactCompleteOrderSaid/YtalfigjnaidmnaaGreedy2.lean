/-
  The reference's pairs and gains.
  Conditions: none.
-/
import Derived.Test.YtalfigjnaidmnaaGreedy
namespace Go.Proofs.Ytalfigjnaidmnaa
set_option maxRecDepth 100000
open Go.RowKit
theorem ct_s_l19Size (ls ds xs : List Int) (a b c : Value) (w : World) (r1 : IntsR ls a (hp w)) (r2 : IntsR ds b (hp w)) (r3 : IntsR xs c (hp w)) (hd : dimsIn ds) : Calls Try.prog 175 [tenV a b c].toArray w (RetV w (num (min (prodI ds) 1000000000))) := by
  refine calls_in Try.func175 rfl Try.ntmps175 rfl (Sat.start w) ?_
  have hle0 := r1.le
  have hle1 := r2.le
  have hle2 := r3.le
  refine wp_sc ?_
  refine wp_sq ?_
  refine sq_x rfl (x_box rfl rfl) rfl ?_; rintro _ _ ⟨b1, rfl, rfl⟩
  refine sq_v rfl (v_assign rfl) rfl ?_
  refine sq_end ?_
  refine qs_n ?_
  refine wp_sc ?_
  refine wp_sq ?_
  refine sq_v rfl (v_fieldAddr fd_52_1 ty_25 (by decide) rfl) rfl ?_
  refine sq_v rfl (v_loadB 0 ty_25 rfl rfl rfl) rfl ?_
  refine sq_u rfl (x_callv rfl en_169 (fun w s => ct_s_l05Product _ _ _ w (r2.mono (s.get 1 rfl)) (by first | assumption | omega) (by first | assumption | omega))) rfl ?_
  refine sq_v rfl (v_min rfl rfl) rfl ?_
  refine sq_v rfl (v_assign rfl) rfl ?_
  refine sq_end ?_
  refine qs_n ?_
  refine wp_rt ?_
  exact qs_ret1 rfl rfl (fin_q (i := 1) rfl (by congr 1; omega))
/-! ### pairs, one behind the other -/
def stpsOf (l : List (Nat × Nat)) : List Stp := l.map fun x => ⟨x.1, x.2⟩
def rowTo (N i j : Nat) : List (Nat × Nat) := pairsTo (List.range N) i ++ (List.range' (i + 1) (j - (i + 1))).map fun b => (i, b)
theorem rowTo_start (N i : Nat) : rowTo N i (i + 1) = pairsTo (List.range N) i := by simp [rowTo]
theorem rowTo_step {N i j : Nat} (h : i + 1 ≤ j) : rowTo N i (j + 1) = rowTo N i j ++ [(i, j)] := by
  rw [rowTo, show j + 1 - (i + 1) = (j - (i + 1)) + 1 by omega, List.range'_concat, List.map_append, ← List.append_assoc]
  rw [rowTo]
  simp
  omega
theorem rowTo_end {N i : Nat} (h : i < N) : rowTo N i N = pairsTo (List.range N) (i + 1) := by
  rw [pairsTo, rowTo]
  congr 1
  have e1 : (List.range N).drop (i + 1) = List.range' (i + 1) (N - (i + 1)) := by
    apply List.ext_getElem (by simp)
    intro j h1 h2
    simp
  have e2 : (List.range N).getD i 0 = i := by simp [List.getD, h]
  rw [e1, e2]
def liveP (s : Sh) (x : Nat × Nat) : Bool := !s.gone.getD x.1 false && !s.gone.getD x.2 false
theorem pairs_live (s : Sh) : (pairsTo (List.range s.all.length) s.all.length).filter (liveP s) = pairsL s.ixs := by
  have := pairsTo_end (List.range s.all.length)
  rw [List.length_range] at this
  rw [this, Sh.ixs, pairs_filter]
  rfl
theorem row_yes {s : Sh} {N i j : Nat} (h : i + 1 ≤ j) (h1 : s.gone.getD i false = false) (h2 : s.gone.getD j false = false) : stpsOf ((rowTo N i (j + 1)).filter (liveP s)) = stpsOf ((rowTo N i j).filter (liveP s)) ++ [⟨i, j⟩] := by
  rw [rowTo_step h, List.filter_append, List.filter_cons_of_pos (by simp only [liveP, h1, h2]; rfl)]
  simp [stpsOf]
theorem row_no {s : Sh} {N i j : Nat} (h : i + 1 ≤ j) (h1 : ¬ (s.gone.getD i false = false ∧ s.gone.getD j false = false)) : stpsOf ((rowTo N i (j + 1)).filter (liveP s)) = stpsOf ((rowTo N i j).filter (liveP s)) := by
  have : ([(i, j)] : List (Nat × Nat)).filter (liveP s) = [] := by
    rw [List.filter_eq_nil_iff]
    intro x hx
    simp at hx; subst hx
    simp only [liveP]
    revert h1
    cases s.gone.getD i false <;> cases s.gone.getD j false <;> simp
  rw [rowTo_step h, List.filter_append, this, List.append_nil]
theorem stps_len (l : List (Nat × Nat)) : (stpsOf l).length = l.length := List.length_map _
theorem row_few (s : Sh) (N i j : Nat) (hi : i ≤ N) (hj : j ≤ N) (hn : N ≤ 1000) : (stpsOf ((rowTo N i j).filter (liveP s))).length ≤ 1001000 := by
  have hp : ∀ i, i ≤ N → (pairsTo (List.range N) i).length ≤ i * N := by
    intro i
    induction i with
    | zero => intro _; simp [pairsTo]
    | succ i ih =>
      intro hi
      have := ih (by omega)
      rw [pairsTo, List.length_append, List.length_map, List.length_drop, List.length_range, Nat.succ_mul]
      omega
  have h1 := List.length_filter_le (liveP s) (rowTo N i j)
  have h2 := hp i hi
  have h3 : i * N ≤ 1000 * 1000 := Nat.mul_le_mul (by omega) hn
  rw [stps_len]
  have h4 : (rowTo N i j).length ≤ i * N + N := by
    rw [rowTo, List.length_append, List.length_map, List.length_range']
    omega
  omega
set_option maxHeartbeats 1000000 in
theorem ct_s_l19Pairs (f : Int → Int) (sh : Sh) (va vg : Value) (bb : Nat) (w : World) (r : SpR f sh va vg bb (hp w)) (hall : sh.all.length ≤ 1000) :
    Calls Try.prog 117 [.pointer (some ⟨bb, 0, none⟩)].toArray w (Ret w emp (StepsO (stpsOf (pairsL sh.ixs)))) := by
  have ra := r.all
  have rg := r.gone
  have hln := shTens_len f sh
  have hgl : sh.gone.length = sh.all.length := r.ok
  refine calls_in Try.func117 rfl Try.ntmps117 rfl (Sat.start w) ?_
  have hle0 := ra.le
  obtain ⟨cs_ra, rr_ra, hc_ra⟩ := ra.at
  have hle1 := rg.le
  refine wp_sc ?_
  refine wp_sq ?_
  refine sq_v rfl (v_assign rfl) rfl ?_
  refine sq_end ?_
  refine qs_n ?_
  refine wp_sc ?_
  refine wp_sq ?_
  refine sq_x rfl (x_build0 Try.underlying44 ty_107) rfl ?_; intro v6 h6 r6
  refine sq_v rfl (v_assign rfl) rfl ?_
  refine sq_end ?_
  refine qs_n ?_
  refine wp_sc ?_
  refine wp_sc ?_
  refine wp_sq ?_
  refine sq_v rfl (v_move rfl) rfl ?_
  refine sq_v rfl (v_nilCheck rfl) rfl ?_
  refine sq_v rfl (v_fieldAddr fd_105_0 ty_31 (by decide) rfl) rfl ?_
  refine sq_v rfl (v_load 1 ty_31 rfl rfl r.c0) rfl ?_
  refine sq_v rfl (v_len Try.underlying31 rfl ra.sl) rfl ?_
  refine sq_v rfl (v_move rfl) rfl ?_
  refine sq_end ?_
  refine qs_n ?_
  refine wp_bl ?_
  refine wp_lp (σ := Nat × Value × PH) (fun z_ => [(0, .pointer (some ⟨bb, 0, none⟩)), (2, .slice none 0 0), (3, z_.2.1), (11, num (shTens f sh).length), (12, num z_.1)]) (fun z_ => [z_.2.2, hp w]) (fun z_ => z_.1 ≤ sh.all.length ∧ StepsO (stpsOf ((pairsTo (List.range sh.all.length) z_.1).filter (liveP sh))) z_.2.1 z_.2.2) (fun z_ => sh.all.length - z_.1) (0, v6, h6) (⟨by (try dsimp only); omega, r6⟩) ⟨rfl, rfl, (by first | rfl | exact ksub rfl (by first | omega | (simp; done) | (simp; omega))), rfl, (by first | rfl | exact ksub rfl (by first | omega | (simp; done) | (simp; omega))), trivial⟩ (fun _ s => s) ?_
  rintro ⟨i, ov, oh⟩ ⟨hi, q⟩
  dsimp only at hi q ⊢
  obtain ⟨cs_q, rr_q, hc_q⟩ := q.toR.at
  have hle_q := q.toR.le
  refine wp_sc ?_
  refine wp_sq ?_
  refine sq_v rfl (v_lss rfl rfl) rfl ?_
  refine sq_end ?_
  refine qs_n ?_
  refine wp_sc ?_
  refine wp_cd rfl (fun c13 => ?_) (fun c13 => ?_)
  · refine wp_sk ?_
    refine qs_n ?_
    refine wp_sc ?_
    refine wp_bl ?_
    refine wp_sc ?_
    refine wp_sq ?_
    refine sq_v rfl (v_move rfl) rfl ?_
    refine sq_v rfl (v_assign rfl) rfl ?_
    refine sq_end ?_
    refine qs_n ?_
    refine wp_sc ?_
    refine wp_sq ?_
    refine sq_v rfl (v_move rfl) rfl ?_
    refine sq_v rfl (v_add rfl rfl ((by unfold I64; omega))) rfl ?_
    refine sq_v rfl (v_assign rfl) rfl ?_
    refine sq_end ?_
    refine qs_n ?_
    refine wp_bl ?_
    refine wp_lp (σ := Nat × Value × PH) (fun z_ => [(0, .pointer (some ⟨bb, 0, none⟩)), (2, .slice none 0 0), (3, z_.2.1), (4, num i), (5, num z_.1), (11, num (shTens f sh).length), (12, num i), (13, .bool (decide ((i : Int) < (shTens f sh).length))), (14, num i), (15, num i), (16, num (i + 1))]) (fun z_ => [z_.2.2, hp w]) (fun z_ => (i + 1 ≤ z_.1 ∧ z_.1 ≤ sh.all.length) ∧ StepsO (stpsOf ((rowTo sh.all.length i z_.1).filter (liveP sh))) z_.2.1 z_.2.2) (fun z_ => sh.all.length - z_.1) (i + 1, ov, oh) (⟨by (try dsimp only); omega, by (try dsimp only); rw [rowTo_start]; exact q⟩) ⟨rfl, rfl, (by first | rfl | exact ksub rfl (by first | omega | (simp; done) | (simp; omega))), rfl, (by first | rfl | exact ksub rfl (by first | omega | (simp; done) | (simp; omega))), rfl, rfl, rfl, rfl, rfl, rfl, trivial⟩ (fun _ s => s) ?_
    rintro ⟨j, ov2, oh2⟩ ⟨hj, q2⟩
    dsimp only at hj q2 ⊢
    obtain ⟨cs_q2, rr_q2, hc_q2⟩ := q2.toR.at
    have hle_q2 := q2.toR.le
    have hrf := row_few sh sh.all.length i j hi hj.2 hall
    refine wp_sc ?_
    refine wp_sc ?_
    refine wp_sq ?_
    refine sq_v rfl (v_move rfl) rfl ?_
    refine sq_v rfl (v_move rfl) rfl ?_
    refine sq_v rfl (v_nilCheck rfl) rfl ?_
    refine sq_v rfl (v_fieldAddr fd_105_0 ty_31 (by decide) rfl) rfl ?_
    refine sq_v rfl (v_load 1 ty_31 rfl rfl r.c0) rfl ?_
    refine sq_v rfl (v_len Try.underlying31 rfl ra.sl) rfl ?_
    refine sq_v rfl (v_lss rfl rfl) rfl ?_
    refine sq_end ?_
    refine qs_n ?_
    refine wp_cd rfl (fun c23 => ?_) (fun c23 => ?_)
    · refine wp_sk ?_
      refine qs_n ?_
      refine wp_sc ?_
      refine wp_bl ?_
      refine wp_sc ?_
      refine wp_sq ?_
      refine sq_v rfl (v_move rfl) rfl ?_
      refine sq_v rfl (v_nilCheck rfl) rfl ?_
      refine sq_v rfl (v_fieldAddr fd_105_1 ty_103 (by decide) rfl) rfl ?_
      refine sq_v rfl (v_load 1 ty_103 rfl rfl r.c1) rfl ?_
      refine sq_v rfl (v_move rfl) rfl ?_
      refine sq_v rfl (v_idxB Try.underlying103 ty_4 rfl rfl rg (by first | omega | (simp only [List.length_cons, List.length_nil]; omega) | (simp only [List.length_append, List.length_cons, List.length_nil]; omega) | (rw [List.length_set]; omega) | (rw [List.length_replicate]; omega) | (simp; omega)) (by first | omega | (simp only [List.length_cons, List.length_nil]; omega) | (simp only [List.length_append, List.length_cons, List.length_nil]; omega) | (rw [List.length_set]; omega) | (rw [List.length_replicate]; omega) | (simp; omega))) rfl ?_
      refine sq_v rfl (v_loadBl (k := i) 1 ty_4 rfl rfl rg (by first | omega | (simp only [List.length_cons, List.length_nil]; omega) | (simp only [List.length_append, List.length_cons, List.length_nil]; omega) | (rw [List.length_set]; omega) | (rw [List.length_replicate]; omega) | (simp; omega))) rfl ?_
      refine sq_bb 32 rfl (fun c32 => ?_) (fun c32 => ?_)
      · refine sq_v rfl (v_not rfl) rfl ?_
        refine sq_v rfl (v_move rfl) rfl ?_
        refine sq_s rfl rfl ?_
        refine sq_s rfl rfl ?_
        refine sq_s rfl rfl ?_
        refine sq_s rfl rfl ?_
        refine sq_s rfl rfl ?_
        refine sq_s rfl rfl ?_
        refine sq_s rfl rfl ?_
        refine sq_s rfl rfl ?_
        refine sq_v rfl (v_pickf rfl rfl) rfl ?_
        refine sq_end ?_
        refine qs_n ?_
        refine wp_cf rfl ?_
        refine wp_sk ?_
        refine qs_bn ?_
        refine qs_n ?_
        refine wp_sq ?_
        refine sq_v rfl (v_move rfl) rfl ?_
        refine sq_v rfl (v_add rfl rfl ((by unfold I64; omega))) rfl ?_
        refine sq_v rfl (v_assign rfl) rfl ?_
        refine sq_end ?_
        exact qs_bk (j + 1, ov2, oh2) ⟨by (try dsimp only); omega, by (try dsimp only); rw [row_no hj.1 (fun h => by rw [c32] at h; exact absurd h.1 (by decide))]; exact q2⟩ (by simp only; omega) ⟨rfl, rfl, (by first | rfl | exact ksub rfl (by first | omega | (simp; done) | (simp; omega))), rfl, (by first | rfl | exact ksub rfl (by first | omega | (simp; done) | (simp; omega))), rfl, rfl, rfl, rfl, rfl, rfl, trivial⟩ (fun _ s => s)
      · refine sq_v rfl (v_not rfl) rfl ?_
        refine sq_v rfl (v_move rfl) rfl ?_
        refine sq_v rfl (v_move rfl) rfl ?_
        refine sq_v rfl (v_nilCheck rfl) rfl ?_
        refine sq_v rfl (v_fieldAddr fd_105_1 ty_103 (by decide) rfl) rfl ?_
        refine sq_v rfl (v_load 1 ty_103 rfl rfl r.c1) rfl ?_
        refine sq_v rfl (v_move rfl) rfl ?_
        refine sq_v rfl (v_idxB Try.underlying103 ty_4 rfl rfl rg (by first | omega | (simp only [List.length_cons, List.length_nil]; omega) | (simp only [List.length_append, List.length_cons, List.length_nil]; omega) | (rw [List.length_set]; omega) | (rw [List.length_replicate]; omega) | (simp; omega)) (by first | omega | (simp only [List.length_cons, List.length_nil]; omega) | (simp only [List.length_append, List.length_cons, List.length_nil]; omega) | (rw [List.length_set]; omega) | (rw [List.length_replicate]; omega) | (simp; omega))) rfl ?_
        refine sq_v rfl (v_loadBl (k := j) 1 ty_4 rfl rfl rg (by first | omega | (simp only [List.length_cons, List.length_nil]; omega) | (simp only [List.length_append, List.length_cons, List.length_nil]; omega) | (rw [List.length_set]; omega) | (rw [List.length_replicate]; omega) | (simp; omega))) rfl ?_
        refine sq_v rfl (v_not rfl) rfl ?_
        refine sq_v rfl (v_pickt rfl rfl) rfl ?_
        refine sq_end ?_
        refine qs_n ?_
        refine wp_cn _ rfl (fun c43 => ?_) (fun c43 => ?_)
        · refine wp_sq ?_
          refine sq_v rfl (v_move rfl) rfl ?_
          refine sq_v rfl (v_move rfl) rfl ?_
          refine sq_v rfl (v_move rfl) rfl ?_
          refine sq_v rfl (v_build [num i, num j] rfl (by kernel_rfl)) rfl ?_
          refine sq_x rfl (x_buildS [.agg [num i, num j].toArray] Try.underlying44 ty_107 (by decide) rfl rfl rfl (by decide) (by decide) (by intro v hv; simp at hv; subst hv; rfl)) rfl ?_; intro v48 h48 (r48 : RowO 107 [num i, num j] 1 2 v48 h48)
          refine sq_m 1 rfl rfl (m_appS (ss := (stpsOf ((rowTo sh.all.length i j).filter (liveP sh)))) (us := ([⟨i, j⟩] : List Stp)) 1 0 Try.underlying44 ty_107 rfl rfl rfl rfl q2 rfl r48.toR (by first | omega | (simp only [List.length_cons, List.length_nil]; omega) | (simp only [List.length_append, List.length_cons, List.length_nil]; omega) | (rw [List.length_set]; omega) | (rw [List.length_replicate]; omega) | (simp; omega))) rfl ?_; intro v49 h_r49 r49
          obtain ⟨cs_S_49, rr_S_49, hc_S_49⟩ := r49.toR.at
          refine sq_v rfl (v_assign rfl) rfl ?_
          refine sq_end ?_
          refine qs_bn ?_
          refine qs_n ?_
          refine wp_sq ?_
          refine sq_v rfl (v_move rfl) rfl ?_
          refine sq_v rfl (v_add rfl rfl ((by unfold I64; omega))) rfl ?_
          refine sq_v rfl (v_assign rfl) rfl ?_
          refine sq_end ?_
          exact qs_bk (j + 1, v49, h_r49) ⟨by (try dsimp only); omega, by (try dsimp only); rw [row_yes hj.1 c32 c43]; exact r49⟩ (by simp only; omega) ⟨rfl, rfl, (by first | rfl | exact ksub rfl (by first | omega | (simp; done) | (simp; omega))), rfl, (by first | rfl | exact ksub rfl (by first | omega | (simp; done) | (simp; omega))), rfl, rfl, rfl, rfl, rfl, rfl, trivial⟩ (fun _ s => s.pick [1, 2] (by decide) rfl)
        · refine wp_sk ?_
          refine qs_bn ?_
          refine qs_n ?_
          refine wp_sq ?_
          refine sq_v rfl (v_move rfl) rfl ?_
          refine sq_v rfl (v_add rfl rfl ((by unfold I64; omega))) rfl ?_
          refine sq_v rfl (v_assign rfl) rfl ?_
          refine sq_end ?_
          exact qs_bk (j + 1, ov2, oh2) ⟨by (try dsimp only); omega, by (try dsimp only); rw [row_no hj.1 (fun h => by rw [c43] at h; exact absurd h.2 (by decide))]; exact q2⟩ (by simp only; omega) ⟨rfl, rfl, (by first | rfl | exact ksub rfl (by first | omega | (simp; done) | (simp; omega))), rfl, (by first | rfl | exact ksub rfl (by first | omega | (simp; done) | (simp; omega))), rfl, rfl, rfl, rfl, rfl, rfl, trivial⟩ (fun _ s => s)
    · refine wp_ex ?_
      refine qs_x ?_
      refine qs_x ?_
      refine qs_bx ?_
      refine qs_bn ?_
      refine qs_n ?_
      refine wp_sq ?_
      refine sq_v rfl (v_add rfl rfl ((by unfold I64; omega))) rfl ?_
      refine sq_v rfl (v_move rfl) rfl ?_
      refine sq_end ?_
      exact qs_bk (i + 1, ov2, oh2) ⟨by (try dsimp only); omega, by (try dsimp only); rw [← rowTo_end (by omega)]; rw [show rowTo sh.all.length i sh.all.length = rowTo sh.all.length i j by rw [show sh.all.length = j by omega]]; exact q2⟩ (by simp only; omega) ⟨rfl, rfl, (by first | rfl | exact ksub rfl (by first | omega | (simp; done) | (simp; omega))), rfl, (by first | rfl | exact ksub rfl (by first | omega | (simp; done) | (simp; omega))), trivial⟩ (fun _ s => s)
  · refine wp_ex ?_
    refine qs_x ?_
    refine qs_x ?_
    refine qs_bx ?_
    refine qs_n ?_
    refine wp_sc ?_
    refine wp_sq ?_
    refine sq_v rfl (v_move rfl) rfl ?_
    refine sq_v rfl (v_assign rfl) rfl ?_
    refine sq_end ?_
    refine qs_n ?_
    refine wp_rt ?_
    exact qs_ret1 rfl rfl (fin_t 0 (i := 1) rfl rfl rfl (by rw [← pairs_live]; rw [show pairsTo (List.range sh.all.length) sh.all.length = pairsTo (List.range sh.all.length) i by rw [show sh.all.length = i by omega]]; exact q))
theorem SpR.mono {f : Int → Int} {s : Sh} {va vg : Value} {b : Nat} {h h' : PH} (r : SpR f s va vg b h) (l : PLe h h') : SpR f s va vg b h' := ⟨r.ok, cellP.mono l r.c0, cellP.mono l r.c1, r.all.mono l, r.gone.mono l⟩
set_option maxHeartbeats 2000000 in
theorem ct_s_l19Gain (f : Int → Int) (sh : Sh) (op : List Int) (va vg vo : Value) (bb : Nat) (x y : Int) (w : World) (r : SpR f sh va vg bb (hp w)) (ro : IntsR op vo (hp w)) (hfi : sh.fine) (hfit : ∀ i, ∀ l ∈ sh.lab i, 1 ≤ f l ∧ f l ≤ 8) (hall : sh.all.length ≤ 1000) (hop : op.length ≤ 1048576)
    (hx : 0 ≤ x ∧ x < sh.all.length) (hy : 0 ≤ y ∧ y < sh.all.length) :
    Calls Try.prog 118 [.pointer (some ⟨bb, 0, none⟩), vo, stepV x y].toArray w (RetV w (num (gainP f op sh (x.toNat, y.toNat)))) := by
  have ra := r.all
  have rg := r.gone
  have hln := shTens_len f sh
  have hgl : sh.gone.length = sh.all.length := r.ok
  have hxy : (x.toNat : Int) = x ∧ (y.toNat : Int) = y := by omega
  have hk := res_keep (op := op) (s := sh) (a := x.toNat) (b := y.toNat)
  rw [hxy.1, hxy.2] at hk
  refine calls_in Try.func118 rfl Try.ntmps118 rfl (Sat.start w) ?_
  have hle0 := ro.le
  have hle1 := ra.le
  obtain ⟨cs_ra, rr_ra, hc_ra⟩ := ra.at
  have hle2 := rg.le
  refine wp_sc ?_
  refine wp_sq ?_
  refine sq_x rfl (x_box rfl rfl) rfl ?_; rintro _ _ ⟨b5, rfl, rfl⟩
  refine sq_v rfl (v_assign rfl) rfl ?_
  refine sq_end ?_
  refine qs_n ?_
  refine wp_sc ?_
  refine wp_rj 24 [(0, true), (1, true), (2, true), (3, true), (4, true), (5, true), (6, true), (7, true), (8, true), (9, true), (10, true), (11, true), (12, true), (13, true), (14, true), (15, true), (16, false), (17, true), (18, true), (19, true), (20, true), (21, true), (22, true), (23, true)] mixed_ok (by kernel_rfl) ?_
  refine rj_v rfl rfl (v_move rfl) rfl ?_
  refine rj_v rfl rfl (v_nilCheck rfl) rfl ?_
  refine rj_v rfl rfl (v_fieldAddr fd_105_0 ty_31 (by decide) rfl) rfl ?_
  refine rj_v rfl rfl (v_load 1 ty_31 rfl rfl r.c0) rfl ?_
  refine rj_v rfl rfl (v_fieldAddr fd_107_0 ty_3 (by decide) rfl) rfl ?_
  refine rj_v rfl rfl (v_loadB 0 ty_3 rfl rfl rfl) rfl ?_
  obtain ⟨t18, a18, b18, c18, ht18, hcs18, rl18, rd18, rx18⟩ := hc_ra ((x : Int).toNat) (by first | omega | (rw [List.length_set]; omega))
  refine rj_v rfl rfl (v_indexAddr Try.underlying31 ty_52 rfl rfl rr_ra (by decide) (by omega) (by omega)) rfl ?_
  refine rj_v rfl rfl (v_loadNE 1 ty_52 rfl rfl rr_ra (by have := rr_ra.1; omega) rfl hcs18) rfl ?_
  refine rj_v rfl rfl (v_move rfl) rfl ?_
  refine rj_v rfl rfl (v_nilCheck rfl) rfl ?_
  refine rj_v rfl rfl (v_fieldAddr fd_105_0 ty_31 (by decide) rfl) rfl ?_
  refine rj_v rfl rfl (v_load 1 ty_31 rfl rfl r.c0) rfl ?_
  refine rj_v rfl rfl (v_fieldAddr fd_107_1 ty_3 (by decide) rfl) rfl ?_
  refine rj_v rfl rfl (v_loadB 0 ty_3 rfl rfl rfl) rfl ?_
  obtain ⟨t26, a26, b26, c26, ht26, hcs26, rl26, rd26, rx26⟩ := hc_ra ((y : Int).toNat) (by first | omega | (rw [List.length_set]; omega))
  refine rj_v rfl rfl (v_indexAddr Try.underlying31 ty_52 rfl rfl rr_ra (by decide) (by omega) (by omega)) rfl ?_
  refine rj_v rfl rfl (v_loadNE 1 ty_52 rfl rfl rr_ra (by have := rr_ra.1; omega) rfl hcs26) rfl ?_
  have e18 := shTens_at ht18; have e26 := shTens_at ht26; have l18 : t18.l = sh.lab x.toNat := (by rw [e18]); have l26 : t26.l = sh.lab y.toNat := (by rw [e26]); have hf18 := hfi.few x.toNat; have hf26 := hfi.few y.toNat; have hjl := joinI_len t18.l t26.l; rw [l18, l26] at hjl
  refine rj_x rfl rfl (x_call rfl en_168 (fun w s => ct_u_l08Join f t18 t26 _ _ _ _ _ _ w (rl18.mono (s.get 1 rfl)) (rd18.mono (s.get 1 rfl)) (rl26.mono (s.get 1 rfl)) (rd26.mono (s.get 1 rfl)) (by rw [e18]) (by rw [e26]) (by rw [l26]; exact (hfi.2 _).1) (by rw [l18, l26]; omega))) rfl ?_; rintro _ h28 ⟨v1, v2, rfl, rj1, rj2⟩
  refine rj_v rfl rfl (v_move rfl) rfl ?_
  refine rj_v rfl rfl (v_extract rfl rfl) rfl ?_
  refine rj_v rfl rfl (v_extract rfl rfl) rfl ?_
  refine rj_v rfl rfl (v_extract rfl rfl) rfl ?_
  refine rj_v rfl rfl (v_assign rfl) rfl ?_
  refine rj_v rfl rfl (v_assign rfl) rfl ?_
  refine rj_v rfl rfl (v_assign rfl) rfl ?_
  refine rj_end ?_
  refine qs_n ?_
  refine wp_sc ?_
  refine wp_sq ?_
  refine sq_v rfl (v_move rfl) rfl ?_
  refine sq_v rfl (v_move rfl) rfl ?_
  refine sq_v rfl (v_move rfl) rfl ?_
  refine sq_v rfl (v_move rfl) rfl ?_
  refine sq_v rfl (v_fieldAddr fd_107_0 ty_3 (by decide) rfl) rfl ?_
  refine sq_v rfl (v_loadB 1 ty_3 rfl rfl rfl) rfl ?_
  refine sq_v rfl (v_fieldAddr fd_107_1 ty_3 (by decide) rfl) rfl ?_
  refine sq_v rfl (v_loadB 1 ty_3 rfl rfl rfl) rfl ?_
  refine sq_x rfl (x_call rfl en_174 (fun w s => ct_s_l17Keep f sh _ _ _ _ _ _ _ w (r.mono (s.get 2 rfl)) (ro.mono (s.get 2 rfl)) (by first | assumption | omega) (by omega) hop)) rfl ?_; rintro v40 h40 r40
  refine sq_x rfl (x_call rfl en_173 (fun w s => ct_s_l08Keep _ _ _ _ _ _ w (rj1.mono (s.get 1 rfl)) (rj2.mono (s.get 1 rfl)) (r40.toR.mono (s.get 0 rfl)) (by rw [List.length_map]) (by rw [l18, l26]; omega))) rfl ?_; rintro _ h41 ⟨k1, k2, g1, g2, rfl, rk1, rk2, mdk⟩
  refine sq_x rfl (x_alloc ty_52 rfl) rfl ?_; rintro _ _ ⟨b10, rfl, rfl⟩
  refine sq_m 0 rfl rfl (m_store 0 ty_52 rfl rfl rfl rfl (by simp [(rk1.toR.mono (mdk.le g1 (by simp))).sl.one, (rk2.toR.mono (mdk.le g2 (by simp))).sl.one, one_sl]) rfl (Nat.le_of_ble_eq_true rfl)) rfl ?_; rintro _ _ ⟨rfl, rfl⟩
  refine sq_end ?_
  refine qs_n ?_
  refine wp_sc ?_
  refine wp_rj 23 [(0, true), (2, true), (3, true), (4, true), (5, true), (6, true), (7, true), (8, true), (9, true), (12, true), (13, true), (14, true), (15, true), (16, true), (17, true), (18, true), (19, true), (1, false), (10, false), (11, true), (20, false), (21, true), (22, true)] mixed_ok (by kernel_rfl) ?_
  refine rj_v rfl rfl (v_loadNB 0 ty_52 rfl rfl rfl rfl) rfl ?_
  refine rj_v rfl rfl (v_move rfl) rfl ?_
  refine rj_v rfl rfl (v_nilCheck rfl) rfl ?_
  refine rj_v rfl rfl (v_fieldAddr fd_105_0 ty_31 (by decide) rfl) rfl ?_
  refine rj_v rfl rfl (v_load 5 ty_31 rfl rfl r.c0) rfl ?_
  refine rj_v rfl rfl (v_fieldAddr fd_107_0 ty_3 (by decide) rfl) rfl ?_
  refine rj_v rfl rfl (v_loadB 4 ty_3 rfl rfl rfl) rfl ?_
  obtain ⟨t50, a50, b50, c50, ht50, hcs50, rl50, rd50, rx50⟩ := hc_ra ((x : Int).toNat) (by first | omega | (rw [List.length_set]; omega))
  refine rj_v rfl rfl (v_indexAddr Try.underlying31 ty_52 rfl rfl rr_ra (by decide) (by omega) (by omega)) rfl ?_
  refine rj_v rfl rfl (v_loadNE 5 ty_52 rfl rfl rr_ra (by have := rr_ra.1; omega) rfl hcs50) rfl ?_
  refine rj_v rfl rfl (v_move rfl) rfl ?_
  refine rj_v rfl rfl (v_nilCheck rfl) rfl ?_
  refine rj_v rfl rfl (v_fieldAddr fd_105_0 ty_31 (by decide) rfl) rfl ?_
  refine rj_v rfl rfl (v_load 5 ty_31 rfl rfl r.c0) rfl ?_
  refine rj_v rfl rfl (v_fieldAddr fd_107_1 ty_3 (by decide) rfl) rfl ?_
  refine rj_v rfl rfl (v_loadB 4 ty_3 rfl rfl rfl) rfl ?_
  obtain ⟨t60, a60, b60, c60, ht60, hcs60, rl60, rd60, rx60⟩ := hc_ra ((y : Int).toNat) (by first | omega | (rw [List.length_set]; omega))
  refine rj_v rfl rfl (v_indexAddr Try.underlying31 ty_52 rfl rfl rr_ra (by decide) (by omega) (by omega)) rfl ?_
  refine rj_v rfl rfl (v_loadNE 5 ty_52 rfl rfl rr_ra (by have := rr_ra.1; omega) rfl hcs60) rfl ?_
  have hdK : dimsIn (selP (fun z => decide (z ∈ keepTo op sh x y sh.all.length)) (joinI t18.l t26.l) ((joinI t18.l t26.l).map f)) := (by rw [l18, l26, selP_map, hk]; exact map_dims (fun z hz => (res_mem hz).elim (hfit _ z) (hfit _ z))); have hpK := prodI_one (fun d hd => (dims_mem hdK d hd).1)
  refine rj_u rfl rfl (x_callv rfl en_175 (fun w s => ct_s_l19Size _ _ [] _ _ _ w ((rk1.toR.mono (mdk.le g1 (by simp))).mono (s.get 1 rfl)) ((rk2.toR.mono (mdk.le g2 (by simp))).mono (s.get 1 rfl)) (IntsR.nil _) hdK)) rfl ?_
  have hd50 : dimsIn t50.d := (by rw [shTens_at ht50]; exact map_dims (fun z hz => hfit _ z hz)); have hp50 := prodI_one (fun d hd => (dims_mem hd50 d hd).1)
  refine rj_u rfl rfl (x_callv rfl en_175 (fun w s => ct_s_l19Size _ _ _ _ _ _ w (rl50.mono (s.get 5 rfl)) (rd50.mono (s.get 5 rfl)) (rx50.mono (s.get 5 rfl)) (by first | assumption | omega))) rfl ?_
  refine rj_v rfl rfl (v_sub rfl rfl ((by unfold I64; omega))) rfl ?_
  have hd60 : dimsIn t60.d := (by rw [shTens_at ht60]; exact map_dims (fun z hz => hfit _ z hz)); have hp60 := prodI_one (fun d hd => (dims_mem hd60 d hd).1)
  refine rj_u rfl rfl (x_callv rfl en_175 (fun w s => ct_s_l19Size _ _ _ _ _ _ w (rl60.mono (s.get 5 rfl)) (rd60.mono (s.get 5 rfl)) (rx60.mono (s.get 5 rfl)) (by first | assumption | omega))) rfl ?_
  refine rj_v rfl rfl (v_sub rfl rfl ((by unfold I64; omega))) rfl ?_
  refine rj_v rfl rfl (v_assign rfl) rfl ?_
  refine rj_end ?_
  refine qs_n ?_
  refine wp_rt ?_
  exact qs_ret1 rfl rfl (fin_q (i := 5) rfl (by rw [shTens_at ht50, shTens_at ht60, l18, l26, selP_map, hk]; rfl))
end Go.Proofs.Ytalfigjnaidmnaa
