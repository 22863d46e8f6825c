/-
  The program's completion of an order.
  Conditions: none.
-/
import Derived.Test.YtalfigjnaidmnaaGreedy4
namespace Go.Proofs.Ytalfigjnaidmnaa
set_option maxRecDepth 100000
open Go.RowKit
theorem ct_i_copySteps (ss : List Stp) (v : Value) (w : World) (r : StepsR ss v (hp w)) (hs : ss.length ≤ 1048576) : Calls Try.prog 120 [v].toArray w (Ret w emp (StepsO ss)) := by
  refine calls_in Try.func120 rfl Try.ntmps120 rfl (Sat.start w) ?_
  have hle0 := r.le
  obtain ⟨cs_r, rr_r, hc_r⟩ := r.at
  refine wp_sc ?_
  refine wp_sq ?_
  refine sq_v rfl (v_assign rfl) rfl ?_
  refine sq_end ?_
  refine qs_n ?_
  refine wp_sc ?_
  refine wp_sq ?_
  refine sq_v rfl (v_move rfl) rfl ?_
  refine sq_x rfl (stepx_emp (m_appS (ss := []) (us := ss) 0 (0+1) Try.underlying44 ty_107 rfl rfl rfl rfl StepsO.nil rfl r (by first | omega | (simp only [List.length_cons, List.length_nil]; omega) | (simp only [List.length_append, List.length_cons, List.length_nil]; omega) | (rw [List.length_set]; omega) | (rw [List.length_replicate]; omega) | (simp; omega)))) rfl ?_; intro v4 h4 r4
  obtain ⟨cs_S_4, rr_S_4, hc_S_4⟩ := r4.toR.at
  refine sq_v rfl (v_assign rfl) rfl ?_
  refine sq_end ?_
  refine qs_n ?_
  refine wp_rt ?_
  exact qs_ret1 rfl rfl (fin_t 0 (i := 1) rfl rfl rfl (by simpa using r4))
def bI (g : Nat × Nat → Int) (o : Option (Nat × Nat)) (bi bj bg : Int) : Prop := (o = none → bi = -1) ∧ ∀ x, o = some x → bi = x.1 ∧ bj = x.2 ∧ bg = g x
theorem bI.yes {g : Nat × Nat → Int} {l : List (Nat × Nat)} {bi bj bg : Int} {x : Nat × Nat} (h : bI g (bestP g l) bi bj bg) (c : bi < 0 ∨ g x < bg) : bI g (bestP g (l ++ [x])) x.1 x.2 (g x) := by
  rw [bestP_snoc]
  cases hb : bestP g l with
  | none => exact ⟨fun e => by simp at e, fun y e => by simp at e; subst e; exact ⟨rfl, rfl, rfl⟩⟩
  | some y =>
    have hy := h.2 y hb
    have : g x < g y := by omega
    simp only [this, if_true]
    exact ⟨fun e => by simp at e, fun y e => by simp at e; subst e; exact ⟨rfl, rfl, rfl⟩⟩
theorem bI.no {g : Nat × Nat → Int} {l : List (Nat × Nat)} {bi bj bg : Int} {x : Nat × Nat} (h : bI g (bestP g l) bi bj bg) (c1 : ¬ bi < 0) (c2 : ¬ g x < bg) : bI g (bestP g (l ++ [x])) bi bj bg := by
  rw [bestP_snoc]
  cases hb : bestP g l with
  | none => have := h.1 hb; omega
  | some y =>
    have hy := h.2 y hb
    have : ¬ g x < g y := by omega
    simp only [this, if_false]
    exact ⟨fun e => by simp at e, fun z e => by simp at e; subst e; exact hy⟩
theorem self_map (l : List Nat) : l = (List.range l.length).map fun i => l.getD i 0 := by
  apply List.ext_getElem (by simp)
  intro i h1 h2
  simp [List.getD, h1]
noncomputable def gainI (f : Int → Int) (op : List Int) (s : Sh) (x : Nat × Nat) : Int := gainP f op s (s.ixs.getD x.1 0, s.ixs.getD x.2 0)
theorem pick_places {f : Int → Int} {op : List Int} {s : Sh} (h : 2 ≤ s.ixs.length) {x : Nat × Nat} (hx : bestP (gainI f op s) (pairsL (List.range s.ixs.length)) = some x) :
    s.ixs[x.1]? = some (pickP f op s).1 ∧ s.ixs[x.2]? = some (pickP f op s).2 := by
  have hm := mem_pairs (bestP_mem _ hx)
  simp only [List.mem_range] at hm
  have e : bestP (gainP f op s) (pairsL s.ixs) = some (s.ixs.getD x.1 0, s.ixs.getD x.2 0) := by
    conv => lhs; rw [self_map s.ixs]
    rw [pairs_map, bestP_map (g := gainI f op s) (f := fun z : Nat × Nat => (s.ixs.getD z.1 0, s.ixs.getD z.2 0)) _ (fun z _ => rfl)]
    rw [hx]; rfl
  rw [(pick_ok h).1] at e
  have e' := Option.some.inj e
  rw [e']
  simp [List.getD, hm.1, hm.2]
theorem some_best {f : Int → Int} {op : List Int} {s : Sh} (h : 2 ≤ s.ixs.length) : ∃ x, bestP (gainI f op s) (pairsL (List.range s.ixs.length)) = some x := by
  cases hb : bestP (gainI f op s) (pairsL (List.range s.ixs.length)) with
  | none => rw [bestP_none, pairs_nil, List.length_range] at hb; omega
  | some x => exact ⟨x, rfl⟩
theorem arrOf_map {arr xs : List Int} {f : Int → Int} (ha : ∀ x, 0 ≤ x → x ≤ 99 → arr.getD x.toNat 0 = f x) (hx : ∀ x ∈ xs, 0 ≤ x ∧ x ≤ 99) : arrOf arr xs = xs.map f := List.map_congr_left fun x h => ha x (hx x h).1 (hx x h).2
theorem lv_at {s : Sh} {i : Nat} {x : Lv} (h : s.lv[i]? = some x) : x.l = s.lab (s.ixs.getD i 0) := by
  obtain ⟨a, h1, rfl⟩ := lv_get h
  simp [List.getD, h1]
theorem size_of {arr : List Int} {f : Int → Int} (ha : ∀ x, 0 ≤ x → x ≤ 99 → arr.getD x.toNat 0 = f x) {xs : List Int} (h1 : ∀ x ∈ xs, 0 ≤ x ∧ x ≤ 99) (h2 : ∀ x ∈ xs, 1 ≤ f x ∧ f x ≤ 8) : dimsIn (arrOf arr xs) ∧ prodI (arrOf arr xs) = prodI (xs.map f) ∧ 1 ≤ prodI (xs.map f) := by
  rw [arrOf_map ha h1]
  exact ⟨map_dims h2, rfl, prodI_one fun d hd => (dims_mem (map_dims h2) d hd).1⟩
theorem res_few {op : List Int} {s : Sh} (h : s.fine) (a b : Nat) : (s.res op a b).length ≤ 200 := by
  have h1 := h.few a
  have h2 := h.few b
  have h3 := joinI_len (s.lab a) (s.lab b)
  have h4 : (s.res op a b).length ≤ (joinI (s.lab a) (s.lab b)).length := List.length_filter_le _ _
  omega
set_option maxHeartbeats 4000000 in
theorem ct_i_greedySteps (f : Int → Int) (arr op : List Int) (vo : Value) (sh : Sh) (bb : Nat) (w : World) (h : PH) (hle : PLe h (hp w)) (rs : StO arr vo sh bb h) (ro : IntsR op vo (restP w h))
    (hfi : sh.fine) (hfit : ∀ i, ∀ l ∈ sh.lab i, 1 ≤ f l ∧ f l ≤ 8) (harr : ∀ x, 0 ≤ x → x ≤ 99 → arr.getD x.toNat 0 = f x) (hall : sh.all.length ≤ 500) :
    Calls Try.prog 121 [.pointer (some ⟨bb, 0, none⟩)].toArray w (Ret w h (fun u h' => StepsR (greedyTo f op sh (sh.ixs.length - 1)) u h')) := by
  have hixl : sh.ixs.length ≤ sh.all.length := by have := List.length_filter_le (fun i => !sh.gone.getD i false) (List.range sh.all.length); simpa [Sh.ixs] using this
  refine calls_in Try.func121 rfl Try.ntmps121 rfl (Sat.start2 hle) ?_
  have hle0 := ro.le
  refine wp_sc ?_
  refine wp_sq ?_
  refine sq_v rfl (v_assign rfl) rfl ?_
  refine sq_end ?_
  refine qs_n ?_
  refine wp_sc ?_
  refine wp_sq ?_
  refine sq_v rfl (v_assign rfl) rfl ?_
  refine sq_end ?_
  refine qs_n ?_
  refine wp_sc ?_
  refine wp_bl ?_
  refine wp_lp (σ := Nat × PH × Value × PH) (fun z_ => [(0, .pointer (some ⟨bb, 0, none⟩)), (2, .slice none 0 0), (3, z_.2.2.1)]) (fun z_ => [z_.2.2.2, z_.2.1, (restP w h)]) (fun z_ => z_.1 ≤ sh.ixs.length - 1 ∧ StO arr vo (shTo op sh (greedyTo f op sh z_.1)) bb z_.2.1 ∧ StepsO (greedyTo f op sh z_.1) z_.2.2.1 z_.2.2.2) (fun z_ => sh.ixs.length - z_.1) (0, h, .slice none 0 0, emp) (⟨by (try dsimp only); omega, rs, StepsO.nil⟩) ⟨rfl, rfl, (by first | rfl | exact ksub rfl (by first | omega | (simp; done) | (simp; omega))), trivial⟩ (fun _ s => (emp_sat s)) ?_
  rintro ⟨k, g, ov, oh⟩ ⟨hk, rst, q⟩
  dsimp only at hk rst q ⊢
  obtain ⟨cs_q, rr_q, hc_q⟩ := q.toR.at
  have hle_q := q.toR.le
  have hgl := greedy_len f op sh k
  obtain ⟨S, hS⟩ : ∃ S, S = shTo op sh (greedyTo f op sh k) := ⟨_, rfl⟩
  have hfs := shTo_fine (op := op) hfi (greedyTo f op sh k)
  have hft := fit_to (op := op) hfit (greedyTo f op sh k)
  have hal := shTo_all (op := op) (s := sh) (ss := greedyTo f op sh k)
  have hcnt : S.ixs.length + k = sh.ixs.length := by (rcases Nat.eq_zero_or_pos sh.ixs.length with h0 | h0; have hk0 : k = 0 := (by omega); subst hk0; rw [hS]; simp [greedyTo, shTo]; rw [hS]; exact greedy_count hfi k (by omega))
  rw [hgl] at hal
  rw [← hS] at rst hfs hft hal
  obtain ⟨lvv, rr⟩ := rst.toR
  have rlv := rr.live
  have hll := lv_len S
  ; obtain ⟨cs_rlv, rr_rlv, hc_rlv⟩ := rlv.at
  refine wp_sc ?_
  refine wp_sc ?_
  refine wp_sq ?_
  refine sq_v rfl (v_move rfl) rfl ?_
  refine sq_v rfl (v_nilCheck rfl) rfl ?_
  refine sq_v rfl (v_fieldAddr fd_118_2 ty_116 (by decide) rfl) rfl ?_
  refine sq_v rfl (v_load 1 ty_116 rfl rfl rr.c101) rfl ?_
  refine sq_v rfl (v_len Try.underlying116 rfl rlv.sl) rfl ?_
  refine sq_v rfl (v_gtr rfl rfl) rfl ?_
  refine sq_end ?_
  refine qs_n ?_
  refine wp_cd rfl (fun c15 => ?_) (fun c15 => ?_)
  · refine wp_sk ?_
    refine qs_n ?_
    refine wp_bl ?_
    refine wp_sc ?_
    refine wp_sq ?_
    refine sq_v rfl (v_assign rfl) rfl ?_
    refine sq_v rfl (v_assign rfl) rfl ?_
    refine sq_v rfl (v_assign rfl) rfl ?_
    refine sq_end ?_
    refine qs_n ?_
    refine wp_sc ?_
    refine wp_sc ?_
    refine wp_sq ?_
    refine sq_v rfl (v_move rfl) rfl ?_
    refine sq_v rfl (v_nilCheck rfl) rfl ?_
    refine sq_v rfl (v_fieldAddr fd_118_2 ty_116 (by decide) rfl) rfl ?_
    refine sq_v rfl (v_load 1 ty_116 rfl rfl rr.c101) rfl ?_
    refine sq_v rfl (v_len Try.underlying116 rfl rlv.sl) rfl ?_
    refine sq_v rfl (v_move rfl) rfl ?_
    refine sq_end ?_
    refine qs_n ?_
    refine wp_bl ?_
    refine wp_lp (σ := Nat × Int × Int × Int) (fun z_ => [(0, .pointer (some ⟨bb, 0, none⟩)), (2, .slice none 0 0), (3, ov), (4, num z_.2.1), (5, num z_.2.2.1), (6, num z_.2.2.2), (10, .pointer (some ⟨bb, 0, none⟩)), (11, .pointer (some ⟨bb, 0, none⟩)), (12, .pointer (some ⟨bb, 101, none⟩)), (13, lvv), (14, num S.lv.length), (15, .bool (decide ((1 : Int) < S.lv.length))), (16, .pointer (some ⟨bb, 0, none⟩)), (17, .pointer (some ⟨bb, 0, none⟩)), (18, .pointer (some ⟨bb, 101, none⟩)), (19, lvv), (20, num S.lv.length), (21, num z_.1)]) (fun z_ => [oh, g, (restP w h)]) (fun z_ => z_.1 ≤ S.lv.length ∧ bI (gainI f op S) (bestP (gainI f op S) (pairsTo (List.range S.ixs.length) z_.1)) z_.2.1 z_.2.2.1 z_.2.2.2) (fun z_ => S.lv.length - z_.1) (0, -1, -1, 0) (⟨by (try dsimp only); omega, ⟨fun _ => rfl, fun x e => by simp [pairsTo, bestP] at e⟩⟩) ⟨rfl, rfl, rfl, (by first | rfl | exact ksub rfl (by first | omega | (simp; done) | (simp; omega))), (by first | rfl | exact ksub rfl (by first | omega | (simp; done) | (simp; omega))), (by first | rfl | exact ksub rfl (by first | omega | (simp; done) | (simp; omega))), rfl, rfl, rfl, rfl, rfl, rfl, rfl, rfl, rfl, rfl, rfl, (by first | rfl | exact ksub rfl (by first | omega | (simp; done) | (simp; omega))), trivial⟩ (fun _ s => s) ?_
    rintro ⟨i, bi, bj, bg⟩ ⟨hi, hbi⟩
    dsimp only at hi hbi ⊢
    refine wp_sc ?_
    refine wp_sq ?_
    refine sq_v rfl (v_lss rfl rfl) rfl ?_
    refine sq_end ?_
    refine qs_n ?_
    refine wp_sc ?_
    refine wp_cd rfl (fun c22 => ?_) (fun c22 => ?_)
    · refine wp_sk ?_
      refine qs_n ?_
      refine wp_sc ?_
      refine wp_bl ?_
      refine wp_sc ?_
      refine wp_sq ?_
      refine sq_v rfl (v_move rfl) rfl ?_
      refine sq_v rfl (v_assign rfl) rfl ?_
      refine sq_end ?_
      refine qs_n ?_
      refine wp_sc ?_
      refine wp_sq ?_
      refine sq_v rfl (v_move rfl) rfl ?_
      refine sq_v rfl (v_add rfl rfl ((by unfold I64; omega))) rfl ?_
      refine sq_v rfl (v_assign rfl) rfl ?_
      refine sq_end ?_
      refine qs_n ?_
      refine wp_bl ?_
      refine wp_lp (σ := Nat × Int × Int × Int) (fun z_ => [(0, .pointer (some ⟨bb, 0, none⟩)), (2, .slice none 0 0), (3, ov), (4, num z_.2.1), (5, num z_.2.2.1), (6, num z_.2.2.2), (7, num i), (8, num z_.1), (10, .pointer (some ⟨bb, 0, none⟩)), (11, .pointer (some ⟨bb, 0, none⟩)), (12, .pointer (some ⟨bb, 101, none⟩)), (13, lvv), (14, num S.lv.length), (15, .bool (decide ((1 : Int) < S.lv.length))), (16, .pointer (some ⟨bb, 0, none⟩)), (17, .pointer (some ⟨bb, 0, none⟩)), (18, .pointer (some ⟨bb, 101, none⟩)), (19, lvv), (20, num S.lv.length), (21, num i), (22, .bool (decide ((i : Int) < S.lv.length))), (23, num i), (24, num i), (25, num (i + 1))]) (fun z_ => [oh, g, (restP w h)]) (fun z_ => (i + 1 ≤ z_.1 ∧ z_.1 ≤ S.lv.length) ∧ bI (gainI f op S) (bestP (gainI f op S) (rowTo S.ixs.length i z_.1)) z_.2.1 z_.2.2.1 z_.2.2.2) (fun z_ => S.lv.length - z_.1) (i + 1, bi, bj, bg) (⟨by (try dsimp only); omega, by (try dsimp only); rw [rowTo_start]; exact hbi⟩) ⟨rfl, rfl, rfl, (by first | rfl | exact ksub rfl (by first | omega | (simp; done) | (simp; omega))), (by first | rfl | exact ksub rfl (by first | omega | (simp; done) | (simp; omega))), (by first | rfl | exact ksub rfl (by first | omega | (simp; done) | (simp; omega))), rfl, (by first | rfl | exact ksub rfl (by first | omega | (simp; done) | (simp; omega))), rfl, rfl, rfl, rfl, rfl, rfl, rfl, rfl, rfl, rfl, rfl, rfl, rfl, rfl, rfl, rfl, trivial⟩ (fun _ s => s) ?_
      rintro ⟨j, bi2, bj2, bg2⟩ ⟨hj, hbj⟩
      dsimp only at hj hbj ⊢
      refine wp_sc ?_
      refine wp_sc ?_
      refine wp_sq ?_
      refine sq_v rfl (v_move rfl) rfl ?_
      refine sq_v rfl (v_move rfl) rfl ?_
      refine sq_v rfl (v_nilCheck rfl) rfl ?_
      refine sq_v rfl (v_fieldAddr fd_118_2 ty_116 (by decide) rfl) rfl ?_
      refine sq_v rfl (v_load 1 ty_116 rfl rfl rr.c101) rfl ?_
      refine sq_v rfl (v_len Try.underlying116 rfl rlv.sl) rfl ?_
      refine sq_v rfl (v_lss rfl rfl) rfl ?_
      refine sq_end ?_
      have hdummy := hj
      refine qs_n ?_
      refine wp_cd rfl (fun c32 => ?_) (fun c32 => ?_)
      · refine wp_sk ?_
        refine qs_n ?_
        refine wp_sc ?_
        refine wp_bl ?_
        refine wp_sc ?_
        refine wp_rj 29 [(0, true), (1, true), (2, true), (3, true), (6, true), (7, true), (8, true), (9, true), (10, true), (11, true), (12, true), (13, true), (14, true), (17, true), (18, true), (19, true), (20, true), (21, true), (22, true), (23, true), (24, true), (25, true), (4, false), (5, false), (15, false), (16, true), (26, false), (27, true), (28, true)] mixed_ok (by kernel_rfl) ?_
        refine rj_v rfl rfl (v_move rfl) rfl ?_
        refine rj_v rfl rfl (v_move rfl) rfl ?_
        refine rj_v rfl rfl (v_move rfl) rfl ?_
        refine rj_v rfl rfl (v_move rfl) rfl ?_
        refine rj_v rfl rfl (v_move rfl) rfl ?_
        refine rj_v rfl rfl (v_move rfl) rfl ?_
        refine rj_v rfl rfl (v_nilCheck rfl) rfl ?_
        refine rj_v rfl rfl (v_fieldAddr fd_118_2 ty_116 (by decide) rfl) rfl ?_
        refine rj_v rfl rfl (v_load 1 ty_116 rfl rfl rr.c101) rfl ?_
        refine rj_v rfl rfl (v_move rfl) rfl ?_
        obtain ⟨x47, a47, hx47, hcs47, rl47⟩ := hc_rlv (i) (by first | omega | (rw [List.length_set]; omega))
        refine rj_v rfl rfl (v_indexAddr Try.underlying116 ty_114 rfl rfl rr_rlv (by decide) (by omega) (by omega)) rfl ?_
        refine rj_v rfl rfl (v_fieldAddrE fd_114_1 ty_25 (by decide) rfl rr_rlv (by have := rr_rlv.1; first | omega | (simp only [Int.toNat_natCast]; omega) | (rw [stepCells_len, List.length_set]; omega))) rfl ?_
        refine rj_v rfl rfl (v_loadE 1 ty_25 rfl rfl rr_rlv (sub_get hcs47 (j := 1) rfl)) rfl ?_
        refine rj_v rfl rfl (v_move rfl) rfl ?_
        refine rj_v rfl rfl (v_move rfl) rfl ?_
        refine rj_v rfl rfl (v_nilCheck rfl) rfl ?_
        refine rj_v rfl rfl (v_fieldAddr fd_118_2 ty_116 (by decide) rfl) rfl ?_
        refine rj_v rfl rfl (v_load 1 ty_116 rfl rfl rr.c101) rfl ?_
        refine rj_v rfl rfl (v_move rfl) rfl ?_
        obtain ⟨x58, a58, hx58, hcs58, rl58⟩ := hc_rlv (j) (by first | omega | (rw [List.length_set]; omega))
        refine rj_v rfl rfl (v_indexAddr Try.underlying116 ty_114 rfl rfl rr_rlv (by decide) (by omega) (by omega)) rfl ?_
        refine rj_v rfl rfl (v_fieldAddrE fd_114_1 ty_25 (by decide) rfl rr_rlv (by have := rr_rlv.1; first | omega | (simp only [Int.toNat_natCast]; omega) | (rw [stepCells_len, List.length_set]; omega))) rfl ?_
        refine rj_v rfl rfl (v_loadE 1 ty_25 rfl rfl rr_rlv (sub_get hcs58 (j := 1) rfl)) rfl ?_
        have hpa : S.ixs[((i : Int)).toNat]? = some (S.ixs.getD i 0) := (by simp [List.getD, show i < S.ixs.length by omega]); have hqb : S.ixs[((j : Int)).toNat]? = some (S.ixs.getD j 0) := (by simp [List.getD, show j < S.ixs.length by omega]); have hfa := hfs.few (S.ixs.getD i 0); have hfb := hfs.few (S.ixs.getD j 0); have hrl := res_few (op := op) hfs (S.ixs.getD i 0) (S.ixs.getD j 0); have hr1 : ∀ z ∈ S.res op (S.ixs.getD i 0) (S.ixs.getD j 0), 0 ≤ z ∧ z ≤ 99 := (fun z hz => (res_mem hz).elim ((hfs.2 _).2 z) ((hfs.2 _).2 z)); have hz1 := size_of harr hr1 (fun z hz => (res_mem hz).elim (hft _ z) (hft _ z))
        refine rj_x rfl rfl (x_call rfl en_162 (fun w s => ct_i_resultLabels _ op _ _ S _ _ _ (S.ixs.getD i 0) (S.ixs.getD j 0) w (rr.mono (s.get 1 rfl)) (ro.mono (s.get 2 rfl)) (by first | assumption | omega) (by first | assumption | omega) hpa hqb (by omega))) rfl ?_; rintro v39 h39 r39
        refine rj_u rfl rfl (x_callv rfl en_95 (fun w s => ct_i_size arr (S.res op (S.ixs.getD i 0) (S.ixs.getD j 0)) _ _ _ _ _ w (rr.mono (s.get 2 rfl)) (r39.toR.mono (s.get 0 rfl)) hr1 hz1.1 (by omega))) rfl ?_
        have l47 := lv_at hx47; have hl1 : ∀ z ∈ x47.l, 0 ≤ z ∧ z ≤ 99 := (by rw [l47]; exact (hfs.2 _).2); have hz2 := size_of harr hl1 (by rw [l47]; exact hft _); rw [← l47] at hfa
        refine rj_u rfl rfl (x_callv rfl en_95 (fun w s => ct_i_size arr x47.l _ _ _ _ _ w (rr.mono (s.get 2 rfl)) (rl47.mono (s.get 2 rfl)) hl1 hz2.1 (by omega))) rfl ?_
        refine rj_v rfl rfl (v_sub rfl rfl ((by unfold I64; omega))) rfl ?_
        have l58 := lv_at hx58; have hm1 : ∀ z ∈ x58.l, 0 ≤ z ∧ z ≤ 99 := (by rw [l58]; exact (hfs.2 _).2); have hz3 := size_of harr hm1 (by rw [l58]; exact hft _); rw [← l58] at hfb
        refine rj_u rfl rfl (x_callv rfl en_95 (fun w s => ct_i_size arr x58.l _ _ _ _ _ w (rr.mono (s.get 2 rfl)) (rl58.mono (s.get 2 rfl)) hm1 hz3.1 (by omega))) rfl ?_
        refine rj_v rfl rfl (v_sub rfl rfl ((by unfold I64; omega))) rfl ?_
        refine rj_v rfl rfl (v_assign rfl) rfl ?_
        refine rj_end ?_
        have hgn : min (prodI (arrOf arr (S.res op (S.ixs.getD i 0) (S.ixs.getD j 0)))) 1000000000 - min (prodI (arrOf arr x47.l)) 1000000000 - min (prodI (arrOf arr x58.l)) 1000000000 = gainI f op S (i, j) := by rw [hz1.2.1, hz2.2.1, hz3.2.1, l47, l58]; rfl
        rw [hgn]
        refine qs_n ?_
        refine wp_sc ?_
        refine wp_sq ?_
        refine sq_v rfl (v_move rfl) rfl ?_
        refine sq_v rfl (v_lss rfl rfl) rfl ?_
        refine sq_bd 64 rfl (fun c64 => ?_) (fun c64 => ?_)
        · refine sq_v rfl (v_move rfl) rfl ?_
          refine sq_s rfl rfl ?_
          refine sq_s rfl rfl ?_
          refine sq_s rfl rfl ?_
          refine sq_v rfl (v_pickt rfl rfl) rfl ?_
          refine sq_end ?_
          refine qs_n ?_
          refine wp_ct rfl ?_
          refine wp_sq ?_
          refine sq_v rfl (v_move rfl) rfl ?_
          refine sq_v rfl (v_move rfl) rfl ?_
          refine sq_v rfl (v_move rfl) rfl ?_
          refine sq_v rfl (v_assign rfl) rfl ?_
          refine sq_v rfl (v_assign rfl) rfl ?_
          refine sq_v rfl (v_assign rfl) rfl ?_
          refine sq_end ?_
          refine qs_bn ?_
          refine qs_n ?_
          refine wp_sq ?_
          refine sq_v rfl (v_move rfl) rfl ?_
          refine sq_v rfl (v_add rfl rfl ((by unfold I64; omega))) rfl ?_
          refine sq_v rfl (v_assign rfl) rfl ?_
          refine sq_end ?_
          exact qs_bk (j + 1, (i : Int), (j : Int), gainI f op S (i, j)) ⟨by (try dsimp only); omega, by (try dsimp only); rw [rowTo_step hj.1]; exact hbj.yes (.inl c64)⟩ (by simp only; omega) ⟨rfl, rfl, rfl, (by first | rfl | exact ksub rfl (by first | omega | (simp; done) | (simp; omega))), (by first | rfl | exact ksub rfl (by first | omega | (simp; done) | (simp; omega))), (by first | rfl | exact ksub rfl (by first | omega | (simp; done) | (simp; omega))), rfl, (by first | rfl | exact ksub rfl (by first | omega | (simp; done) | (simp; omega))), rfl, rfl, rfl, rfl, rfl, rfl, rfl, rfl, rfl, rfl, rfl, rfl, rfl, rfl, rfl, rfl, trivial⟩ (fun _ s => s.pick [1, 2, 3] (by decide) rfl)
        · refine sq_v rfl (v_move rfl) rfl ?_
          refine sq_v rfl (v_move rfl) rfl ?_
          refine sq_v rfl (v_move rfl) rfl ?_
          refine sq_v rfl (v_lss rfl rfl) rfl ?_
          refine sq_v rfl (v_pickf rfl rfl) rfl ?_
          refine sq_end ?_
          refine qs_n ?_
          refine wp_cd rfl (fun c69 => ?_) (fun c69 => ?_)
          · refine wp_sq ?_
            refine sq_v rfl (v_move rfl) rfl ?_
            refine sq_v rfl (v_move rfl) rfl ?_
            refine sq_v rfl (v_move rfl) rfl ?_
            refine sq_v rfl (v_assign rfl) rfl ?_
            refine sq_v rfl (v_assign rfl) rfl ?_
            refine sq_v rfl (v_assign rfl) rfl ?_
            refine sq_end ?_
            refine qs_bn ?_
            refine qs_n ?_
            refine wp_sq ?_
            refine sq_v rfl (v_move rfl) rfl ?_
            refine sq_v rfl (v_add rfl rfl ((by unfold I64; omega))) rfl ?_
            refine sq_v rfl (v_assign rfl) rfl ?_
            refine sq_end ?_
            exact qs_bk (j + 1, (i : Int), (j : Int), gainI f op S (i, j)) ⟨by (try dsimp only); omega, by (try dsimp only); rw [rowTo_step hj.1]; exact hbj.yes (.inr c69)⟩ (by simp only; omega) ⟨rfl, rfl, rfl, (by first | rfl | exact ksub rfl (by first | omega | (simp; done) | (simp; omega))), (by first | rfl | exact ksub rfl (by first | omega | (simp; done) | (simp; omega))), (by first | rfl | exact ksub rfl (by first | omega | (simp; done) | (simp; omega))), rfl, (by first | rfl | exact ksub rfl (by first | omega | (simp; done) | (simp; omega))), rfl, rfl, rfl, rfl, rfl, rfl, rfl, rfl, rfl, rfl, rfl, rfl, rfl, rfl, rfl, rfl, trivial⟩ (fun _ s => s.pick [1, 2, 3] (by decide) rfl)
          · refine wp_sk ?_
            refine qs_bn ?_
            refine qs_n ?_
            refine wp_sq ?_
            refine sq_v rfl (v_move rfl) rfl ?_
            refine sq_v rfl (v_add rfl rfl ((by unfold I64; omega))) rfl ?_
            refine sq_v rfl (v_assign rfl) rfl ?_
            refine sq_end ?_
            exact qs_bk (j + 1, bi2, bj2, bg2) ⟨by (try dsimp only); omega, by (try dsimp only); rw [rowTo_step hj.1]; exact hbj.no c64 c69⟩ (by simp only; omega) ⟨rfl, rfl, rfl, (by first | rfl | exact ksub rfl (by first | omega | (simp; done) | (simp; omega))), (by first | rfl | exact ksub rfl (by first | omega | (simp; done) | (simp; omega))), (by first | rfl | exact ksub rfl (by first | omega | (simp; done) | (simp; omega))), rfl, (by first | rfl | exact ksub rfl (by first | omega | (simp; done) | (simp; omega))), rfl, rfl, rfl, rfl, rfl, rfl, rfl, rfl, rfl, rfl, rfl, rfl, rfl, rfl, rfl, rfl, trivial⟩ (fun _ s => s.pick [1, 2, 3] (by decide) rfl)
      · refine wp_ex ?_
        refine qs_x ?_
        refine qs_x ?_
        refine qs_bx ?_
        refine qs_bn ?_
        refine qs_n ?_
        refine wp_sq ?_
        refine sq_v rfl (v_add rfl rfl ((by unfold I64; omega))) rfl ?_
        refine sq_v rfl (v_move rfl) rfl ?_
        refine sq_end ?_
        exact qs_bk (i + 1, bi2, bj2, bg2) ⟨by (try dsimp only); omega, by (try dsimp only); rw [← rowTo_end (show i < S.ixs.length by omega), show rowTo S.ixs.length i S.ixs.length = rowTo S.ixs.length i j by rw [show j = S.ixs.length by omega]]; exact hbj⟩ (by simp only; omega) ⟨rfl, rfl, rfl, (by first | rfl | exact ksub rfl (by first | omega | (simp; done) | (simp; omega))), (by first | rfl | exact ksub rfl (by first | omega | (simp; done) | (simp; omega))), (by first | rfl | exact ksub rfl (by first | omega | (simp; done) | (simp; omega))), rfl, rfl, rfl, rfl, rfl, rfl, rfl, rfl, rfl, rfl, rfl, (by first | rfl | exact ksub rfl (by first | omega | (simp; done) | (simp; omega))), trivial⟩ (fun _ s => s)
    · refine wp_ex ?_
      refine qs_x ?_
      refine qs_x ?_
      refine qs_bx ?_
      refine qs_n ?_
      refine wp_sq ?_
      refine sq_v rfl (v_move rfl) rfl ?_
      refine sq_v rfl (v_move rfl) rfl ?_
      refine sq_v rfl (v_move rfl) rfl ?_
      refine sq_v rfl (v_move rfl) rfl ?_
      have h2 : 2 ≤ S.ixs.length := (by omega); obtain ⟨xx, hxx⟩ := some_best (f := f) (op := op) h2; have hpp := pick_places h2 hxx; have hend : pairsTo (List.range S.ixs.length) i = pairsL (List.range S.ixs.length) := (by have := pairsTo_end (List.range S.ixs.length); rw [List.length_range] at this; rw [← this, show i = S.ixs.length by omega]); have hbx := hbi.2 xx (by rw [hend]; exact hxx)
      refine sq_m 1 rfl rfl (x_call rfl en_97 (fun w s => ct_i_contract arr op vo _ bb _ _ (pickP f op S).1 (pickP f op S).2 w _ (s.get 1 rfl) rst (ro.mono (s.getR 1 2 rfl rfl (by decide))) (by omega) (by omega) (by rw [hbx.1, Int.toNat_natCast]; exact hpp.1) (by rw [hbx.2.1, Int.toNat_natCast]; exact hpp.2) (by have := hfs.few (pickP f op S).1; have := hfs.few (pickP f op S).2; omega) (by omega))) rfl ?_; rintro _ h78 ⟨rfl, rst'⟩
      refine sq_x rfl (x_buildS [.agg [num ((pickP f op S).1 : Nat), num ((pickP f op S).2 : Nat)].toArray] Try.underlying44 ty_107 (by decide) rfl rfl rfl (by decide) (by decide) (by intro v hv; simp at hv; subst hv; rfl)) rfl ?_; intro v79 h79 (r79 : RowO 107 [num ((pickP f op S).1 : Nat), num ((pickP f op S).2 : Nat)] 1 2 v79 h79)
      refine sq_m 1 rfl rfl (m_appS (ss := (greedyTo f op sh k)) (us := ([⟨((pickP f op S).1 : Nat), ((pickP f op S).2 : Nat)⟩] : List Stp)) 1 0 Try.underlying44 ty_107 rfl rfl rfl rfl q rfl r79.toR (by first | omega | (simp only [List.length_cons, List.length_nil]; omega) | (simp only [List.length_append, List.length_cons, List.length_nil]; omega) | (rw [List.length_set]; omega) | (rw [List.length_replicate]; omega) | (simp; omega))) rfl ?_; intro v80 h_r80 r80
      obtain ⟨cs_S_80, rr_S_80, hc_S_80⟩ := r80.toR.at
      refine sq_v rfl (v_assign rfl) rfl ?_
      refine sq_end ?_
      refine qs_bn ?_
      exact qs_bk (k + 1, h78, v80, h_r80) ⟨by (try dsimp only); omega, by (try dsimp only); rw [greedy_step, ← hS]; exact rst', by (try dsimp only); rw [greedyTo, ← hS]; exact r80⟩ (by simp only; omega) ⟨rfl, rfl, (by first | rfl | exact ksub rfl (by first | omega | (simp; done) | (simp; omega))), trivial⟩ (fun _ s => s.pick [1, 2, 3] (by decide) rfl)
  · refine wp_ex ?_
    refine qs_x ?_
    refine qs_x ?_
    refine qs_bx ?_
    refine qs_n ?_
    refine wp_sc ?_
    refine wp_sq ?_
    refine sq_v rfl (v_move rfl) rfl ?_
    refine sq_v rfl (v_assign rfl) rfl ?_
    refine sq_end ?_
    refine qs_n ?_
    refine wp_rt ?_
    refine qs_close [restP w h] [g, oh] (fun _ s => s.pick [2, 1, 0] (by decide) rfl) (fun md => ?_)
    exact qs_ret1 rfl rfl (fin_m (i := 1) 0 rfl rfl rfl (by rw [show sh.ixs.length - 1 = k by omega]; exact q.toR.mono (md.le oh (by simp))))
end Go.Proofs.Ytalfigjnaidmnaa
