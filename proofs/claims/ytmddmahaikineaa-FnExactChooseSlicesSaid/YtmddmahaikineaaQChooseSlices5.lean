/-
  Parts of the proof of FnExactChooseSlices: laws of heaps, contracts of functions.
  Conditions: none.
-/
import Derived.Test.YtmddmahaikineaaQChooseSlices4
namespace Go.Proofs.Ytmddmahaikineaa
set_option maxRecDepth 100000
open Go.RowKit
def digI (ds : List Int) (n : Int) (i : Nat) : Int := n / prodI (ds.drop (i + 1)) % ds.getD i 0
def idxL (ds : List Int) (n : Int) : List Int := (List.range ds.length).map fun i => digI ds n i
theorem idxL_len (ds : List Int) (n : Int) : (idxL ds n).length = ds.length := by simp [idxL]
theorem idxL_get {ds : List Int} {n : Int} {i : Nat} (h : i < ds.length) : (idxL ds n).getD i 0 = digI ds n i := by simp [idxL, List.getD, h]
theorem idxL_zero (ds : List Int) : idxL ds 0 = List.replicate ds.length 0 := by
  apply ext_getD (by simp [idxL_len])
  intro j hj; rw [idxL_len] at hj; rw [idxL_get hj, rep_getD]
  simp [digI]
theorem idxL_in {ds : List Int} (hd : ∀ d ∈ ds, 1 ≤ d) (n : Int) : idxIn ds (idxL ds n) := ⟨idxL_len ds n, fun j hj => by
  rw [idxL_get hj]; have := hd _ (mem_getD hj); exact ⟨Int.emod_nonneg _ (by omega), Int.emod_lt_of_pos _ (by omega)⟩⟩
theorem prod_at {ds : List Int} {i : Nat} (h : i < ds.length) : prodI (ds.drop i) = prodI (ds.drop (i + 1)) * ds.getD i 0 := by
  rw [drop_cons h, prodI_cons, Int.mul_comm]
theorem div_at {ds : List Int} (hd : ∀ d ∈ ds, 1 ≤ d) (n : Int) {i : Nat} (h : i < ds.length) : n / prodI (ds.drop i) = n / prodI (ds.drop (i + 1)) / ds.getD i 0 := by
  rw [prod_at h, ← Int.ediv_ediv_of_nonneg (by have := (prodI_drop hd (i + 1)).1; omega)]
theorem horn_idx {ds : List Int} (hd : ∀ d ∈ ds, 1 ≤ d) {n : Int} (h0 : 0 ≤ n) (h1 : n < prodI ds) : ∀ m, m ≤ ds.length → hornTo ds (idxL ds n) m = n / prodI (ds.drop m)
  | 0, _ => by
    rw [hornTo, List.drop_zero, Int.ediv_eq_zero_of_lt h0 h1]
  | m + 1, hm => by
    rw [hornTo, horn_idx hd h0 h1 m (by omega), idxL_get (by omega), div_at hd n (by omega), digI]; have := Int.ediv_mul_add_emod (n / prodI (ds.drop (m + 1))) (ds.getD m 0)
    omega
theorem offL_idx {ds : List Int} (hd : ∀ d ∈ ds, 1 ≤ d) {n : Int} (h0 : 0 ≤ n) (h1 : n < prodI ds) : offL ds (idxL ds n) = n := by
  rw [offL_end (idxL_len ds n).symm, horn_idx hd h0 h1 _ (Nat.le_refl _), List.drop_length]
  simp [prodI]
theorem mix_down {A B : List Int} {k : Nat} (h : A.length = B.length) (hk : k < A.length) : (mixL A B (k + 1)).set k (B.getD k 0) = mixL A B k := by
  apply ext_getD
  · rw [List.length_set, mix_len h (by omega), mix_len h (by omega)]
  · intro j hj; rw [List.length_set, mix_len h (by omega)] at hj
    by_cases e : j = k
    · subst e; rw [mix_get (by omega) (Nat.le_refl _)]; simp only [List.getD]; rw [List.getElem?_set_self (by rw [mix_len h (by omega)]; omega)]; rfl
    · have hs : ((mixL A B (k + 1)).set k (B.getD k 0)).getD j 0 = (mixL A B (k + 1)).getD j 0 := by simp only [List.getD]; rw [List.getElem?_set_ne (by omega)]
      rw [hs]
      by_cases hj2 : k ≤ j
      · rw [mix_get (by omega) (by omega), mix_get (by omega) hj2]
      · simp only [mixL, List.getD]; rw [List.getElem?_append_left (by simp; omega), List.getElem?_append_left (by simp; omega), List.getElem?_take, List.getElem?_take, if_pos (by omega), if_pos (by omega)]
theorem mix_low {A B : List Int} {k j : Nat} (hk : k ≤ A.length) (hj : j < k) : (mixL A B k).getD j 0 = A.getD j 0 := by
  simp only [mixL, List.getD]; rw [List.getElem?_append_left (by simp; omega), List.getElem?_take, if_pos hj]
theorem mix_full {A B : List Int} {k : Nat} (h : A.length = B.length) (hk : k ≤ A.length) (e : ∀ j, j < k → A.getD j 0 = B.getD j 0) : mixL A B k = B := by
  apply ext_getD (by rw [mix_len h hk, h])
  intro j hj; rw [mix_len h hk] at hj
  by_cases hjk : j < k
  · rw [mix_low hk hjk, e j hjk]
  · rw [mix_get hk (by omega)]
set_option maxHeartbeats 1000000 in
theorem ct_s_l05Index (ds : List Int) (n : Int) (v : Value) (w : World) (r : IntsR ds v (hp w)) (hd : ∀ d ∈ ds, 1 ≤ d ∧ d ≤ 8) (hn : 0 ≤ n ∧ n ≤ 1000000000000) (hl : ds.length ≤ 1000000) :
    Calls Try.prog 179 [v, num n].toArray w (Ret w emp (IntsO (idxL ds n))) := by
  have hd1 : ∀ d ∈ ds, 1 ≤ d := fun d h => (hd d h).1; have hil := idxL_len ds n; refine calls_in Try.func179 rfl Try.ntmps179 rfl (Sat.start w) ?_; have hle0 := r.le; refine wp_sc (wp_sq (sq_v rfl (v_assign rfl) rfl (sq_end (qs_n (wp_sc (wp_sq (sq_v rfl (v_move rfl) rfl (sq_v rfl (v_len Try.underlying25 rfl r.sl) rfl ?_)))))))); refine sq_x rfl (x_makeI Try.underlying25 ty_3 rfl rfl (by first | omega | (simp; omega) | (simp only [List.length_append, List.length_cons, List.length_nil]; omega) | (rw [List.length_set]; omega)) (by first | omega | (simp; omega) | (simp only [List.length_append, List.length_cons, List.length_nil]; omega) | (rw [List.length_set]; omega)) (by first | omega | (simp; omega) | (simp only [List.length_append, List.length_cons, List.length_nil]; omega) | (rw [List.length_set]; omega))) rfl ?_; intro v9 h9 r9; refine sq_v rfl (v_assign rfl) rfl (sq_end (qs_n (wp_sc (wp_sc (wp_sq (sq_v rfl (v_move rfl) rfl (sq_v rfl (v_len Try.underlying25 rfl r.sl) rfl ?_))))))); refine sq_v rfl (v_sub rfl rfl ((by unfold I64; omega))) rfl ?_; refine sq_v rfl (v_assign rfl) rfl (sq_end (qs_n (wp_bl ?_))); refine wp_lp (σ := Nat × Int × PH) (fun z_ => [(0, v), (1, num z_.2.1), (4, .slice none 0 0), (5, v9), (6, num ((z_.1 : Int) - 1))]) (fun z_ => [z_.2.2, hp w]) (fun z_ => z_.1 ≤ ds.length ∧ z_.2.1 = n / prodI (ds.drop z_.1) ∧ IntsO (mixL (List.replicate ds.length 0) (idxL ds n) z_.1) v9 z_.2.2) (fun z_ => z_.1) (ds.length, n, h9) (⟨by (try dsimp only); omega, by (try dsimp only); simp [prodI], by (try dsimp only); rw [mix_end (by simp [idxL_len]) (by simp)]; simpa using r9⟩) ⟨rfl, (by first | rfl | exact ksub rfl (by first | omega | (simp; done) | (simp; omega))), rfl, rfl, (by first | rfl | exact ksub rfl (by first | omega | (simp; done) | (simp; omega))), trivial⟩ (fun _ s => s) ?_; rintro ⟨m, q, g⟩ ⟨hm, hq, q9⟩; dsimp only at hm hq q9 ⊢; have hle_q9 := q9.toR.le; have hpd := (prodI_drop hd1 m).1; have hq0 : 0 ≤ q ∧ q ≤ n := by rw [hq]; exact ⟨Int.ediv_nonneg hn.1 (by omega), Int.ediv_le_self _ hn.1⟩
  have hml : (mixL (List.replicate ds.length 0) (idxL ds n) m).length = ds.length := by rw [mix_len (by simp [idxL_len]) (by simp; omega)]; simp
  have em : ((m : Int) - 1).toNat = m - 1 := by omega
  refine wp_sc (wp_sc (wp_sq (sq_v rfl (v_move rfl) rfl (sq_v rfl (v_geq rfl rfl) rfl (sq_end (qs_n ?_)))))); refine wp_cd rfl (fun c14 => ?_) (fun c14 => ?_)
  · refine wp_sk (qs_n (wp_sc (wp_bl (wp_sc (wp_sq (sq_v rfl (v_move rfl) rfl (sq_v rfl (v_move rfl) rfl (sq_v rfl (v_move rfl) rfl (sq_v rfl (v_move rfl) rfl (sq_v rfl (v_move rfl) rfl ?_)))))))))); refine sq_v rfl (v_idxI Try.underlying25 ty_3 rfl rfl r (by first | omega | (simp; omega) | (simp only [List.length_append, List.length_cons, List.length_nil]; omega) | (rw [List.length_set]; omega)) (by first | omega | (simp; omega) | (simp only [List.length_append, List.length_cons, List.length_nil]; omega) | (rw [List.length_set]; omega))) rfl ?_; refine sq_v rfl (v_loadI  1 ty_3 rfl rfl r (by first | omega | (simp; omega) | (simp only [List.length_append, List.length_cons, List.length_nil]; omega) | (rw [List.length_set]; omega))) rfl ?_; have hdm := hd _ (mem_getD (show ((m : Int) - 1).toNat < ds.length by omega)); refine sq_v rfl (v_rem rfl rfl (by omega)) rfl ?_; refine sq_v rfl (v_idxI Try.underlying25 ty_3 rfl rfl q9.toR (by first | omega | (simp; omega) | (simp only [List.length_append, List.length_cons, List.length_nil]; omega) | (rw [List.length_set]; omega)) (by first | omega | (simp; omega) | (simp only [List.length_append, List.length_cons, List.length_nil]; omega) | (rw [List.length_set]; omega))) rfl ?_; refine sq_m 0 rfl rfl (m_storeI 0 ty_3 rfl rfl rfl q9 (by first | omega | (simp; omega) | (simp only [List.length_append, List.length_cons, List.length_nil]; omega) | (rw [List.length_set]; omega))) rfl ?_; rintro _ h_q5_9 ⟨rfl, q5_9⟩; refine sq_end (qs_n (wp_sq (sq_v rfl (v_move rfl) rfl (sq_v rfl (v_move rfl) rfl (sq_v rfl (v_move rfl) rfl ?_))))); refine sq_v rfl (v_idxI Try.underlying25 ty_3 rfl rfl r (by first | omega | (simp; omega) | (simp only [List.length_append, List.length_cons, List.length_nil]; omega) | (rw [List.length_set]; omega)) (by first | omega | (simp; omega) | (simp only [List.length_append, List.length_cons, List.length_nil]; omega) | (rw [List.length_set]; omega))) rfl ?_; refine sq_v rfl (v_loadI  1 ty_3 rfl rfl r (by first | omega | (simp; omega) | (simp only [List.length_append, List.length_cons, List.length_nil]; omega) | (rw [List.length_set]; omega))) rfl ?_; have hqq : q.tdiv (ds.getD ((m : Int) - 1).toNat 0) = n / prodI (ds.drop (m - 1)) := (by rw [em, Int.tdiv_eq_ediv_of_nonneg hq0.1, div_at hd1 n (show m - 1 < ds.length by omega), hq, show m - 1 + 1 = m by omega]); have hq1 := (prodI_drop hd1 (m - 1)).1; have hq2 : 0 ≤ n / prodI (ds.drop (m - 1)) ∧ n / prodI (ds.drop (m - 1)) ≤ n := ⟨Int.ediv_nonneg hn.1 (by omega), Int.ediv_le_self _ hn.1⟩
    refine sq_v rfl (v_quo rfl rfl (by omega) (by unfold I64; omega)) rfl ?_; refine sq_v rfl (v_assign rfl) rfl (sq_end ?_); have hrr : q.tmod (ds.getD (m - 1) 0) = (idxL ds n).getD (m - 1) 0 := by rw [Int.tmod_eq_emod_of_nonneg hq0.1, idxL_get (by omega), digI, hq, show m - 1 + 1 = m by omega]
    have e := mix_down (A := List.replicate ds.length 0) (B := idxL ds n) (k := m - 1) (by simp [idxL_len]) (by simp; omega); rw [show m - 1 + 1 = m by omega] at e; rw [em, hrr, e] at q5_9; refine qs_bn (qs_n (wp_sq (sq_v rfl (v_move rfl) rfl ?_))); refine sq_v rfl (v_sub rfl rfl ((by unfold I64; omega))) rfl ?_; refine sq_v rfl (v_assign rfl) rfl (sq_end ?_); exact qs_bk (m - 1, q.tdiv (ds.getD ((m : Int) - 1).toNat 0), h_q5_9) ⟨by (try dsimp only); omega, hqq, q5_9⟩ (by simp only; omega) ⟨rfl, (by first | rfl | exact ksub rfl (by first | omega | (simp; done) | (simp; omega))), rfl, rfl, (by first | rfl | exact ksub rfl (by first | omega | (simp; done) | (simp; omega))), trivial⟩ (fun _ s => s)
  · refine wp_ex (qs_x (qs_x (qs_bx (qs_n (wp_sc (wp_sq (sq_v rfl (v_move rfl) rfl (sq_v rfl (v_assign rfl) rfl (sq_end (qs_n (wp_rt ?_))))))))))); exact qs_ret1 rfl rfl (fin_t 0 (i := 1) rfl rfl rfl (by rw [show m = 0 by omega, mix_zero] at q9; exact q9))
theorem div_up {P n : Int} (hP : 1 ≤ P) (_hn : 0 ≤ n) (h : (n + 1) % P = 0) : (n + 1) / P = n / P + 1 := by
  have h1 := Int.ediv_mul_add_emod (n + 1) P; have e : n = (P - 1) + ((n + 1) / P - 1) * P := by rw [Int.sub_mul, Int.one_mul]; omega
  have h2 : n / P = (P - 1) / P + ((n + 1) / P - 1) := by
    conv => lhs; rw [e]
    exact Int.add_mul_ediv_right _ _ (by omega)
  rw [Int.ediv_eq_zero_of_lt (show 0 ≤ P - 1 by omega) (show P - 1 < P by omega)] at h2
  omega
theorem mod_up {x d : Int} (hd : 1 ≤ d) (h : x % d + 1 < d) : (x + 1) % d = x % d + 1 ∧ (x + 1) / d = x / d := by
  have h1 := Int.ediv_mul_add_emod x d; have h0 := Int.emod_nonneg x (show d ≠ 0 by omega); have e : x + 1 = (x % d + 1) + (x / d) * d := by omega
  constructor
  · conv => lhs; rw [e]
    rw [Int.add_mul_emod_self_right, Int.emod_eq_of_lt (by omega) h]
  · conv => lhs; rw [e]
    rw [Int.add_mul_ediv_right _ _ (by omega), Int.ediv_eq_zero_of_lt (by omega) h]
    omega
theorem mod_over {x d : Int} (hd : 1 ≤ d) (h : d ≤ x % d + 1) : (x + 1) % d = 0 := by
  have h1 := Int.ediv_mul_add_emod x d; have h0 := Int.emod_lt_of_pos x (show 0 < d by omega); have e : x + 1 = (x / d + 1) * d := by rw [Int.add_mul]; omega
  rw [e, Int.mul_emod_left]
theorem dig_yes {ds : List Int} (hd : ∀ d ∈ ds, 1 ≤ d) {n : Int} (hn : 0 ≤ n) {i : Nat} (hi : i < ds.length) (hP : (n + 1) % prodI (ds.drop (i + 1)) = 0) (h : digI ds n i + 1 < ds.getD i 0) :
    digI ds (n + 1) i = digI ds n i + 1 ∧ ∀ t, t ≤ i → (n + 1) / prodI (ds.drop (i - t)) = n / prodI (ds.drop (i - t)) := by
  have hp := (prodI_drop hd (i + 1)).1; have hdi := hd _ (mem_getD hi); have h1 := div_up hp hn hP; have h2 := mod_up hdi h; refine ⟨by unfold digI; rw [h1]; exact h2.1, fun t => ?_⟩
  induction t with
  | zero => intro _; rw [Nat.sub_zero, div_at hd _ hi, div_at hd _ hi, h1]; exact h2.2
  | succ t ih =>
    intro ht; rw [div_at hd (n + 1) (show i - (t + 1) < ds.length by omega), div_at hd n (show i - (t + 1) < ds.length by omega), show i - (t + 1) + 1 = i - t by omega, ih (by omega)]
theorem dig_same {ds : List Int} (hd : ∀ d ∈ ds, 1 ≤ d) {n : Int} (hn : 0 ≤ n) {i : Nat} (hi : i < ds.length) (hP : (n + 1) % prodI (ds.drop (i + 1)) = 0) (h : digI ds n i + 1 < ds.getD i 0) (j : Nat) (hj : j < i) : digI ds n j = digI ds (n + 1) j := by
  have := (dig_yes hd hn hi hP h).2 (i - (j + 1)) (by omega); rw [show i - (i - (j + 1)) = j + 1 by omega] at this
  unfold digI
  rw [this]
theorem dig_lt {ds : List Int} (hd : ∀ d ∈ ds, 1 ≤ d) {n : Int} (hn : 0 ≤ n) (h1 : n < prodI ds) {i : Nat} (hi : i < ds.length) (hP : (n + 1) % prodI (ds.drop (i + 1)) = 0) (h : digI ds n i + 1 < ds.getD i 0) : n + 1 < prodI ds := by
  have := (dig_yes hd hn hi hP h).2 i (Nat.le_refl i); rw [Nat.sub_self, List.drop_zero, Int.ediv_eq_zero_of_lt hn h1] at this; have hp := prodI_one hd
  by_cases e : n + 1 < prodI ds
  · exact e
  · have := (Int.le_ediv_iff_mul_le (show 0 < prodI ds by omega) (a := 1) (b := n + 1)).2 (by omega)
    omega
theorem dig_no {ds : List Int} (hd : ∀ d ∈ ds, 1 ≤ d) {n : Int} (hn : 0 ≤ n) {i : Nat} (hi : i < ds.length) (hP : (n + 1) % prodI (ds.drop (i + 1)) = 0) (h : ¬ digI ds n i + 1 < ds.getD i 0) :
    digI ds (n + 1) i = 0 ∧ (n + 1) % prodI (ds.drop i) = 0 := by
  have hp := (prodI_drop hd (i + 1)).1; have hdi := hd _ (mem_getD hi); have h1 := div_up hp hn hP; have h2 := mod_over hdi (x := n / prodI (ds.drop (i + 1))) (by unfold digI at h; omega); rw [← h1] at h2; refine ⟨h2, ?_⟩; have a := Int.dvd_of_emod_eq_zero h2; have e := Int.ediv_mul_add_emod (n + 1) (prodI (ds.drop (i + 1))); rw [hP] at e; have : prodI (ds.drop (i + 1)) * ds.getD i 0 ∣ prodI (ds.drop (i + 1)) * ((n + 1) / prodI (ds.drop (i + 1))) := Int.mul_dvd_mul_left _ a; rw [← prod_at hi, Int.mul_comm (prodI (ds.drop (i + 1))), show (n + 1) / prodI (ds.drop (i + 1)) * prodI (ds.drop (i + 1)) = n + 1 by omega] at this; exact Int.emod_eq_zero_of_dvd this
theorem idx_yes {ds : List Int} (hd : ∀ d ∈ ds, 1 ≤ d) {n : Int} (hn : 0 ≤ n) {m : Nat} (h1 : 1 ≤ m) (hm : m ≤ ds.length) (hP : (n + 1) % prodI (ds.drop m) = 0) (h : digI ds n (m - 1) + 1 < ds.getD (m - 1) 0) :
    (mixL (idxL ds n) (idxL ds (n + 1)) m).set (m - 1) (digI ds n (m - 1) + 1) = idxL ds (n + 1) := by
  obtain ⟨k, rfl⟩ : ∃ k, m = k + 1 := ⟨m - 1, by omega⟩
  rw [Nat.add_sub_cancel] at h ⊢; have hl1 := idxL_len ds n; have hl2 := idxL_len ds (n + 1); have hy := dig_yes hd hn (show k < ds.length by omega) hP h; rw [← hy.1, ← idxL_get (show k < ds.length by omega), mix_down (by omega) (by omega)]; refine mix_full (by omega) (by omega) fun j hj => ?_; rw [idxL_get (by omega), idxL_get (by omega)]; exact dig_same hd hn (show k < ds.length by omega) hP h j hj
theorem idx_no {ds : List Int} (hd : ∀ d ∈ ds, 1 ≤ d) {n : Int} (hn : 0 ≤ n) {m : Nat} (h1 : 1 ≤ m) (hm : m ≤ ds.length) (hP : (n + 1) % prodI (ds.drop m) = 0) (h : ¬ digI ds n (m - 1) + 1 < ds.getD (m - 1) 0) :
    (mixL (idxL ds n) (idxL ds (n + 1)) m).set (m - 1) 0 = mixL (idxL ds n) (idxL ds (n + 1)) (m - 1) ∧ (n + 1) % prodI (ds.drop (m - 1)) = 0 := by
  obtain ⟨k, rfl⟩ : ∃ k, m = k + 1 := ⟨m - 1, by omega⟩
  rw [Nat.add_sub_cancel] at h ⊢; have hl1 := idxL_len ds n; have hl2 := idxL_len ds (n + 1); have hy := dig_no hd hn (show k < ds.length by omega) hP h; refine ⟨?_, hy.2⟩; rw [← mix_down (A := idxL ds n) (B := idxL ds (n + 1)) (k := k) (by omega) (by omega), idxL_get (show k < ds.length by omega), hy.1]
theorem idx_end {P n : Int} (hn : 0 ≤ n) (_h1 : n < P) (h : (n + 1) % P = 0) : ¬ n + 1 < P := fun hlt => by
  rw [Int.emod_eq_of_lt (by omega) hlt] at h
  omega
set_option maxHeartbeats 1000000 in
theorem ct_i_nextIndex (ds : List Int) (n : Int) (u v : Value) (w : World) (h : PH) (hle : PLe h (hp w)) (r : IntsR ds u (restP w h)) (ri : IntsO (idxL ds n) v h) (hd : ∀ d ∈ ds, 1 ≤ d ∧ d ≤ 8) (hn : 0 ≤ n ∧ n < prodI ds) (hl : ds.length ≤ 1000000) :
    Calls Try.prog 166 [u, v].toArray w (Ret w h (fun x h' => x = .bool (decide (n + 1 < prodI ds)) ∧ IntsO (idxL ds (n + 1)) v h')) := by
  have hd1 : ∀ d ∈ ds, 1 ≤ d := fun d h => (hd d h).1; have hil := idxL_len ds n; have hil2 := idxL_len ds (n + 1); refine calls_in Try.func166 rfl Try.ntmps166 rfl (Sat.start2 hle) ?_; have hle0 := r.le; have hle1 := ri.toR.le; refine wp_sc (wp_sq (sq_v rfl (v_assign rfl) rfl (sq_end (qs_n (wp_sc (wp_sc (wp_sq (sq_v rfl (v_move rfl) rfl (sq_v rfl (v_len Try.underlying25 rfl r.sl) rfl ?_))))))))); refine sq_v rfl (v_sub rfl rfl ((by unfold I64; omega))) rfl ?_; refine sq_v rfl (v_assign rfl) rfl (sq_end (qs_n (wp_bl ?_))); refine wp_lp (σ := Nat × PH) (fun z_ => [(0, u), (1, v), (4, .bool false), (5, num ((z_.1 : Int) - 1))]) (fun z_ => [z_.2, (restP w h)]) (fun z_ => z_.1 ≤ ds.length ∧ (n + 1) % prodI (ds.drop z_.1) = 0 ∧ IntsO (mixL (idxL ds n) (idxL ds (n + 1)) z_.1) v z_.2) (fun z_ => z_.1) (ds.length, h) (⟨by (try dsimp only); omega, by (try dsimp only); simp [prodI, Int.emod_one], by (try dsimp only); rw [mix_end (by omega) (by omega)]; exact ri⟩) ⟨rfl, rfl, rfl, (by first | rfl | exact ksub rfl (by first | omega | (simp; done) | (simp; omega))), trivial⟩ (fun _ s => s) ?_; rintro ⟨m, g⟩ ⟨hm, hP, q⟩; dsimp only at hm hP q ⊢; have hle_q := q.toR.le; have hml := mix_len (A := idxL ds n) (B := idxL ds (n + 1)) (k := m) (by omega) (by omega); have em : ((m : Int) - 1).toNat = m - 1 := by omega
  refine wp_sc (wp_sc (wp_sq (sq_v rfl (v_move rfl) rfl (sq_v rfl (v_geq rfl rfl) rfl (sq_end (qs_n ?_)))))); refine wp_cd rfl (fun c10 => ?_) (fun c10 => ?_)
  · refine wp_sk (qs_n (wp_sc (wp_bl (wp_sc (wp_sq (sq_v rfl (v_move rfl) rfl (sq_v rfl (v_move rfl) rfl ?_))))))); have hk : m - 1 < ds.length := (by omega); have hdm := hd _ (mem_getD hk); have hlow : (mixL (idxL ds n) (idxL ds (n + 1)) m).getD ((m : Int) - 1).toNat 0 = digI ds n (m - 1) := (by rw [em, mix_low (by omega) (by omega), idxL_get hk]); have hdg := (idxL_in hd1 n).2 (m - 1) hk; rw [idxL_get hk] at hdg; refine sq_v rfl (v_idxI Try.underlying25 ty_3 rfl rfl q.toR (by first | omega | (simp; omega) | (simp only [List.length_append, List.length_cons, List.length_nil]; omega) | (rw [List.length_set]; omega)) (by first | omega | (simp; omega) | (simp only [List.length_append, List.length_cons, List.length_nil]; omega) | (rw [List.length_set]; omega))) rfl ?_; refine sq_v rfl (v_loadI  0 ty_3 rfl rfl q.toR (by first | omega | (simp; omega) | (simp only [List.length_append, List.length_cons, List.length_nil]; omega) | (rw [List.length_set]; omega))) rfl ?_; refine sq_v rfl (v_add rfl rfl ((by unfold I64; omega))) rfl ?_; refine sq_v rfl (v_idxI Try.underlying25 ty_3 rfl rfl q.toR (by first | omega | (simp; omega) | (simp only [List.length_append, List.length_cons, List.length_nil]; omega) | (rw [List.length_set]; omega)) (by first | omega | (simp; omega) | (simp only [List.length_append, List.length_cons, List.length_nil]; omega) | (rw [List.length_set]; omega))) rfl ?_; refine sq_m 0 rfl rfl (m_storeI 0 ty_3 rfl rfl rfl q (by first | omega | (simp; omega) | (simp only [List.length_append, List.length_cons, List.length_nil]; omega) | (rw [List.length_set]; omega))) rfl ?_; rintro _ h_q4_6 ⟨rfl, q4_6⟩; refine sq_end ?_; rw [hlow, em] at q4_6; refine qs_n (wp_sc (wp_sc (wp_rj 9 [(0, true), (1, true), (2, true), (3, true), (4, true), (5, true), (6, true), (7, true), (8, true)] mixed_ok (by kernel_rfl) (rj_v rfl rfl (v_move rfl) rfl (rj_v rfl rfl (v_move rfl) rfl ?_))))); refine rj_v rfl rfl (v_idxI Try.underlying25 ty_3 rfl rfl q4_6.toR (by first | omega | (simp; omega) | (simp only [List.length_append, List.length_cons, List.length_nil]; omega) | (rw [List.length_set]; omega)) (by first | omega | (simp; omega) | (simp only [List.length_append, List.length_cons, List.length_nil]; omega) | (rw [List.length_set]; omega))) rfl ?_; refine rj_v rfl rfl (v_loadI  0 ty_3 rfl rfl q4_6.toR (by first | omega | (simp; omega) | (simp only [List.length_append, List.length_cons, List.length_nil]; omega) | (rw [List.length_set]; omega))) rfl ?_; refine rj_v rfl rfl (v_move rfl) rfl (rj_v rfl rfl (v_move rfl) rfl ?_); refine rj_v rfl rfl (v_idxI Try.underlying25 ty_3 rfl rfl r (by first | omega | (simp; omega) | (simp only [List.length_append, List.length_cons, List.length_nil]; omega) | (rw [List.length_set]; omega)) (by first | omega | (simp; omega) | (simp only [List.length_append, List.length_cons, List.length_nil]; omega) | (rw [List.length_set]; omega))) rfl ?_; refine rj_v rfl rfl (v_loadI  1 ty_3 rfl rfl r (by first | omega | (simp; omega) | (simp only [List.length_append, List.length_cons, List.length_nil]; omega) | (rw [List.length_set]; omega))) rfl ?_; refine rj_v rfl rfl (v_lss rfl rfl) rfl (rj_end ?_); have hg4 : ((mixL (idxL ds n) (idxL ds (n + 1)) m).set (m - 1) (digI ds n (m - 1) + 1)).getD ((m : Int) - 1).toNat 0 = digI ds n (m - 1) + 1 := by rw [em]; simp only [List.getD]; rw [List.getElem?_set_self (by omega)]; rfl
    have hc : (((mixL (idxL ds n) (idxL ds (n + 1)) m).set (m - 1) (digI ds n (m - 1) + 1)).getD ((m : Int) - 1).toNat 0 < ds.getD ((m : Int) - 1).toNat 0) ↔ digI ds n (m - 1) + 1 < ds.getD (m - 1) 0 := by rw [hg4, em]
    refine qs_n ?_; refine wp_cd rfl (fun c27 => ?_) (fun c27 => ?_)
    · refine wp_sc (wp_sq (sq_v rfl (v_assign rfl) rfl (sq_end (qs_n (wp_rt (qs_r (qs_br (qs_r (qs_r (qs_br (qs_r ?_))))))))))); exact qs_ret1 rfl rfl (fin_m 0 (i := 1) rfl rfl rfl (⟨by rw [decide_eq_true (dig_lt hd1 hn.1 hn.2 hk (by rw [show m - 1 + 1 = m by omega]; exact hP) (hc.1 c27))], by rw [← idx_yes hd1 hn.1 (by omega) hm hP (hc.1 c27)]; exact q4_6⟩))
    · refine wp_sk (qs_n (wp_sq (sq_v rfl (v_move rfl) rfl (sq_v rfl (v_move rfl) rfl ?_)))); refine sq_v rfl (v_idxI Try.underlying25 ty_3 rfl rfl q4_6.toR (by first | omega | (simp; omega) | (simp only [List.length_append, List.length_cons, List.length_nil]; omega) | (rw [List.length_set]; omega)) (by first | omega | (simp; omega) | (simp only [List.length_append, List.length_cons, List.length_nil]; omega) | (rw [List.length_set]; omega))) rfl ?_; refine sq_m 0 rfl rfl (m_storeI 0 ty_3 rfl rfl rfl q4_6 (by first | omega | (simp; omega) | (simp only [List.length_append, List.length_cons, List.length_nil]; omega) | (rw [List.length_set]; omega))) rfl ?_; rintro _ h_q7_3 ⟨rfl, q7_3⟩; refine sq_end ?_; have hno := idx_no hd1 hn.1 (show 1 ≤ m by omega) hm hP (fun h => c27 (hc.2 h)); rw [em, List.set_set, hno.1] at q7_3; refine qs_bn (qs_n (wp_sq (sq_v rfl (v_move rfl) rfl ?_))); refine sq_v rfl (v_sub rfl rfl ((by unfold I64; omega))) rfl ?_; refine sq_v rfl (v_assign rfl) rfl (sq_end ?_); exact qs_bk (m - 1, h_q7_3) ⟨by (try dsimp only); omega, hno.2, q7_3⟩ (by simp only; omega) ⟨rfl, rfl, rfl, (by first | rfl | exact ksub rfl (by first | omega | (simp; done) | (simp; omega))), trivial⟩ (fun _ s => s)
  · refine wp_ex (qs_x (qs_x (qs_bx (qs_n (wp_sc (wp_sq (sq_v rfl (v_assign rfl) rfl (sq_end (qs_n (wp_rt ?_)))))))))); exact qs_ret1 rfl rfl (fin_m 0 (i := 1) rfl rfl rfl (⟨by rw [show m = 0 by omega, List.drop_zero] at hP; rw [decide_eq_false (idx_end hn.1 hn.2 hP)], by rw [show m = 0 by omega, mix_zero] at q; exact q⟩))
end Go.Proofs.Ytmddmahaikineaa
namespace Go.Proofs.Ytmddmahaikineaa
set_option maxRecDepth 100000
open Go.RowKit
def setP (xs ys : List Int) (j : Nat) : Prop := ys.getD j 0 ∈ xs ∧ ys.getD j 0 ∉ ys.take j
def setL (xs ys : List Int) : Prop := xs.length = ys.length ∧ ∀ j, j < ys.length → setP xs ys j
theorem perm_of : ∀ {xs ys : List Int}, xs.Nodup → (∀ x ∈ xs, x ∈ ys) → ys.length ≤ xs.length → xs.Perm ys
  | [], ys, _, _, hl => by
    have : ys = [] := List.eq_nil_of_length_eq_zero (by simpa using hl); rw [this]
  | x :: xs, ys, hn, hs, hl => by
    have hx := hs x (by simp); have hp := List.perm_cons_erase hx; have hnx := List.nodup_cons.1 hn; refine (List.Perm.cons x (perm_of hnx.2 (fun y hy => ?_) ?_)).trans hp.symm
    · exact (List.mem_erase_of_ne (fun e => hnx.1 (by rw [← e]; exact hy))).2 (hs y (by simp [hy]))
    · have := List.length_erase_of_mem hx; simp only [List.length_cons] at hl
      omega
theorem prodI_perm {a b : List Int} (h : a.Perm b) : prodI a = prodI b := by
  induction h with
  | nil => rfl
  | cons x _ ih => rw [prodI_cons, prodI_cons, ih]
  | swap x y l => rw [prodI_cons, prodI_cons, prodI_cons, prodI_cons, Int.mul_left_comm]
  | trans _ _ h1 h2 => exact h1.trans h2
def permD (t : Ten) (ls : List Int) : List Int := idxAt t.l t.d ls
def permX (wd : Int) (t : Ten) (ls ds : List Int) (m : Nat) : List Int := (List.range m).flatMap fun (i : Nat) => elt t.x wd (offL t.d (idxAt ls (idxL ds i) t.l))
noncomputable def permT (k n : Int) (t : Ten) (ls : List Int) : Ten := ⟨ls, permD t ls, permX (widthI k n) t ls (permD t ls) (prodI (permD t ls)).toNat⟩
theorem permX_step (wd : Int) (t : Ten) (ls ds : List Int) (m : Nat) : permX wd t ls ds (m + 1) = permX wd t ls ds m ++ elt t.x wd (offL t.d (idxAt ls (idxL ds m) t.l)) := by
  simp [permX, List.range_succ]
theorem permD_len (t : Ten) (ls : List Int) : (permD t ls).length = ls.length := List.length_map _
structure PermOK (k p n : Int) (t : Ten) (ls : List Int) : Prop where
  ring : ringL k p n
  ten : tensorL k p n t.l t.d t.x
  perm : ls.Perm t.l
section
variable {k p n : Int} {t : Ten} {ls : List Int}
theorem PermOK.axes (h : PermOK k p n t ls) : axesL t.l t.d := tensor_axes h.ten
theorem PermOK.nodup (h : PermOK k p n t ls) : ls.Nodup := (List.Perm.nodup_iff h.perm).2 (axes_nodup h.axes)
theorem PermOK.len (h : PermOK k p n t ls) : ls.length = t.l.length ∧ t.l.length = t.d.length ∧ ls.length ≤ 12 := by
  have := h.perm.length_eq; have := h.axes; exact ⟨by omega, this.2.1, by have := this.1; omega⟩
theorem PermOK.find (h : PermOK k p n t ls) {j : Nat} (hj : j < ls.length) : 0 ≤ findI t.l (ls.getD j 0) ∧ findI t.l (ls.getD j 0) < t.d.length ∧ t.l.getD (findI t.l (ls.getD j 0)).toNat 0 = ls.getD j 0 := by
  have hm : ls.getD j 0 ∈ t.l := h.perm.mem_iff.1 (mem_getD hj); have h1 := findI_ge.2 hm; have h2 := findI_get hm; have := h.len; exact ⟨h1, by omega, h2.2⟩
theorem PermOK.dims (h : PermOK k p n t ls) : dimsIn (permD t ls) := fun j hj => by
  rw [permD_len] at hj; have hf := h.find hj; rw [permD, idxAt, map_getD hj]; exact axes_dims h.axes _ (by omega)
theorem PermOK.prod (h : PermOK k p n t ls) : prodI (permD t ls) = prodI t.d := by
  have e : t.d = idxAt t.l t.d t.l := by
    apply ext_getD (by simp [idxAt, h.axes.2.1])
    intro j hj; have hj' : j < t.l.length := by rw [h.axes.2.1]; exact hj
    rw [idxAt, map_getD hj', find_at h.axes hj', Int.toNat_natCast]
  conv => rhs; rw [e]
  exact prodI_perm (h.perm.map _)
theorem PermOK.small (h : PermOK k p n t ls) : 1 ≤ prodI (permD t ls) ∧ prodI (permD t ls) ≤ 4096 := by
  refine ⟨prodI_one fun d hd => (dims_mem h.dims d hd).1, ?_⟩; rw [h.prod]; exact (sizeI_ge.1 h.ten.2.1).2
theorem PermOK.back (h : PermOK k p n t ls) {j : Nat} (hj : j < t.l.length) : (findI ls (t.l.getD j 0)).toNat < ls.length ∧ ls.getD (findI ls (t.l.getD j 0)).toNat 0 = t.l.getD j 0 :=
  findI_get (h.perm.mem_iff.2 (mem_getD hj))
theorem PermOK.idx (h : PermOK k p n t ls) (i : Int) : idxIn t.d (idxAt ls (idxL (permD t ls) i) t.l) := by
  have hd : ∀ d ∈ permD t ls, 1 ≤ d := fun d hd => (dims_mem h.dims d hd).1; refine ⟨by simp [idxAt, h.axes.2.1], fun j hj => ?_⟩; have hj' : j < t.l.length := by rw [h.axes.2.1]; exact hj
  have hb := h.back hj'; have hv := (idxL_in hd i).2 (findI ls (t.l.getD j 0)).toNat (by rw [permD_len]; exact hb.1); rw [idxAt, map_getD hj']; rw [show (permD t ls).getD (findI ls (t.l.getD j 0)).toNat 0 = t.d.getD j 0 by
    rw [permD, idxAt, map_getD hb.1, hb.2, find_at h.axes hj', Int.toNat_natCast]] at hv
  exact hv
theorem PermOK.off (h : PermOK k p n t ls) (i : Int) : 0 ≤ offL t.d (idxAt ls (idxL (permD t ls) i) t.l) ∧ offL t.d (idxAt ls (idxL (permD t ls) i) t.l) < prodI t.d := by
  have := offL_in (fun d hd => (dims_mem (axes_dims h.axes) d hd).1) (h.idx i)
  omega
end
end Go.Proofs.Ytmddmahaikineaa
namespace Go.Proofs.Ytmddmahaikineaa
set_option maxRecDepth 100000
open Go.RowKit
theorem dotTo_cons (a b : Int) (xs ys : List Int) : ∀ m, dotTo (a :: xs) (b :: ys) (m + 1) = a * b + dotTo xs ys m
  | 0 => by simp [dotTo]
  | m + 1 => by
    have ih := dotTo_cons a b xs ys m; rw [dotTo, ih, dotTo]; simp only [List.getD_cons_succ]
    omega
theorem dotL_cons (a b : Int) (xs ys : List Int) : dotL (a :: xs) (b :: ys) = a * b + dotL xs ys := by
  unfold dotL
  rw [List.length_cons, dotTo_cons]
theorem steps_skip {labels ls ds : List Int} {l d : Int} (h : l ∉ labels) : stepsL labels (l :: ls) (d :: ds) = stepsL labels ls ds :=
  List.map_congr_left fun x hx => by simp only [strOf]; rw [if_neg (fun e => h (by rw [← e]; exact hx))]
theorem sl_full : ∀ {ls ds is : List Int}, ls.Nodup → ls.length = ds.length → is.length = ls.length → dotL (stepsL ls ls ds) is = offL ds is
  | [], [], [], _, _, _ => by simp [dotL, stepsL, dotTo, offL]
  | l :: ls, d :: ds, i :: is, hn, hl, hi => by
    have hn' := List.nodup_cons.1 hn; have ih := sl_full (ls := ls) (ds := ds) (is := is) hn'.2 (by simpa using hl) (by simpa using hi); have e : stepsL (l :: ls) (l :: ls) (d :: ds) = prodI ds :: stepsL ls ls ds := by
      rw [← steps_skip (l := l) (d := d) hn'.1]
      simp [stepsL, strOf]
    rw [e, dotL_cons, ih, offL, Int.mul_comm]
  | [], _ :: _, _, _, hl, _ => by simp at hl
  | _ :: _, [], _, _, hl, _ => by simp at hl
  | [], [], _ :: _, _, _, hi => by simp at hi
  | _ :: _, _ :: _, [], _, _, hi => by simp at hi
theorem sl_dot : ∀ {ls ds is : List Int} {j : Nat} (v : Int), ls.Nodup → ls.length = ds.length → j < ls.length → is.length + 1 = ls.length → v * strOf ls ds (ls.getD j 0) + dotL (stepsL (ls.eraseIdx j) ls ds) is = offL ds (is.insertIdx j v)
  | l :: ls, d :: ds, is, 0, v, hn, hl, _, hi => by
    have hn' := List.nodup_cons.1 hn; have h := sl_full (ls := ls) (ds := ds) (is := is) hn'.2 (by simpa using hl) (by simpa using hi); rw [List.eraseIdx_zero, List.tail_cons, steps_skip hn'.1, h]
    simp [strOf, offL]
  | l :: ls, d :: ds, i :: is, j + 1, v, hn, hl, hj, hi => by
    have hn' := List.nodup_cons.1 hn; have hj' : j < ls.length := by simpa using hj
    have ih := sl_dot (ls := ls) (ds := ds) (is := is) (j := j) v hn'.2 (by simpa using hl) hj' (by simpa using hi); have hne : ls.getD j 0 ≠ l := fun e => hn'.1 (e ▸ mem_getD hj'); have hm : l ∉ ls.eraseIdx j := fun h => hn'.1 (List.mem_of_mem_eraseIdx h); have e : stepsL (l :: ls.eraseIdx j) (l :: ls) (d :: ds) = prodI ds :: stepsL (ls.eraseIdx j) ls ds := by
      rw [← steps_skip (l := l) (d := d) hm]
      simp [stepsL, strOf]
    rw [List.eraseIdx_cons_succ, e, dotL_cons, List.insertIdx_succ_cons, offL, ← ih, List.getD_cons_succ]; simp only [strOf]; rw [if_neg hne, Int.mul_comm (prodI ds)]
    omega
  | [], _, _, _, _, _, _, hj, _ => by simp at hj
  | _ :: _, [], _, _, _, _, hl, _, _ => by simp at hl
  | l :: ls, _ :: _, [], j + 1, _, _, _, hj, hi => by
    have h1 : (l :: ls).length = ls.length + 1 := rfl; have h2 : ([] : List Int).length = 0 := rfl
    omega
theorem idxL_cons (d : Int) (ds : List Int) (n : Int) : idxL (d :: ds) n = (n / prodI ds % d) :: idxL ds n := by
  unfold idxL
  rw [List.length_cons, List.range_succ_eq_map, List.map_cons, List.map_map]
  rfl
theorem idxL_shift : ∀ {ds : List Int} (_ : ∀ d ∈ ds, 1 ≤ d) (q m : Int), idxL ds (q * prodI ds + m) = idxL ds m
  | [], _, q, m => rfl
  | d :: ds, hd, q, m => by
    have h1 := prodI_one (ds := ds) fun x hx => hd x (by simp [hx]); have hd1 := hd d (by simp); have ih := idxL_shift (ds := ds) (fun x hx => hd x (by simp [hx])) (q * d) m; have e : q * prodI (d :: ds) + m = q * d * prodI ds + m := by rw [prodI_cons, Int.mul_assoc]
    rw [e, idxL_cons, idxL_cons, ih]
    congr 1
    rw [Int.add_comm, Int.add_mul_ediv_right _ _ (by omega), Int.add_mul_emod_self_right]
theorem range_blocks (b : Nat) : ∀ a : Nat, List.range (a * b) = (List.range a).flatMap fun q => (List.range b).map fun r => q * b + r
  | 0 => by simp
  | a + 1 => by
    rw [Nat.add_mul, Nat.one_mul, List.range_add, range_blocks b a, List.range_succ, List.flatMap_append]
    simp
theorem one_block {α : Type} (g : Nat → List α) {v : Nat} : ∀ {a : Nat}, v < a → (List.range a).flatMap (fun q => if q = v then g q else []) = g v
  | 0, h => by omega
  | a + 1, h => by
    rw [List.range_succ, List.flatMap_append]
    by_cases e : a = v
    · subst e; have h0 : (List.range a).flatMap (fun q => if q = a then g q else []) = [] := List.flatMap_eq_nil_iff.2 fun q hq => by
        have := List.mem_range.1 hq; rw [if_neg (by omega)]
      rw [h0]; simp
    · rw [one_block g (show v < a by omega)]; simp [e]
theorem flatMap_congr' {α β : Type} {l : List α} {f g : α → List β} (h : ∀ x ∈ l, f x = g x) : l.flatMap f = l.flatMap g := by
  induction l with
  | nil => rfl
  | cons x l ih => rw [List.flatMap_cons, List.flatMap_cons, h x (by simp), ih fun y hy => h y (by simp [hy])]
theorem filter_flatMap {α β : Type} (p : β → Bool) (f : α → List β) (l : List α) : (l.flatMap f).filter p = l.flatMap fun x => (f x).filter p := by
  induction l with
  | nil => rfl
  | cons x l ih => rw [List.flatMap_cons, List.flatMap_cons, List.filter_append, ih]
theorem map_flatMap' {α β γ : Type} (g : β → γ) (f : α → List β) (l : List α) : (l.flatMap f).map g = l.flatMap fun x => (f x).map g := by
  induction l with
  | nil => rfl
  | cons x l ih => rw [List.flatMap_cons, List.flatMap_cons, List.map_append, ih]
def slHas (ds : List Int) (j : Nat) (v : Int) (n : Nat) : Bool := decide ((idxL ds n).getD j 0 = v)
def slTo (ds : List Int) (j : Nat) (v : Int) (m : Nat) : List Nat := (List.range m).filter (slHas ds j v)
def slAt (ds : List Int) (j : Nat) (v : Int) (m : Nat) : Nat := (offL ds ((idxL (ds.eraseIdx j) m).insertIdx j v)).toNat
theorem ins_in {ds is : List Int} {j : Nat} {v : Int} (hj : j < ds.length) (hv : 0 ≤ v ∧ v < ds.getD j 0) (h : idxIn (ds.eraseIdx j) is) : idxIn ds (is.insertIdx j v) := by
  have hl := h.1; rw [List.length_eraseIdx_of_lt hj] at hl; refine ⟨by rw [List.length_insertIdx_of_le_length (by omega)]; omega, fun i hi => ?_⟩
  rcases Nat.lt_trichotomy i j with c | c | c
  · have e1 : (is.insertIdx j v).getD i 0 = is.getD i 0 := by simp only [List.getD]; rw [List.getElem?_insertIdx_of_lt c]
    have e2 : (ds.eraseIdx j).getD i 0 = ds.getD i 0 := by simp only [List.getD]; rw [List.getElem?_eraseIdx_of_lt c]
    have := h.2 i (by rw [List.length_eraseIdx_of_lt hj]; omega); rw [e1, ← e2]; exact this
  · subst c; have e1 : (is.insertIdx i v).getD i 0 = v := by simp only [List.getD]; rw [List.getElem?_insertIdx_self, if_pos (by omega)]; rfl
    rw [e1]; exact hv
  · have e1 : (is.insertIdx j v).getD i 0 = is.getD (i - 1) 0 := by simp only [List.getD]; rw [List.getElem?_insertIdx_of_gt c]
    have e2 : (ds.eraseIdx j).getD (i - 1) 0 = ds.getD i 0 := by
      simp only [List.getD]; rw [List.getElem?_eraseIdx_of_ge (by omega), show i - 1 + 1 = i by omega]
    have := h.2 (i - 1) (by rw [List.length_eraseIdx_of_lt hj]; omega); rw [e1, ← e2]; exact this
theorem erase_mem {ds : List Int} {j : Nat} {p : Int → Prop} (h : ∀ d ∈ ds, p d) : ∀ d ∈ ds.eraseIdx j, p d := fun d hd => h d (List.mem_of_mem_eraseIdx hd)
theorem sl_in {ds : List Int} (hd : ∀ d ∈ ds, 1 ≤ d) {j : Nat} (hj : j < ds.length) {v : Int} (hv : 0 ≤ v ∧ v < ds.getD j 0) (m : Int) : 0 ≤ offL ds ((idxL (ds.eraseIdx j) m).insertIdx j v) ∧ offL ds ((idxL (ds.eraseIdx j) m).insertIdx j v) ≤ prodI ds - 1 :=
  offL_in hd (ins_in hj hv (idxL_in (erase_mem hd) m))
theorem sl_eq : ∀ {ds : List Int} (_ : ∀ d ∈ ds, 1 ≤ d) {j : Nat} (_ : j < ds.length) {v : Int} (_ : 0 ≤ v ∧ v < ds.getD j 0), slTo ds j v (prodI ds).toNat = (List.range (prodI (ds.eraseIdx j)).toNat).map (slAt ds j v)
  | [], _, j, hj, _, _ => by simp at hj
  | d :: ds, hd, 0, _, v, hv => by
    have hd' : ∀ x ∈ ds, 1 ≤ x := fun x hx => hd x (by simp [hx]); have hd1 := hd d (by simp); have hP := prodI_one hd'; have hv' : 0 ≤ v ∧ v < d := by simpa using hv
    have eP : (prodI (d :: ds)).toNat = d.toNat * (prodI ds).toNat := by rw [prodI_cons, Int.toNat_mul (by omega) (by omega)]
    rw [slTo, eP, range_blocks, filter_flatMap, List.eraseIdx_zero, List.tail_cons]; have e : ∀ q ∈ List.range d.toNat, ((List.range (prodI ds).toNat).map fun r => q * (prodI ds).toNat + r).filter (slHas (d :: ds) 0 v) = if q = v.toNat then (List.range (prodI ds).toNat).map fun r => q * (prodI ds).toNat + r else [] := fun q hq => by
      have hq' := List.mem_range.1 hq; have hdig : ∀ r, r < (prodI ds).toNat → slHas (d :: ds) 0 v (q * (prodI ds).toNat + r) = decide (q = v.toNat) := fun r hr => by
        unfold slHas
        rw [idxL_cons]; have e1 : ((q * (prodI ds).toNat + r : Nat) : Int) = r + q * prodI ds := by
          rw [Int.natCast_add, Int.natCast_mul, show (((prodI ds).toNat : Nat) : Int) = prodI ds by omega, Int.add_comm]
        rw [e1, Int.add_mul_ediv_right _ _ (by omega), Int.ediv_eq_zero_of_lt (by omega) (by omega), Int.zero_add, Int.emod_eq_of_lt (by omega) (by omega), Bool.eq_iff_iff, decide_eq_true_eq, decide_eq_true_eq]; simp only [List.getD_cons_zero]
        omega
      by_cases c : q = v.toNat
      · rw [if_pos c, List.filter_eq_self]; intro x hx; obtain ⟨r, hr, rfl⟩ := List.mem_map.1 hx; rw [hdig r (List.mem_range.1 hr)]; simpa using c
      · rw [if_neg c, List.filter_eq_nil_iff]; intro x hx; obtain ⟨r, hr, rfl⟩ := List.mem_map.1 hx; rw [hdig r (List.mem_range.1 hr)]; simpa using c
    rw [flatMap_congr' e, one_block _ (show v.toNat < d.toNat by omega)]; refine List.map_congr_left fun r hr => ?_; have hr' := List.mem_range.1 hr
    unfold slAt
    rw [List.eraseIdx_zero, List.tail_cons, List.insertIdx_zero, offL, offL_idx hd' (by omega) (by omega), Int.toNat_add (Int.mul_nonneg hv'.1 (by omega)) (by omega), Int.toNat_mul hv'.1 (by omega)]
    simp
  | d :: ds, hd, j + 1, hj, v, hv => by
    have hd' : ∀ x ∈ ds, 1 ≤ x := fun x hx => hd x (by simp [hx]); have hd1 := hd d (by simp); have hP := prodI_one hd'; have hj' : j < ds.length := by simpa using hj
    have hv' : 0 ≤ v ∧ v < ds.getD j 0 := by simpa using hv
    have he := erase_mem (j := j) hd'; have hP' := prodI_one he; have ih := sl_eq hd' hj' hv'; have eP : (prodI (d :: ds)).toNat = d.toNat * (prodI ds).toNat := by rw [prodI_cons, Int.toNat_mul (by omega) (by omega)]
    have eP' : (prodI ((d :: ds).eraseIdx (j + 1))).toNat = d.toNat * (prodI (ds.eraseIdx j)).toNat := by rw [List.eraseIdx_cons_succ, prodI_cons, Int.toNat_mul (by omega) (by omega)]
    rw [slTo, eP, eP', range_blocks, range_blocks, filter_flatMap, map_flatMap']; refine flatMap_congr' fun q hq => ?_; have hq' := List.mem_range.1 hq; rw [List.filter_map]; have e2 : (slHas (d :: ds) (j + 1) v ∘ fun r => q * (prodI ds).toNat + r) = slHas ds j v := by
      funext r
      simp only [Function.comp, slHas]; rw [idxL_cons, List.getD_cons_succ]; have e1 : ((q * (prodI ds).toNat + r : Nat) : Int) = q * prodI ds + r := by
        rw [Int.natCast_add, Int.natCast_mul, show (((prodI ds).toNat : Nat) : Int) = prodI ds by omega]
      rw [e1, idxL_shift hd']
    rw [e2]; have ih' : (List.range (prodI ds).toNat).filter (slHas ds j v) = (List.range (prodI (ds.eraseIdx j)).toNat).map (slAt ds j v) := ih; rw [ih', List.map_map, List.map_map]; refine List.map_congr_left fun m hm => ?_; have hm' := List.mem_range.1 hm; have hin := sl_in hd' hj' hv' m; simp only [Function.comp, slAt]; have e1 : ((q * (prodI (ds.eraseIdx j)).toNat + m : Nat) : Int) = m + q * prodI (ds.eraseIdx j) := by
      rw [Int.natCast_add, Int.natCast_mul, show (((prodI (ds.eraseIdx j)).toNat : Nat) : Int) = prodI (ds.eraseIdx j) by omega, Int.add_comm]
    rw [List.eraseIdx_cons_succ, idxL_cons, e1, Int.add_mul_ediv_right _ _ (by omega), Int.ediv_eq_zero_of_lt (by omega) (by omega), Int.zero_add, Int.emod_eq_of_lt (by omega) (by omega), List.insertIdx_succ_cons, offL, Int.add_comm (m : Int), idxL_shift he,
      Int.toNat_add (Int.mul_nonneg (by omega) (by omega)) hin.1, Int.toNat_mul (by omega) (by omega)]
    simp
end Go.Proofs.Ytmddmahaikineaa
namespace Go.Proofs.Ytmddmahaikineaa
set_option maxRecDepth 100000
open Go.RowKit
theorem ct_i_axisOf (ls : List Int) (x : Int) (a b c : Value) (w : World) (r : IntsR ls a (hp w)) (_hb : b.oneCell' = true) (_hc : c.oneCell' = true) : Calls Try.prog 152 [tenV a b c, num x].toArray w (RetV w (num (findI ls x))) := by
  refine calls_in Try.func152 rfl Try.ntmps152 rfl (Sat.start w) ?_; have hle0 := r.le; refine wp_sc (wp_sq ?_); refine sq_x rfl (x_box rfl rfl) rfl ?_; rintro _ _ ⟨b2, rfl, rfl⟩; refine sq_v rfl (v_assign rfl) rfl (sq_end (qs_n (wp_sc (wp_sc (wp_sq (sq_v rfl (v_fieldAddr fd_108_0 ty_25 (by decide) rfl) rfl (sq_v rfl (v_loadB 0 ty_25 rfl rfl rfl) rfl (sq_v rfl (v_len Try.underlying25 rfl r.sl) rfl (sq_v rfl (v_move rfl) rfl (sq_end (qs_n (wp_bl ?_)))))))))))); refine wp_lp (σ := Nat) (fun z_ => [(1, num x), (4, num 0), (8, a), (9, num ls.length), (10, num z_)]) (fun z_ => [box b2 [a, b, c] 108, hp w]) (fun z_ => z_ ≤ ls.length ∧ (∀ j, j < z_ → ls.getD j 0 ≠ x)) (fun z_ => ls.length - z_) 0 (⟨by omega, fun j hj => by omega⟩) ⟨rfl, rfl, rfl, rfl, (by first | rfl | exact ksub rfl (by first | omega | (simp; done) | (simp; omega))), trivial⟩ (fun _ s => s) ?_; rintro i ⟨hi, hv⟩; refine wp_sc (wp_sq (sq_v rfl (v_lss rfl rfl) rfl (sq_end (qs_n (wp_sc ?_))))); refine wp_cd rfl (fun c11 => ?_) (fun c11 => ?_)
  · refine wp_sk (qs_n (wp_sc (wp_bl (wp_sc (wp_sq (sq_v rfl (v_move rfl) rfl ?_)))))); refine sq_v rfl (v_idxI Try.underlying25 ty_3 rfl rfl r (by first | omega | (simp; omega) | (simp only [List.length_append, List.length_cons, List.length_nil]; omega) | (rw [List.length_set]; omega)) (by first | omega | (simp; omega) | (simp only [List.length_append, List.length_cons, List.length_nil]; omega) | (rw [List.length_set]; omega))) rfl ?_; refine sq_v rfl (v_loadI (k := i) 1 ty_3 rfl rfl r (by first | omega | (simp; omega) | (simp only [List.length_append, List.length_cons, List.length_nil]; omega) | (rw [List.length_set]; omega))) rfl ?_; refine sq_v rfl (v_assign rfl) rfl (sq_v rfl (v_assign rfl) rfl (sq_end (qs_n (wp_sc (wp_sq (sq_v rfl (v_move rfl) rfl (sq_v rfl (v_move rfl) rfl (sq_v rfl (v_eql rfl rfl) rfl (sq_end (qs_n ?_)))))))))); refine wp_cd rfl (fun c17 => ?_) (fun c17 => ?_)
    · refine wp_sc (wp_sq (sq_v rfl (v_move rfl) rfl (sq_v rfl (v_assign rfl) rfl (sq_end (qs_n (wp_rt (qs_br (qs_r (qs_r (qs_br (qs_r ?_))))))))))); exact qs_ret1 rfl rfl (fin_q (i := 1) rfl (by rw [idx_first hv (by omega) c17]))
    · refine wp_sk (qs_bn (qs_n (wp_sq ?_))); refine sq_v rfl (v_add rfl rfl ((by unfold I64; omega))) rfl ?_; refine sq_v rfl (v_move rfl) rfl (sq_end ?_); exact qs_bk (i + 1) ⟨by omega, step_all hv c17⟩ (by omega) ⟨rfl, rfl, rfl, rfl, (by first | rfl | exact ksub rfl (by first | omega | (simp; done) | (simp; omega))), trivial⟩ (fun _ s => s)
  · refine wp_ex (qs_x (qs_x (qs_bx (qs_n (wp_sc (wp_sq (sq_v rfl (v_assign rfl) rfl (sq_end (qs_n (wp_rt ?_)))))))))); exact qs_ret1 rfl rfl (fin_q (i := 1) rfl (by rw [findI_none (not_mem_of fun j hj => hv j (by omega))]))
theorem ct_u_axisOf (ls ds xs : List Int) (x : Int) (a b c : Value) (w : World) (r : IntsR ls a (hp w)) (r2 : IntsR ds b (hp w)) (r3 : IntsR xs c (hp w)) : Calls Try.prog 152 [tenV a b c, num x].toArray w (RetV w (num (findI ls x))) :=
  ct_i_axisOf ls x a b c w r r2.sl.one r3.sl.one
end Go.Proofs.Ytmddmahaikineaa
namespace Go.Proofs.Ytmddmahaikineaa
set_option maxRecDepth 100000
open Go.RowKit
theorem Made.un {a b : PH} {la lb : List PH} (ma : Made a la) (mb : Made b lb) (hd : PDj a b) : Made (PUn a b) (la ++ lb) := by
  refine ⟨sepL_append.2 ⟨ma.sep, mb.sep, fun x hx y hy => (((hd.mono (ma.le x hx)).symm).mono (mb.le y hy)).symm⟩, fun x hx => ?_, fun k o e => ?_⟩
  · rcases List.mem_append.1 hx with hx | hx
    · exact (ma.le x hx).trans (PLe.un_l _ _)
    · exact (mb.le x hx).trans (PLe.un_r hd)
  · unfold PUn at e
    split at e
    · rename_i y hy
      cases e
      obtain ⟨x, hx, hxe⟩ := ma.dom k _ hy; exact ⟨x, by simp [hx], hxe⟩
    · obtain ⟨x, hx, hxe⟩ := mb.dom k _ e; exact ⟨x, by simp [hx], hxe⟩
/-- Slices that own their cells, all in one part. -/
def OwnH (xss : List (List Int)) (vs : List Value) (h : PH) : Prop := ∃ l, OwnL xss vs l ∧ Made h l
theorem OwnH.nil : OwnH [] [] emp := ⟨[], OwnL.nil, ⟨trivial, fun x hx => by simp at hx, fun k o e => by cases e⟩⟩
theorem OwnH.snoc {ts : List Ten} {t : Ten} {vs : List Value} {a b c : Value} {h h' : PH} (o : OwnH (flat ts) vs h) (r : TriO t a b c h') (hd : PDj h h') : OwnH (flat (ts ++ [t])) (vs ++ [a, b, c]) (PUn h h') := by
  obtain ⟨l, ol, m⟩ := o; obtain ⟨h1, h2, h3, r1, r2, r3, m'⟩ := r; refine ⟨l ++ [h1, h2, h3], ?_, m.un m' hd⟩; rw [flat_append]; exact ol.append (OwnL.three r1 r2 r3)
theorem ten_len {k p n : Int} {t : Ten} (h : tensorL k p n t.l t.d t.x) : t.l.length ≤ 12 ∧ t.d.length ≤ 12 ∧ t.x.length ≤ 17592186044416 := by
  have hax := tensor_axes h; have h1 := prodI_one fun d hd => (dims_mem (axes_dims hax) d hd).1; have := elt_fits h (i := 0) (by omega); exact ⟨hax.1, by have := hax.2.1; have := hax.1; omega, this.2⟩
theorem ct_s_l05Copy (t : Ten) (a b c : Value) (w : World) (r1 : IntsR t.l a (hp w)) (r2 : IntsR t.d b (hp w)) (r3 : IntsR t.x c (hp w)) (hl : t.l.length ≤ 12 ∧ t.d.length ≤ 12 ∧ t.x.length ≤ 17592186044416) :
    Calls Try.prog 160 [tenV a b c].toArray w (Ret w emp (TenT t)) := by
  refine calls_in Try.func160 rfl Try.ntmps160 rfl (Sat.start w) ?_; have hle0 := r1.le; have hle1 := r2.le; have hle2 := r3.le; refine wp_sc (wp_sq ?_); refine sq_x rfl (x_box rfl rfl) rfl ?_; rintro _ _ ⟨b1, rfl, rfl⟩; refine sq_x rfl (x_alloc ty_108 rfl) rfl ?_; rintro _ _ ⟨b2, rfl, rfl⟩; refine sq_end (qs_n (wp_sc (wp_rj 10 [(0, true), (1, true), (3, true), (4, true), (6, true), (7, true), (2, false), (5, false), (8, false), (9, true), (10, false)] mixed_ok (by kernel_rfl) (rj_v rfl rfl (v_fieldAddr fd_108_0 ty_25 (by decide) rfl) rfl (rj_v rfl rfl (v_loadB 1 ty_25 rfl rfl rfl) rfl (rj_v rfl rfl (v_fieldAddr fd_108_1 ty_25 (by decide) rfl) rfl (rj_v rfl rfl (v_loadB 1 ty_25 rfl rfl rfl) rfl (rj_v rfl rfl (v_fieldAddr fd_108_2 ty_25 (by decide) rfl) rfl (rj_v rfl rfl (v_loadB 1 ty_25 rfl rfl rfl) rfl ?_))))))))); refine rj_x rfl rfl (x_call rfl en_83 (fun w s => ct_s_l05Ints _ _ w (r1.mono (s.get 2 rfl)) (by first | assumption | omega))) rfl ?_; rintro v5 h5 r5; refine rj_x rfl rfl (x_call rfl en_83 (fun w s => ct_s_l05Ints _ _ w (r2.mono (s.get 3 rfl)) (by first | assumption | omega))) rfl ?_; rintro v8 h8 r8; refine rj_x rfl rfl (x_call rfl en_83 (fun w s => ct_s_l05Ints _ _ w (r3.mono (s.get 4 rfl)) (by first | assumption | omega))) rfl ?_; rintro v11 h11 r11; refine rj_v rfl rfl (v_build [v5, v8, v11] rfl (by obtain ⟨_, _, rfl⟩ := r5.toR.sl; obtain ⟨_, _, rfl⟩ := r8.toR.sl; obtain ⟨_, _, rfl⟩ := r11.toR.sl; kernel_rfl)) rfl ?_; refine rj_m 3 rfl rfl rfl rfl (m_store 3 ty_108 rfl rfl rfl rfl (by simp [r5.toR.sl.one, r8.toR.sl.one, r11.toR.sl.one]) rfl (Nat.le_of_ble_eq_true rfl)) rfl ?_; rintro _ _ ⟨rfl, rfl⟩; refine rj_end (qs_n (wp_rt ?_)); refine qs_close [box b2 _ _, hp w] [h5, h8, h11] (fun _ s => s.pick [3, 5, 2, 1, 0] (by decide) rfl) (fun md => ?_); exact qs_retc 1 rfl ty_108 rfl rfl rfl (fin_t 0 (i := 2) rfl rfl rfl ⟨_, _, _, rfl, _, _, _, r5, r8, r11, md⟩)
theorem ct_i_copyTensor (t : Ten) (a b c : Value) (w : World) (r1 : IntsR t.l a (hp w)) (r2 : IntsR t.d b (hp w)) (r3 : IntsR t.x c (hp w)) (hl : t.l.length ≤ 12 ∧ t.d.length ≤ 12 ∧ t.x.length ≤ 17592186044416) :
    Calls Try.prog 151 [tenV a b c].toArray w (Ret w emp (TenT t)) := by
  refine calls_in Try.func151 rfl Try.ntmps151 rfl (Sat.start w) ?_; have hle0 := r1.le; have hle1 := r2.le; have hle2 := r3.le; refine wp_sc (wp_sq ?_); refine sq_x rfl (x_box rfl rfl) rfl ?_; rintro _ _ ⟨b1, rfl, rfl⟩; refine sq_x rfl (x_alloc ty_108 rfl) rfl ?_; rintro _ _ ⟨b2, rfl, rfl⟩; refine sq_end (qs_n (wp_sc (wp_rj 10 [(0, true), (1, true), (3, true), (4, true), (6, true), (7, true), (2, false), (5, false), (8, false), (9, true), (10, false)] mixed_ok (by kernel_rfl) (rj_v rfl rfl (v_fieldAddr fd_108_0 ty_25 (by decide) rfl) rfl (rj_v rfl rfl (v_loadB 1 ty_25 rfl rfl rfl) rfl (rj_v rfl rfl (v_fieldAddr fd_108_1 ty_25 (by decide) rfl) rfl (rj_v rfl rfl (v_loadB 1 ty_25 rfl rfl rfl) rfl (rj_v rfl rfl (v_fieldAddr fd_108_2 ty_25 (by decide) rfl) rfl (rj_v rfl rfl (v_loadB 1 ty_25 rfl rfl rfl) rfl ?_))))))))); refine rj_x rfl rfl (x_call rfl en_86 (fun w s => ct_i_copyInts _ _ w (r1.mono (s.get 2 rfl)) (by first | assumption | omega))) rfl ?_; rintro v5 h5 r5; refine rj_x rfl rfl (x_call rfl en_86 (fun w s => ct_i_copyInts _ _ w (r2.mono (s.get 3 rfl)) (by first | assumption | omega))) rfl ?_; rintro v8 h8 r8; refine rj_x rfl rfl (x_call rfl en_86 (fun w s => ct_i_copyInts _ _ w (r3.mono (s.get 4 rfl)) (by first | assumption | omega))) rfl ?_; rintro v11 h11 r11; refine rj_v rfl rfl (v_build [v5, v8, v11] rfl (by obtain ⟨_, _, rfl⟩ := r5.toR.sl; obtain ⟨_, _, rfl⟩ := r8.toR.sl; obtain ⟨_, _, rfl⟩ := r11.toR.sl; kernel_rfl)) rfl ?_; refine rj_m 3 rfl rfl rfl rfl (m_store 3 ty_108 rfl rfl rfl rfl (by simp [r5.toR.sl.one, r8.toR.sl.one, r11.toR.sl.one]) rfl (Nat.le_of_ble_eq_true rfl)) rfl ?_; rintro _ _ ⟨rfl, rfl⟩; refine rj_end (qs_n (wp_rt ?_)); refine qs_close [box b2 _ _, hp w] [h5, h8, h11] (fun _ s => s.pick [3, 5, 2, 1, 0] (by decide) rfl) (fun md => ?_); exact qs_retc 1 rfl ty_108 rfl rfl rfl (fin_t 0 (i := 2) rfl rfl rfl ⟨_, _, _, rfl, _, _, _, r5, r8, r11, md⟩)
end Go.Proofs.Ytmddmahaikineaa
namespace Go.Proofs.Ytmddmahaikineaa
set_option maxRecDepth 100000
open Go.RowKit
theorem TriO.none : TriO ⟨[], [], []⟩ (.slice none 0 0) (.slice none 0 0) (.slice none 0 0) emp :=
  ⟨emp, emp, emp, IntsO.nil, IntsO.nil, IntsO.nil, ⟨by simp [sepL, PDj.emp], fun x hx => by simp at hx; subst hx; exact PLe.emp _, fun k o e => by cases e⟩⟩
def fitP (k p n : Int) (t u : Ten) : Prop := tensorL k p n t.l t.d t.x ∧ tensorL k p n u.l u.d u.x ∧ setL t.l u.l ∧ permD u t.l = t.d
def FitR (k p n : Int) (t u : Ten) (x : Value) (h : PH) : Prop := ∃ T a b c bb, x = .tuple [tenV a b c, .bool bb].toArray ∧ TriO T a b c h ∧ (bb = true ↔ fitP k p n t u) ∧ (bb = true → T = permT k n u t.l)
theorem FitR.no {k p n : Int} {t u : Ten} (h : ¬ fitP k p n t u) : FitR k p n t u (.tuple [tenV (.slice none 0 0) (.slice none 0 0) (.slice none 0 0), .bool false].toArray) emp :=
  ⟨⟨[], [], []⟩, _, _, _, false, rfl, TriO.none, ⟨fun e => (by cases e), fun e => absurd e h⟩, fun e => (by cases e)⟩
end Go.Proofs.Ytmddmahaikineaa
namespace Go.Proofs.Ytmddmahaikineaa
set_option maxRecDepth 100000
open Go.RowKit
def dimJ (t u : Ten) (x : Int) : Int := if x ∈ t.l then t.d.getD (findI t.l x).toNat 0 else u.d.getD (findI u.l x).toNat 0
theorem map_find {ls ds : List Int} (hn : ls.Nodup) (hl : ls.length = ds.length) : ds = ls.map fun x => ds.getD (findI ls x).toNat 0 := by
  apply ext_getD
  · simp [hl]
  · intro j hj; rw [map_getD (by omega), find_at' hn (by omega)]
    simp
theorem dimJ_l {t u : Ten} (hn : t.l.Nodup) (hl : t.l.length = t.d.length) : t.d = t.l.map (dimJ t u) := by
  conv => lhs; rw [map_find hn hl]
  exact List.map_congr_left fun x hx => by simp [dimJ, hx]
theorem dimJ_r {t u : Ten} (hn : u.l.Nodup) (hl : u.l.length = u.d.length) (hm : ¬ mism t u) : u.d = u.l.map (dimJ t u) := by
  conv => lhs; rw [map_find hn hl]
  refine List.map_congr_left fun x hx => ?_
  by_cases h : x ∈ t.l
  · have hg := findI_get hx; have : ¬ (t.d.getD (findI t.l x).toNat 0 ≠ u.d.getD (findI u.l x).toNat 0) := fun hne => hm ⟨(findI u.l x).toNat, hg.1, by rw [hg.2]; exact ⟨h, hne⟩⟩; simp only [dimJ, h, if_true]
    omega
  · simp [dimJ, h]
/-- Two tensors that can be joined. -/
structure PairOK (k p n : Int) (t u : Ten) (f : Int → Int) : Prop where
  tt : tensorL k p n t.l t.d t.x
  uu : tensorL k p n u.l u.d u.x
  ht : t.d = t.l.map f
  hu : u.d = u.l.map f
  work : prodI ((joinI t.l u.l).map f) ≤ 65536
theorem ten_axes {k p n : Int} {ls ds xs : List Int} (h : tensorL k p n ls ds xs) : axesL ls ds := (sizeI_ge.1 h.2.1).1
theorem ten_prod {k p n : Int} {ls ds xs : List Int} (h : tensorL k p n ls ds xs) : prodI ds ≤ 4096 := (sizeI_ge.1 h.2.1).2
theorem PairOK.nd {k p n : Int} {t u : Ten} {f : Int → Int} (h : PairOK k p n t u f) : (joinI t.l u.l).Nodup := joinI_nodup (axes_nodup (ten_axes h.tt)) (axes_nodup (ten_axes h.uu))
theorem PairOK.dim {k p n : Int} {t u : Ten} {f : Int → Int} (h : PairOK k p n t u f) : ∀ x ∈ joinI t.l u.l, 1 ≤ f x ∧ f x ≤ 8 := fun x hx => by
  rcases mem_joinI.1 hx with hx | hx
  · exact dims_mem (axes_dims (ten_axes h.tt)) _ (by rw [h.ht]; exact List.mem_map_of_mem hx)
  · exact dims_mem (axes_dims (ten_axes h.uu)) _ (by rw [h.hu]; exact List.mem_map_of_mem hx)
theorem map_dim {f : Int → Int} {L ls : List Int} (hf : ∀ x ∈ L, 1 ≤ f x ∧ f x ≤ 8) (hs : ∀ l ∈ ls, l ∈ L) : ∀ d ∈ ls.map f, 1 ≤ d ∧ d ≤ 8 := fun d hd => by
  obtain ⟨x, hx, rfl⟩ := List.mem_map.1 hd; exact hf x (hs x hx)
def atI (f : Int → Int) (L ls : List Int) (m : Int) : Int := dotL (stepsL L ls (ls.map f)) (idxL (L.map f) m)
theorem at_in {f : Int → Int} {L ls : List Int} (hn : L.Nodup) (hl : ls.Nodup) (hs : ∀ l ∈ ls, l ∈ L) (hf : ∀ x ∈ L, 1 ≤ f x ∧ f x ≤ 8) (m : Int) : 0 ≤ atI f L ls m ∧ atI f L ls m < prodI (ls.map f) := by
  have hd : ∀ d ∈ L.map f, 1 ≤ d := fun d hd => (map_dim hf (fun _ h => h) d hd).1; have hd2 : ∀ d ∈ ls.map f, 1 ≤ d := fun d hd => (map_dim hf hs d hd).1; have hi := idxL_in hd m; have ho := offL_in (ds := ls.map f) (is := idxAt L (idxL (L.map f) m) ls) hd2 ⟨by simp [idxAt], fun j hj => by
    have hj' : j < ls.length := by simpa using hj
    have hm := hs _ (mem_getD hj'); have hg := findI_get hm; have := hi.2 (findI L (ls.getD j 0)).toNat (by simpa using hg.1); rw [map_getD hg.1, hg.2] at this; rw [idxAt, map_getD hj', map_getD hj']; exact this⟩
  have e : atI f L ls m = offL (ls.map f) (idxAt L (idxL (L.map f) m) ls) := by
    unfold atI dotL; rw [stepsL_len]; exact dot_off hn (by simp) hl hs
  omega
def AllR (k p n P : Int) (xs : List Int) : Prop := (xs.length : Int) = P * widthI k n ∧ ∀ a ∈ xs, 0 ≤ a ∧ a ≤ topI k p n
theorem mul_room {P w i : Int} (hw : 0 ≤ w) (h0 : 0 ≤ i) (h1 : i < P) : 0 ≤ i * w ∧ i * w + w ≤ P * w := by
  have h2 := Int.mul_le_mul_of_nonneg_right (show i + 1 ≤ P by omega) hw; rw [Int.add_mul, Int.one_mul] at h2; exact ⟨Int.mul_nonneg h0 hw, h2⟩
theorem AllR.el {k p n P : Int} {xs : List Int} (h : AllR k p n P xs) (hr : ringL k p n) {i : Int} (h0 : 0 ≤ i) (h1 : i < P) : InR k p n (elt xs (widthI k n) i) := by
  have hw := width_range hr; have hm := mul_room (show 0 ≤ widthI k n by omega) h0 h1; have hl := h.1; refine ⟨?_, fun a ha => h.2 a (elt_mem ha)⟩; simp only [elt, List.length_take, List.length_drop]
  omega
theorem AllR.put {k p n P : Int} {xs ys : List Int} (h : AllR k p n P xs) (hr : ringL k p n) {i : Int} (h0 : 0 ≤ i) (h1 : i < P) (hy : InR k p n ys) : AllR k p n P (putL xs (i * widthI k n).toNat ys) := by
  have hw := width_range hr; have hm := mul_room (show 0 ≤ widthI k n by omega) h0 h1; have hl := h.1; have hyl := hy.1; refine ⟨by rw [putL_len (by omega)]; exact hl, fun a ha => ?_⟩; simp only [putL, List.mem_append] at ha
  rcases ha with (ha | ha) | ha
  · exact h.2 a (List.mem_of_mem_take ha)
  · exact hy.2 a ha
  · exact h.2 a (List.mem_of_mem_drop ha)
theorem flat_rep_len (z : List Int) : ∀ m : Nat, ((List.replicate m z).flatten).length = m * z.length
  | 0 => by simp
  | m + 1 => by rw [List.replicate_succ, List.flatten_cons, List.length_append, flat_rep_len z m, Nat.add_mul, Nat.one_mul]; omega
theorem zeroL_in {k p n : Int} (h : ringL k p n) : InR k p n (zeroL k p n) := by
  have ht := top_range h; refine ⟨zeroL_len k p n, fun a ha => ?_⟩
  unfold zeroL at ha
  split at ha
  · rename_i h4
    have := top_cap h (.inr (.inl h4))
    simp at ha; omega
  · have := List.eq_of_mem_replicate ha; omega
theorem AllR.zero {k p n P : Int} (hr : ringL k p n) (hP : 0 ≤ P) : AllR k p n P (List.replicate P.toNat (zeroL k p n)).flatten := by
  have hw := width_range hr; have hz := zeroL_in hr; refine ⟨?_, fun a ha => ?_⟩
  · rw [flat_rep_len, hz.1, Int.natCast_mul]; rw [show ((P.toNat : Nat) : Int) = P by omega, show (((widthI k n).toNat : Nat) : Int) = widthI k n by omega]
  · obtain ⟨l, hl, ha⟩ := List.mem_flatten.1 ha; rw [List.eq_of_mem_replicate hl] at ha; exact hz.2 a ha
noncomputable def pairX (k p n : Int) (f : Int → Int) (t u : Ten) (K : List Int) : Nat → List Int
  | 0 => (List.replicate (prodI (K.map f)).toNat (zeroL k p n)).flatten
  | m + 1 => putL (pairX k p n f t u K m) (atI f (joinI t.l u.l) K m * widthI k n).toNat
      (addL k p (elt (pairX k p n f t u K m) (widthI k n) (atI f (joinI t.l u.l) K m))
        (mulL k p n (elt t.x (widthI k n) (atI f (joinI t.l u.l) t.l m)) (elt u.x (widthI k n) (atI f (joinI t.l u.l) u.l m))))
noncomputable def pairT (k p n : Int) (f : Int → Int) (t u : Ten) (K : List Int) : Ten := ⟨K, K.map f, pairX k p n f t u K (prodI ((joinI t.l u.l).map f)).toNat⟩
structure KeepOK (t u : Ten) (f : Int → Int) (K : List Int) : Prop where
  sub : ∀ l ∈ K, l ∈ joinI t.l u.l
  nd : K.Nodup
  small : prodI (K.map f) ≤ 4096
section
variable {k p n : Int} {t u : Ten} {f : Int → Int} {K : List Int} (h : PairOK k p n t u f) (hk : KeepOK t u f K)
include h hk
theorem PairOK.at_k (m : Int) : 0 ≤ atI f (joinI t.l u.l) K m ∧ atI f (joinI t.l u.l) K m < prodI (K.map f) := at_in h.nd hk.nd hk.sub h.dim m
theorem PairOK.pos_k : 1 ≤ prodI (K.map f) := prodI_one fun d hd => (map_dim h.dim hk.sub d hd).1
omit hk in
theorem PairOK.at_t (m : Int) : 0 ≤ atI f (joinI t.l u.l) t.l m ∧ atI f (joinI t.l u.l) t.l m < prodI t.d := by
  have := at_in h.nd (axes_nodup (ten_axes h.tt)) (fun l hl => mem_joinI.2 (.inl hl)) h.dim m
  rwa [← h.ht] at this
omit hk in
theorem PairOK.at_u (m : Int) : 0 ≤ atI f (joinI t.l u.l) u.l m ∧ atI f (joinI t.l u.l) u.l m < prodI u.d := by
  have := at_in h.nd (axes_nodup (ten_axes h.uu)) (fun l hl => mem_joinI.2 (.inr hl)) h.dim m
  rwa [← h.hu] at this
omit hk in
theorem PairOK.el_t (m : Int) : InR k p n (elt t.x (widthI k n) (atI f (joinI t.l u.l) t.l m)) := elt_inR h.tt (h.at_t m).1 (h.at_t m).2
omit hk in
theorem PairOK.el_u (m : Int) : InR k p n (elt u.x (widthI k n) (atI f (joinI t.l u.l) u.l m)) := elt_inR h.uu (h.at_u m).1 (h.at_u m).2
theorem PairOK.all : ∀ m : Nat, AllR k p n (prodI (K.map f)) (pairX k p n f t u K m)
  | 0 => AllR.zero h.tt.1 (by have := h.pos_k hk; omega)
  | m + 1 => (PairOK.all m).put h.tt.1 (h.at_k hk m).1 (h.at_k hk m).2 (addL_in h.tt.1 ((PairOK.all m).el h.tt.1 (h.at_k hk m).1 (h.at_k hk m).2) (mulL_in h.tt.1 (h.el_t m) (h.el_u m)))
theorem PairOK.small (m : Nat) : (pairX k p n f t u K m).length ≤ 24576 := by
  have hw := width_range h.tt.1; have := (h.all hk m).1; have h3 : prodI (K.map f) * widthI k n ≤ 4096 * 6 := Int.mul_le_mul hk.small hw.2 (by omega) (by omega)
  omega
theorem PairOK.fits (m : Nat) : atI f (joinI t.l u.l) K m * widthI k n + widthI k n ≤ (pairX k p n f t u K m).length := by
  have hw := width_range h.tt.1; have := (h.all hk m).1; have := (mul_room (show 0 ≤ widthI k n by omega) (h.at_k hk m).1 (h.at_k hk m).2).2
  omega
end
end Go.Proofs.Ytmddmahaikineaa
namespace Go.Proofs.Ytmddmahaikineaa
set_option maxRecDepth 100000
open Go.RowKit
/-- A network and whether there is one. -/
def NetB (k p n : Int) (ts : List Ten) (op : List Int) (b : Bool) (x : Value) (h : PH) : Prop := ∃ vt vo, x = .tuple [netV k p n vt vo, .bool b].toArray ∧ NetO ts op vt vo h
def TenB (t : Ten) (b : Bool) (x : Value) (h : PH) : Prop := ∃ va vb vc, x = .tuple [tenV va vb vc, .bool b].toArray ∧ TriO t va vb vc h
end Go.Proofs.Ytmddmahaikineaa
namespace Go.Proofs.Ytmddmahaikineaa
set_option maxRecDepth 100000
open Go.RowKit
def keepL (t u : Ten) (ks : List Int) : List Int := (joinI t.l u.l).filter fun x => decide (x ∈ ks)
def pairP (k p n : Int) (t u : Ten) (ks : List Int) : Prop := tensorL k p n t.l t.d t.x ∧ tensorL k p n u.l u.d u.x ∧ ¬ mism t u ∧ prodI (joinD t u) ≤ 65536 ∧ 0 ≤ sizeI (keepL t u ks) ((keepL t u ks).map (dimJ t u))
open Classical in
noncomputable def pairR (k p n : Int) (t u : Ten) (ks : List Int) : Ten := if pairP k p n t u ks then pairT k p n (dimJ t u) t u (keepL t u ks) else ⟨[], [], []⟩
theorem pairP.dims {k p n : Int} {t u : Ten} (h1 : tensorL k p n t.l t.d t.x) (h2 : tensorL k p n u.l u.d u.x) (h3 : ¬ mism t u) : t.d = t.l.map (dimJ t u) ∧ u.d = u.l.map (dimJ t u) ∧ joinD t u = (joinI t.l u.l).map (dimJ t u) := by
  have e1 := dimJ_l (u := u) (axes_nodup (ten_axes h1)) (ten_axes h1).2.1; have e2 := dimJ_r (axes_nodup (ten_axes h2)) (ten_axes h2).2.1 h3; exact ⟨e1, e2, joinD_map e1 e2⟩
theorem pair_ok {k p n : Int} {t u : Ten} (h1 : tensorL k p n t.l t.d t.x) (h2 : tensorL k p n u.l u.d u.x) (h3 : ¬ mism t u) (h4 : prodI (joinD t u) ≤ 65536) : PairOK k p n t u (dimJ t u) := by
  have e := pairP.dims h1 h2 h3; exact ⟨h1, h2, e.1, e.2.1, by rw [← e.2.2]; exact h4⟩
theorem keep_ok {k p n : Int} {t u : Ten} {ks : List Int} (ok : PairOK k p n t u (dimJ t u)) (h : 0 ≤ sizeI (keepL t u ks) ((keepL t u ks).map (dimJ t u))) : KeepOK t u (dimJ t u) (keepL t u ks) :=
  ⟨fun _ hl => (List.mem_filter.1 hl).1, List.Pairwise.filter _ ok.nd, (sizeI_ge.1 h).2⟩
theorem selP_prod (p : Int → Bool) : ∀ ls ds : List Int, (∀ d ∈ ds, 1 ≤ d) → 1 ≤ prodI (selP p ls ds) ∧ prodI (selP p ls ds) ≤ prodI ds
  | [], ds, h => by
    have := prodI_one h
    cases ds <;> simp [selP, prodI] at * <;> omega
  | l :: ls, [], _ => by simp [selP, prodI]
  | l :: ls, d :: ds, h => by
    have ih := selP_prod p ls ds (fun x hx => h x (by simp [hx])); have hd := h d (by simp); simp only [selP]; have h1 : 1 * prodI ds ≤ d * prodI ds := Int.mul_le_mul_of_nonneg_right hd (by omega)
    split
    · rw [prodI_cons, prodI_cons]; have h2 : d * prodI (selP p ls ds) ≤ d * prodI ds := Int.mul_le_mul_of_nonneg_left ih.2 (by omega); have h3 : 1 * 1 ≤ d * prodI (selP p ls ds) := Int.mul_le_mul hd ih.1 (by omega) (by omega)
      omega
    · rw [prodI_cons]; omega
end Go.Proofs.Ytmddmahaikineaa
namespace Go.Proofs.Ytmddmahaikineaa
set_option maxRecDepth 100000
open Go.RowKit
section
variable (P : Program) (n : Nat) (w0 : World)
def RAK (ops : Array Oper) (m : Nat) (Q : Exit → Act → World → Prop) (f : Nat) (listed : Array Bool) (K : Env) (HS HK : List PH) : Prop :=
  WkL HS HK → HeadInv .any ops m listed → (Region.noSelect ops && tailOK ops m) = true → ∀ (a : Act) (w : World), EnvOK n K a → Sat w0 HS w → RAny P ops Q (Sat w0 HK) m f listed a w
def ROK (ops : Array Oper) (m : Nat) (Q : Exit → Act → World → Prop) (f : Nat) (i : Nat) (listed : Array Bool) (K : Env) (HS HK : List PH) : Prop :=
  WkL HS HK → HeadInv .any ops m (listed.setIfInBounds i true) → (Region.noSelect ops && tailOK ops m) = true → ∀ (a : Act) (w : World), EnvOK n K a → Sat w0 HS w →
    wpOp P ops (OnlyN Q) i (fun a' w' => (i < m → Sat w0 HK w') ∧ RAny P ops Q (Sat w0 HK) m f (listed.setIfInBounds i true) a' w') a w
end
section
variable {P : Program} {n : Nat} {w0 : World} {K : Env} {HS HK : List PH} {Q : Exit → Act → World → Prop} {ops : Array Oper} {m f : Nat} {listed : Array Bool}
theorem rak_of (h : RAK P n w0 ops m Q f listed K HS HS) : RA P n w0 ops m Q f listed K HS := fun inv ht a w e s => h (WkL.refl HS) inv ht a w e s
theorem rak_yield {i : Nat} {oi : Oper} {v : Value} (hc : (decide (i < m) && (Region.ready .any ops listed).contains i && Region.free .any ops listed i) = true) (hi : ops[i]? = some oi) (hy : ∀ a, EnvOK n K a → YieldsIf P ops (Sat w0 HK) oi v a) (hf : fitsK n oi.dst = true)
    (k : RAK P n w0 ops m Q f (listed.setIfInBounds i true) (putK oi.dst v K) HS HK) : RAK P n w0 ops m Q (f + 1) listed K HS HK := fun hwk inv ht a w e s => by
  simp only [Bool.and_eq_true, decide_eq_true_eq] at hc; obtain ⟨⟨him, hr⟩, hfr⟩ := hc; have hr' : i ∈ Region.ready .any ops listed := by simpa using hr
  have ht' := ht; rw [Bool.and_eq_true] at ht'; exact rany_first hi (Region.noSelect_spec ht'.1) him ht'.2 _ listed a w inv (Region.free_spec hi hfr) hr' (hy a e) (hwk.sat s)
    (k hwk (inv.set hr' him) ht _ _ (e.put v hf) s)
theorem rak_v {i : Nat} {oi : Oper} {v : Value} (hc : (decide (i < m) && (Region.ready .any ops listed).contains i && Region.free .any ops listed i) = true) (hi : ops[i]? = some oi) (hw : wantK ops K oi.guard = some true) (hv : StepV P n w0 K HK oi v) (hf : fitsK n oi.dst = true)
    (k : RAK P n w0 ops m Q f (listed.setIfInBounds i true) (putK oi.dst v K) HS HK) : RAK P n w0 ops m Q (f + 1) listed K HS HK :=
  rak_yield hc hi (fun a e => .inl ⟨e.wanted hw, fun w s => hv a w e s⟩) hf k
theorem rak_alts {l : List Nat} (hc : (decide (Region.ready .any ops listed = l) && (l.all fun i => decide (i < m)) && !l.isEmpty) = true) (k : ∀ i ∈ l, ROK P n w0 ops m Q f i listed K HS HK) : RAK P n w0 ops m Q (f + 1) listed K HS HK := fun hwk inv ht a w e s => by
  simp only [Bool.and_eq_true, decide_eq_true_eq, List.all_eq_true, Bool.not_eq_true'] at hc; obtain ⟨⟨hr, hm⟩, hne⟩ := hc; refine ⟨fun h0 => (by rw [hr] at h0; rw [h0] at hne; cases hne), fun j hj => ?_⟩; have hj' := hj; rw [hr] at hj; exact k j hj hwk (inv.set hj' (hm j hj)) ht a w e s
theorem rak_2 {i j : Nat} (hc : (decide (Region.ready .any ops listed = [i, j]) && ([i, j].all fun i => decide (i < m)) && !([i, j] : List Nat).isEmpty) = true) (k1 : ROK P n w0 ops m Q f i listed K HS HK) (k2 : ROK P n w0 ops m Q f j listed K HS HK) : RAK P n w0 ops m Q (f + 1) listed K HS HK :=
  rak_alts hc (fun x hx => by simp only [List.mem_cons, List.not_mem_nil, or_false] at hx; rcases hx with rfl | rfl <;> assumption)
theorem rok_x {i : Nat} {oi : Oper} {T : Value → PH → Prop} (hi : ops[i]? = some oi) (hw : wantK ops K oi.guard = some true) (hx : StepX P n w0 K HS oi emp T) (hf : fitsK n oi.dst = true)
    (k : ∀ v h', T v h' → RAK P n w0 ops m Q f (listed.setIfInBounds i true) (putK oi.dst v K) (h' :: HS) (h' :: HK)) : ROK P n w0 ops m Q f i listed K HS HK := fun hwk inv ht a w e s => by
  unfold wpOp
  simp only [hi]; rw [if_pos (e.wanted hw)]; refine .inl (Oper.wp_imp (hx a w e s) (fun a' w' ⟨v, h', ha, u, ht'⟩ => ?_) (fun _ _ _ f => f.elim)); subst ha; exact ⟨fun _ => hwk.sat (s.same u), rany_mono (fun _ t => t.drop) _ _ _ _ (k v h' ht' ⟨.inl rfl, hwk⟩ inv ht _ _ (e.put v hf) (s.new u))⟩
/-- What is made here may be turned ahead of the tail: nothing hoisted looks at it. -/
theorem rok_xb {i : Nat} {oi : Oper} {T : Value → PH → Prop} (hi : ops[i]? = some oi) (hw : wantK ops K oi.guard = some true) (hx : StepX P n w0 K HS oi emp T) (hf : fitsK n oi.dst = true)
    (k : ∀ v h', T v h' → RAK P n w0 ops m Q f (listed.setIfInBounds i true) (putK oi.dst v K) (h' :: HS) (emp :: HK)) : ROK P n w0 ops m Q f i listed K HS HK := fun hwk inv ht a w e s => by
  unfold wpOp
  simp only [hi]; rw [if_pos (e.wanted hw)]; refine .inl (Oper.wp_imp (hx a w e s) (fun a' w' ⟨v, h', ha, u, ht'⟩ => ?_) (fun _ _ _ f => f.elim)); subst ha; exact ⟨fun _ => hwk.sat (s.same u), rany_mono (fun _ t => t.drop) _ _ _ _ (k v h' ht' ⟨.inr rfl, hwk⟩ inv ht _ _ (e.put v hf) (s.new u))⟩
theorem rk_xb {r : List (Nat × Bool)} {i : Nat} {oi : Oper} {T : Value → PH → Prop} (hi : ops[i]? = some oi) (hw : wantK ops K oi.guard = some true) (hx : StepX P n w0 K HS oi emp T) (hf : fitsK n oi.dst = true)
    (k : ∀ v h', T v h' → RK P n w0 ops m Q r (listed.setIfInBounds i true) (putK oi.dst v K) (h' :: HS) (emp :: HK)) : RK P n w0 ops m Q ((i, false) :: r) listed K HS HK :=
  rk_only hi fun h1 h2 _ h4 h5 hwk a w e s => by
    unfold wpOp
    simp only [hi]; rw [if_pos (e.wanted hw)]; refine .inl (Oper.wp_imp (hx a w e s) (fun a' w' ⟨v, h', ha, u, ht⟩ => ?_) (fun _ _ _ f => f.elim)); subst ha; exact ⟨fun _ => hwk.sat (s.same u), rany_mono (fun _ t => t.drop) _ _ _ _ (k v h' ht ⟨.inr rfl, hwk⟩ (fun i' s' r' e' hlt => h5 (h1 i' s' r' e' hlt)) h2 h4 _ _ (e.put v hf) (s.new u))⟩
theorem rak_rk (order : List (Nat × Bool)) (hc : chk ops m order listed = true) (hl : f = order.length) (h : RK P n w0 ops m Q order listed K HS HK) : RAK P n w0 ops m Q f listed K HS HK := fun hwk inv ht a w e s => by
  rw [hl]; exact h hwk (fun _ _ _ _ _ => inv) hc ht a w e s
end
end Go.Proofs.Ytmddmahaikineaa
namespace Go.Proofs.Ytmddmahaikineaa
set_option maxRecDepth 100000
open Go.RowKit
def oneT (k p n : Int) : Ten := ⟨[], [], oneL k p n⟩
theorem one_ten {k p n : Int} (h : ringL k p n) : tensorL k p n (oneT k p n).l (oneT k p n).d (oneT k p n).x := by
  have hs : sizeI [] [] = 1 := by
    have : axesL [] [] := ⟨by decide, rfl, fun j hj => by simp at hj⟩
    rw [sizeI_yes this (by decide)]; rfl
  have ho := oneL_in h; have hw := width_range h; refine ⟨h, by simp only [oneT]; omega, ?_, ho.2⟩; have := ho.1; simp only [oneT]; rw [hs]
  omega
theorem one_mism (k p n : Int) (t : Ten) : ¬ mism t (oneT k p n) := by
  rintro ⟨i, hi, _⟩
  simp [oneT] at hi
theorem one_joinD (k p n : Int) (t : Ten) : joinD t (oneT k p n) = t.d := by simp [joinD, oneT, selP]
theorem keep_axes {k p n : Int} {t u : Ten} {f : Int → Int} {K : List Int} (ok : PairOK k p n t u f) (hs : ∀ l ∈ K, l ∈ joinI t.l u.l) (hn : K.Nodup) (h12 : K.length ≤ 12) : axesL K (K.map f) := by
  refine ⟨h12, by simp, fun j hj => ⟨?_, ?_, nodup_not_take hn hj⟩⟩
  · rcases mem_joinI.1 (hs _ (mem_getD hj)) with h | h
    · obtain ⟨i, hi, e⟩ := getD_of_mem h; rw [← e]; exact ((ten_axes ok.tt).2.2 i hi).1
    · obtain ⟨i, hi, e⟩ := getD_of_mem h; rw [← e]; exact ((ten_axes ok.uu).2.2 i hi).1
  · rw [map_getD hj]; exact ok.dim _ (hs _ (mem_getD hj))
theorem sum_pair {k p n : Int} {t : Ten} (h : tensorL k p n t.l t.d t.x) (ks : List Int) : pairP k p n t (oneT k p n) ks := by
  have h1 := one_ten h.1; have hm := one_mism k p n t; have hp := ten_prod h; have ok := pair_ok h h1 hm (by rw [one_joinD]; omega); have hd := pairP.dims h h1 hm; have ej := hd.2.2; refine ⟨h, h1, hm, by rw [one_joinD]; omega, sizeI_ge.2 ⟨keep_axes ok (fun l hl => (List.mem_filter.1 hl).1) (List.Pairwise.filter _ ok.nd) ?_, ?_⟩⟩
  · have h1 := List.length_filter_le (fun x => decide (x ∈ ks)) (joinI t.l (oneT k p n).l); have h2 := joinI_len t.l (oneT k p n).l; have h3 := (ten_axes h).1; have h4 : (oneT k p n).l.length = 0 := rfl
    unfold keepL
    omega
  · have hs := selP_prod (fun x => decide (x ∈ ks)) (joinI t.l (oneT k p n).l) (joinD t (oneT k p n)) (by rw [one_joinD]; exact fun d hd => (dims_mem (axes_dims (ten_axes h)) d hd).1); rw [ej, selP_map, ← ej, one_joinD] at hs; exact Int.le_trans hs.2 hp
open Classical in
noncomputable def sumR (k p n : Int) (t : Ten) (ks : List Int) : Ten := if tensorL k p n t.l t.d t.x then pairT k p n (dimJ t (oneT k p n)) t (oneT k p n) (keepL t (oneT k p n) ks) else ⟨[], [], []⟩
theorem sumR_pair {k p n : Int} {t : Ten} {ks : List Int} (h : tensorL k p n t.l t.d t.x) : pairR k p n t (oneT k p n) ks = sumR k p n t ks := by
  rw [sumR, if_pos h, pairR, if_pos (sum_pair h ks)]
end Go.Proofs.Ytmddmahaikineaa
namespace Go.Proofs.Ytmddmahaikineaa
set_option maxRecDepth 100000
open Go.RowKit
theorem two_off : ∀ {l : List Nat} (_ : l.Nodup) {a b : Nat}, a ∈ l → b ∈ l → a ≠ b → (l.filter fun i => decide (i ≠ a ∧ i ≠ b)).length + 2 = l.length := by
  intro l hn a b ha hb hab; have hp := List.perm_cons_erase ha; have hb' : b ∈ l.erase a := (List.mem_erase_of_ne (Ne.symm hab)).2 hb; have hp2 := List.perm_cons_erase hb'; have hn2 : (l.erase a).Nodup := hn.erase a; have e : l.filter (fun i => decide (i ≠ a ∧ i ≠ b)) = (l.erase a).erase b := by
    rw [List.Nodup.erase_eq_filter hn a, List.Nodup.erase_eq_filter (List.Pairwise.filter _ hn) b, List.filter_filter]
    apply List.filter_congr
    intro i _; rw [Bool.eq_iff_iff]
    simp [and_comm]
  have h1 := hp.length_eq; have h2 := hp2.length_eq; simp only [List.length_cons] at h1 h2; rw [e]
  omega
theorem step_count {op : List Int} {s : Sh} (h : s.ok) {a b : Nat} (ha : a ∈ s.ixs) (hb : b ∈ s.ixs) (hab : a ≠ b) : (s.step op a b).ixs.length + 1 = s.ixs.length := by
  have := two_off (ixs_nodup s) ha hb hab; rw [step_ixs h, List.length_append, List.length_singleton]
  omega
theorem steps_count {op : List Int} {s : Sh} (h : s.fine) {ss : List Stp} (hok : okSteps op s ss) : ∀ i, i ≤ ss.length → (shTo op s (ss.take i)).ixs.length + i = s.ixs.length
  | 0, _ => by simp [shTo]
  | i + 1, hi => by
    have ih := steps_count h hok i (by omega); have hx : ss[i]? = some ss[i] := List.getElem?_eq_getElem (by omega); have hst := stepOk_at hok hx; have h1 := live_ixs.1 hst.1; have h2 := live_ixs.1 hst.2.1; rw [shTo_step hx]; have := step_count (op := op) (shTo_fine h (ss.take i)).1 h1.2 h2.2 (by have := hst.2.2; omega)
    omega
end Go.Proofs.Ytmddmahaikineaa
namespace Go.Proofs.Ytmddmahaikineaa
set_option maxRecDepth 100000
open Go.RowKit
abbrev noTen : Ten := ⟨[], [], []⟩
theorem dimJ_f {t u : Ten} {f : Int → Int} (ht : t.d = t.l.map f) (hu : u.d = u.l.map f) {x : Int} (hx : x ∈ joinI t.l u.l) : dimJ t u x = f x := by
  unfold dimJ
  by_cases h : x ∈ t.l
  · rw [if_pos h, ht, map_getD (findI_get h).1, (findI_get h).2]
  · have h2 := (mem_joinI.1 hx).resolve_left h; rw [if_neg h, hu, map_getD (findI_get h2).1, (findI_get h2).2]
theorem keep_map {t u : Ten} {f : Int → Int} (ht : t.d = t.l.map f) (hu : u.d = u.l.map f) (ks : List Int) : (keepL t u ks).map (dimJ t u) = (keepL t u ks).map f :=
  List.map_congr_left fun _ hx => dimJ_f ht hu (List.mem_filter.1 hx).1
theorem pair_ten {k p n : Int} {t u : Ten} {ks : List Int} (h : pairP k p n t u ks) : tensorL k p n (pairR k p n t u ks).l (pairR k p n t u ks).d (pairR k p n t u ks).x ∧ (pairR k p n t u ks).l = keepL t u ks ∧ (pairR k p n t u ks).d = (keepL t u ks).map (dimJ t u) := by
  have ok := pair_ok h.1 h.2.1 h.2.2.1 h.2.2.2.1; have hk := keep_ok ok h.2.2.2.2; have ha := ok.all hk (prodI ((joinI t.l u.l).map (dimJ t u))).toNat; have hs := sizeI_ge.1 h.2.2.2.2; rw [pairR, if_pos h]; refine ⟨⟨h.1.1, h.2.2.2.2, ?_, ha.2⟩, rfl, rfl⟩
  show ((pairX k p n (dimJ t u) t u (keepL t u ks) _).length : Int) = sizeI (keepL t u ks) ((keepL t u ks).map (dimJ t u)) * widthI k n
  rw [sizeI_yes hs.1 hs.2]; exact ha.1
theorem keepL_self {t u : Ten} {q : Int → Bool} : keepL t u ((joinI t.l u.l).filter q) = (joinI t.l u.l).filter q := by
  unfold keepL
  refine List.filter_congr fun x hx => ?_; rw [Bool.eq_iff_iff, decide_eq_true_eq, List.mem_filter]; exact ⟨fun h => h.2, fun h => ⟨hx, h⟩⟩
def stpAt (ss : List Stp) (i : Nat) : Stp := ss.getD i ⟨0, 0⟩
theorem stpAt_of {ss : List Stp} {i : Nat} {x : Stp} (h : ss[i]? = some x) : stpAt ss i = x := by simp [stpAt, List.getD, h]
noncomputable def runS (ts : List Ten) (op : List Int) (ss : List Stp) (i : Nat) : Sh := shTo op (sh0 ts) (ss.take i)
noncomputable def runK (ts : List Ten) (op : List Int) (ss : List Stp) (i : Nat) : List Int := (runS ts op ss i).res op (stpAt ss i).a.toNat (stpAt ss i).b.toNat
noncomputable def runTo (k p n : Int) (ts : List Ten) (op : List Int) (ss : List Stp) : Nat → List Ten
  | 0 => ts
  | i + 1 => runTo k p n ts op ss i ++ [pairR k p n ((runTo k p n ts op ss i).getD (stpAt ss i).a.toNat noTen) ((runTo k p n ts op ss i).getD (stpAt ss i).b.toNat noTen) (runK ts op ss i)]
noncomputable def runA (k p n : Int) (ts : List Ten) (op : List Int) (ss : List Stp) (i : Nat) : Ten := (runTo k p n ts op ss i).getD (stpAt ss i).a.toNat noTen
noncomputable def runB (k p n : Int) (ts : List Ten) (op : List Int) (ss : List Stp) (i : Nat) : Ten := (runTo k p n ts op ss i).getD (stpAt ss i).b.toNat noTen
def runFit (k p n : Int) (ts : List Ten) (op : List Int) (ss : List Stp) (i : Nat) : Prop := pairP k p n (runA k p n ts op ss i) (runB k p n ts op ss i) (runK ts op ss i)
structure RunOK (k p n : Int) (ts : List Ten) (op : List Int) (ss : List Stp) (i : Nat) : Prop where
  len : (runTo k p n ts op ss i).length = ts.length + i
  ten : ∀ (j : Nat) (t : Ten), (runTo k p n ts op ss i)[j]? = some t → tensorL k p n t.l t.d t.x ∧ t.l = (runS ts op ss i).lab j ∧ t.d = t.l.map (dimOf ts)
section
variable {k p n : Int} {ts : List Ten} {op : List Int} {ss : List Stp}
theorem runTo_step (i : Nat) : runTo k p n ts op ss (i + 1) = runTo k p n ts op ss i ++ [pairR k p n (runA k p n ts op ss i) (runB k p n ts op ss i) (runK ts op ss i)] := rfl
theorem RunOK.get {i : Nat} (r : RunOK k p n ts op ss i) {j : Nat} (hj : j < ts.length + i) : tensorL k p n ((runTo k p n ts op ss i).getD j noTen).l ((runTo k p n ts op ss i).getD j noTen).d ((runTo k p n ts op ss i).getD j noTen).x ∧
    ((runTo k p n ts op ss i).getD j noTen).l = (runS ts op ss i).lab j ∧ ((runTo k p n ts op ss i).getD j noTen).d = ((runTo k p n ts op ss i).getD j noTen).l.map (dimOf ts) := by
  have hlt : j < (runTo k p n ts op ss i).length := by rw [r.len]; exact hj
  have h := r.ten j _ (List.getElem?_eq_getElem hlt); have e2 : (runTo k p n ts op ss i).getD j noTen = (runTo k p n ts op ss i)[j] := by simp [List.getD, List.getElem?_eq_getElem hlt]
  rw [e2]; exact h
theorem run_step (h : orderL k p n ts op ss) {i : Nat} (hi : i < ss.length) : stepOk (runS ts op ss i) (stpAt ss i) ∧ runS ts op ss (i + 1) = (runS ts op ss i).step op (stpAt ss i).a.toNat (stpAt ss i).b.toNat ∧ (runS ts op ss i).all.length = ts.length + i := by
  have hx : ss[i]? = some ss[i] := List.getElem?_eq_getElem hi; refine ⟨?_, ?_, ?_⟩
  · rw [stpAt_of hx]; exact h.2.2 i hi _ hx
  · rw [stpAt_of hx]; exact shTo_step hx
  · rw [runS, shTo_all, show (sh0 ts).all.length = ts.length by simp [sh0], List.length_take]; omega
theorem run_fine (h : netL k p n ts op) (i : Nat) : (runS ts op ss i).fine := shTo_fine (sh0_fine (net_axes h)) _
theorem RunOK.two {i : Nat} (r : RunOK k p n ts op ss i) (h : orderL k p n ts op ss) (hi : i < ss.length) :
    (tensorL k p n (runA k p n ts op ss i).l (runA k p n ts op ss i).d (runA k p n ts op ss i).x ∧ (runA k p n ts op ss i).l = (runS ts op ss i).lab (stpAt ss i).a.toNat ∧ (runA k p n ts op ss i).d = (runA k p n ts op ss i).l.map (dimOf ts)) ∧
    (tensorL k p n (runB k p n ts op ss i).l (runB k p n ts op ss i).d (runB k p n ts op ss i).x ∧ (runB k p n ts op ss i).l = (runS ts op ss i).lab (stpAt ss i).b.toNat ∧ (runB k p n ts op ss i).d = (runB k p n ts op ss i).l.map (dimOf ts)) := by
  obtain ⟨⟨⟨a0, a1, _⟩, ⟨b0, b1, _⟩, _⟩, _, hl⟩ := run_step h hi; exact ⟨r.get (by omega), r.get (by omega)⟩
theorem RunOK.kept {i : Nat} (r : RunOK k p n ts op ss i) (h : orderL k p n ts op ss) (hi : i < ss.length) : keepL (runA k p n ts op ss i) (runB k p n ts op ss i) (runK ts op ss i) = runK ts op ss i := by
  obtain ⟨⟨_, la, _⟩, ⟨_, lb, _⟩⟩ := r.two h hi; have e : runK ts op ss i = (joinI (runA k p n ts op ss i).l (runB k p n ts op ss i).l).filter fun x => @decide ((runS ts op ss i).kept op (stpAt ss i).a.toNat (stpAt ss i).b.toNat x) (Classical.propDecidable _) := by rw [la, lb]; rfl
  rw [e]; exact keepL_self
theorem RunOK.step {i : Nat} (r : RunOK k p n ts op ss i) (h : orderL k p n ts op ss) (hi : i < ss.length) (hf : runFit k p n ts op ss i) : RunOK k p n ts op ss (i + 1) := by
  obtain ⟨hst, hs1, hl⟩ := run_step h hi; obtain ⟨⟨ta, la, da⟩, ⟨tb, lb, db⟩⟩ := r.two h hi; have hk := r.kept h hi; obtain ⟨p1, p2, p3⟩ := pair_ten hf; rw [keep_map da db, hk] at p3; rw [hk] at p2; refine ⟨by rw [runTo_step, List.length_append, r.len]; simp; omega, fun j t hj => ?_⟩; rw [runTo_step] at hj
  rcases Nat.lt_or_ge j (runTo k p n ts op ss i).length with hlt | hge
  · rw [List.getElem?_append_left hlt] at hj; have := r.ten j t hj; rw [hs1, step_lab (by rw [hl, ← r.len]; exact hlt)]; exact this
  · rw [List.getElem?_append_right hge] at hj; have e0 : j - (runTo k p n ts op ss i).length = 0 := by
      rcases Nat.eq_zero_or_pos (j - (runTo k p n ts op ss i).length) with h0 | h0
      · exact h0
      · rw [List.getElem?_eq_none (by simp; omega)] at hj; cases hj
    rw [e0] at hj
    simp at hj
    subst hj; refine ⟨p1, ?_, ?_⟩
    · rw [p2, hs1, show j = (runS ts op ss i).all.length by rw [hl, ← r.len]; omega, step_lab_new]; rfl
    · rw [p2, p3]
theorem run_ok (h : orderL k p n ts op ss) : ∀ i, i ≤ ss.length → (∀ j, j < i → runFit k p n ts op ss j) → RunOK k p n ts op ss i
  | 0, _, _ => by
    refine ⟨rfl, fun j t hj => ?_⟩; have hj' : ts[j]? = some t := hj; have hm := List.mem_of_getElem? hj'; exact ⟨h.1.2.2.1 t hm, by simp [runS, shTo, Sh.lab, sh0, List.getD, hj'], net_dmap h.1 t hm⟩
  | i + 1, hi, hf => (run_ok h i (by omega) fun j hj => hf j (by omega)).step h (by omega) (hf i (by omega))
/-- The rows of m cells but those at p and q, of the first k. -/
def dropK {α : Type} (m : Nat) (cs : List α) (p q : Nat) : Nat → List α
  | 0 => []
  | k + 1 => if k ≠ p ∧ k ≠ q then dropK m cs p q k ++ (cs.drop (k * m)).take m else dropK m cs p q k
theorem dropK_yes {α : Type} {m : Nat} {cs : List α} {p q k : Nat} (h : k ≠ p ∧ k ≠ q) : dropK m cs p q (k + 1) = dropK m cs p q k ++ (cs.drop (k * m)).take m := by rw [dropK, if_pos h]
theorem dropK_no {α : Type} {m : Nat} {cs : List α} {p q k : Nat} (h : ¬ (k ≠ p ∧ k ≠ q)) : dropK m cs p q (k + 1) = dropK m cs p q k := by rw [dropK, if_neg h]
theorem one_drop {α : Type} {l : List α} {k : Nat} {x : α} (h : l[k]? = some x) : (l.drop (k * 1)).take 1 = [x] := by
  obtain ⟨hk, rfl⟩ := List.getElem?_eq_some_iff.1 h; rw [Nat.mul_one, List.drop_eq_getElem_cons hk]; rfl
theorem dropK_len {α : Type} {m : Nat} {cs : List α} {p q : Nat} : ∀ k, (dropK m cs p q k).length ≤ k * m
  | 0 => by simp [dropK]
  | k + 1 => by
    have ih := dropK_len (m := m) (cs := cs) (p := p) (q := q) k; have e : (k + 1) * m = k * m + m := by rw [Nat.add_mul, Nat.one_mul]
    by_cases h : k ≠ p ∧ k ≠ q
    · rw [dropK_yes h, List.length_append, List.length_take]; omega
    · rw [dropK_no h]; omega
noncomputable def outTo (k p n : Int) (ts : List Ten) (op : List Int) (ss : List Stp) (i : Nat) : List Ten := (runS ts op ss i).ixs.map fun j => (runTo k p n ts op ss i).getD j noTen
theorem dimOf_mem {ts : List Ten} {x : Int} (h : dimOf ts x ≠ 0) : ∃ t ∈ ts, x ∈ t.l := by
  induction ts with
  | nil => simp [dimOf] at h
  | cons t ts ih =>
    rw [dimOf] at h
    by_cases hx : x ∈ t.l
    · exact ⟨t, by simp, hx⟩
    · rw [if_neg hx] at h; obtain ⟨u, hu, hxu⟩ := ih h; exact ⟨u, by simp [hu], hxu⟩
theorem run_open (h : orderL k p n ts op ss) {x : Int} (hx : x ∈ op) : ∀ i, i ≤ ss.length → ∃ j ∈ (runS ts op ss i).ixs, x ∈ (runS ts op ss i).lab j
  | 0, _ => by
    obtain ⟨j, hj, e⟩ := getD_of_mem hx; have ho := (open_at h.1.2.2.2.2 hj).2; rw [e] at ho; obtain ⟨t, ht, hxt⟩ := dimOf_mem (ts := ts) (x := x) (by omega); obtain ⟨m, hm⟩ := List.getElem?_of_mem ht; have hml := (List.getElem?_eq_some_iff.1 hm).1; have e0 : runS ts op ss 0 = sh0 ts := rfl; refine ⟨m, by rw [e0, sh0_ixs]; simpa using hml, ?_⟩; rw [e0]
    simpa [Sh.lab, sh0, List.getD, hm] using hxt
  | i + 1, hi => by
    obtain ⟨j, hj, hxj⟩ := run_open h hx i (by omega); obtain ⟨hst, hs1, hl⟩ := run_step h (i := i) (by omega); have hok := (run_fine (ss := ss) h.1 i).1; rw [hs1]
    by_cases hc : j ≠ (stpAt ss i).a.toNat ∧ j ≠ (stpAt ss i).b.toNat
    · refine ⟨j, by rw [step_ixs hok]; simp [hj, hc], ?_⟩; rw [step_lab (mem_ixs.1 hj).1]; exact hxj
    · refine ⟨(runS ts op ss i).all.length, by rw [step_ixs hok]; simp, ?_⟩; rw [step_lab_new]; refine List.mem_filter.2 ⟨mem_joinI.2 ?_, by simpa using .inl hx⟩
      by_cases ea : j = (stpAt ss i).a.toNat
      · exact .inl (ea ▸ hxj)
      · exact .inr ((show j = (stpAt ss i).b.toNat by omega) ▸ hxj)
theorem run_left (h : orderL k p n ts op ss) (hn : ts ≠ []) : (runS ts op ss ss.length).ixs = [ts.length + ss.length - 1] := by
  have hlen : ts.length ≠ 0 := fun e => hn (List.eq_nil_of_length_eq_zero e); have hc := steps_count (op := op) (sh0_fine (net_axes h.1)) h.2.2 ss.length (Nat.le_refl _); rw [show (sh0 ts).ixs.length = ts.length by rw [sh0_ixs]; simp] at hc; have h1 : (runS ts op ss ss.length).ixs.length = 1 := by
    have := h.2.1
    show (shTo op (sh0 ts) (ss.take ss.length)).ixs.length = 1
    omega
  have hm : ts.length + ss.length - 1 ∈ (runS ts op ss ss.length).ixs := by
    rcases Nat.eq_zero_or_pos ss.length with h0 | h0
    · have e0 : runS ts op ss ss.length = sh0 ts := by rw [h0]; rfl
      rw [e0, sh0_ixs, h0]; simp; omega
    · obtain ⟨hst, hs1, hl⟩ := run_step h (i := ss.length - 1) (by omega); rw [show ss.length - 1 + 1 = ss.length by omega] at hs1; rw [hs1, step_ixs (run_fine (ss := ss) h.1 _).1, hl]
      simp; omega
  obtain ⟨y, hy⟩ := List.length_eq_one_iff.1 h1; rw [hy] at hm ⊢
  simp at hm
  rw [hm]
end
end Go.Proofs.Ytmddmahaikineaa
namespace Go.Proofs.Ytmddmahaikineaa
set_option maxRecDepth 100000
open Go.RowKit
theorem Made.join3 {h a b : PH} {l : List PH} (m : Made h (a :: b :: l)) : Made h [a, b, joinP l] := by
  have hs := m.sep; have hl : PLe (joinP l) h := fun k o e => by
    obtain ⟨y, hy, e'⟩ := joinP_dom e; exact m.le y (by simp [hy]) k o e'
  refine ⟨⟨fun x hx => ?_, fun x hx => ?_, fun x hx => by simp at hx, trivial⟩, fun x hx => ?_, fun k o e => ?_⟩
  · rcases List.mem_cons.1 hx with rfl | hx
    · exact hs.1 _ (by simp)
    · simp at hx; subst hx
      exact PDj.join fun y hy => hs.1 y (by simp [hy])
  · simp at hx; subst hx
    exact PDj.join fun y hy => hs.2.1 y hy
  · simp at hx
    rcases hx with rfl | rfl | rfl
    · exact m.le _ (by simp)
    · exact m.le _ (by simp)
    · exact hl
  · obtain ⟨x, hx, e'⟩ := m.dom k o e
    simp at hx
    rcases hx with rfl | rfl | hx
    · exact ⟨x, by simp, e'⟩
    · exact ⟨x, by simp, e'⟩
    · exact ⟨joinP l, by simp, PLe.join hs.2.2 x hx k o e'⟩
theorem Made.part3 {h a b c : PH} {l : List PH} (m : Made h [a, b, c]) (ml : Made c l) : Made h (a :: b :: l) := by
  have hs := m.sep; have hc : PLe c h := m.le c (by simp); refine ⟨⟨fun x hx => ?_, fun x hx => ?_, ml.sep⟩, fun x hx => ?_, fun k o e => ?_⟩
  · rcases List.mem_cons.1 hx with rfl | hx
    · exact hs.1 _ (by simp)
    · exact (((hs.1 c (by simp)).symm).mono (ml.le x hx)).symm
  · exact (((hs.2.1 c (by simp)).symm).mono (ml.le x hx)).symm
  · simp at hx
    rcases hx with rfl | rfl | hx
    · exact m.le _ (by simp)
    · exact m.le _ (by simp)
    · exact (ml.le x hx).trans hc
  · obtain ⟨x, hx, e'⟩ := m.dom k o e
    simp at hx
    rcases hx with rfl | rfl | rfl
    · exact ⟨x, by simp, e'⟩
    · exact ⟨x, by simp, e'⟩
    · obtain ⟨y, hy, e2⟩ := ml.dom k o e'; exact ⟨y, by simp [hy], e2⟩
theorem NetO.split {ts : List Ten} {op : List Int} {vt vo : Value} {h : PH} (r : NetO ts op vt vo h) : ∃ cs h0 ho hl, RowO 108 cs ts.length 3 vt h0 ∧ IntsO op vo ho ∧ OwnH (flat ts) cs hl ∧ Made h [h0, ho, hl] := by
  obtain ⟨cs, h0, ho, l, r0, r1, o, m⟩ := r; exact ⟨cs, h0, ho, joinP l, r0, r1, ⟨l, o, Made.join m.sep.2.2⟩, m.join3⟩
theorem NetO.join {ts : List Ten} {op : List Int} {vt vo : Value} {h h0 ho hl : PH} {cs : List Value} (r0 : RowO 108 cs ts.length 3 vt h0) (r1 : IntsO op vo ho) (o : OwnH (flat ts) cs hl) (m : Made h [h0, ho, hl]) : NetO ts op vt vo h := by
  obtain ⟨l, o, ml⟩ := o; exact ⟨cs, h0, ho, l, r0, r1, o, m.part3 ml⟩
theorem OwnL.take {xss : List (List Int)} {vs : List Value} {l : List PH} (o : OwnL xss vs l) (n : Nat) : OwnL (xss.take n) (vs.take n) (l.take n) := by
  refine ⟨by simp [o.l1], by simp [o.l2], fun i xs h => ?_⟩; have hi : i < n := by
    rcases Nat.lt_or_ge i n with h' | h'
    · exact h'
    · rw [List.getElem?_take, if_neg (by omega)] at h; cases h
  rw [List.getElem?_take, if_pos hi] at h ⊢; rw [List.getElem?_take, if_pos hi]; exact o.own i xs h
theorem OwnL.drop {xss : List (List Int)} {vs : List Value} {l : List PH} (o : OwnL xss vs l) (n : Nat) : OwnL (xss.drop n) (vs.drop n) (l.drop n) := by
  refine ⟨by simp [o.l1], by simp [o.l2], fun i xs h => ?_⟩; rw [List.getElem?_drop] at h ⊢; rw [List.getElem?_drop]; exact o.own (n + i) xs h
theorem flat_take {ts : List Ten} {i : Nat} (h : i ≤ ts.length) : flat (ts.take i) = (flat ts).take (i * 3) ∧ flat (ts.drop i) = (flat ts).drop (i * 3) := by
  have e : flat ts = flat (ts.take i) ++ flat (ts.drop i) := by rw [← flat_append, List.take_append_drop]
  have hl : (flat (ts.take i)).length = i * 3 := by rw [flat_len, List.length_take, Nat.min_eq_left h]
  constructor
  · rw [e, List.take_left' hl]
  · rw [e, List.drop_left' hl]
theorem flat_set {ts : List Ten} {i : Nat} (h : i < ts.length) (u : Ten) : flat (ts.set i u) = (flat ts).take (i * 3) ++ [u.l, u.d, u.x] ++ (flat ts).drop (i * 3 + 3) := by
  rw [List.set_eq_take_append_cons_drop, if_pos h, flat_append, (flat_take (Nat.le_of_lt h)).1, show i * 3 + 3 = (i + 1) * 3 by omega, ← (flat_take (show i + 1 ≤ ts.length by omega)).2, List.append_assoc]
  rfl
theorem sep_mono {l l' : List PH} (h : sepL l) (hs : l'.Sublist l) : sepL l' := by
  induction hs with
  | slnil => exact trivial
  | cons x _ ih => exact ih h.2
  | cons_cons x s ih => exact ⟨fun y hy => h.1 y (s.subset hy), ih h.2⟩
theorem OwnH.set {ts : List Ten} {u : Ten} {cs : List Value} {a b c : Value} {h h' : PH} {i : Nat} (hi : i < ts.length) (o : OwnH (flat ts) cs h) (r : TriO u a b c h') (hd : PDj h h') :
    ∃ g, PLe g (PUn h h') ∧ OwnH (flat (ts.set i u)) (cs.take (i * 3) ++ [a, b, c] ++ cs.drop (i * 3 + 3)) g := by
  obtain ⟨l, ol, m⟩ := o; obtain ⟨h1, h2, h3, r1, r2, r3, m'⟩ := r; have hx : ∀ x ∈ l.take (i * 3) ++ [h1, h2, h3] ++ l.drop (i * 3 + 3), PLe x (PUn h h') := fun x hx => by
    simp only [List.mem_append] at hx
    rcases hx with (hx | hx) | hx
    · exact (m.le x (List.mem_of_mem_take hx)).trans (PLe.un_l _ _)
    · exact (m'.le x hx).trans (PLe.un_r hd)
    · exact (m.le x (List.mem_of_mem_drop hx)).trans (PLe.un_l _ _)
  have hab : ∀ x ∈ l, ∀ y ∈ [h1, h2, h3], PDj x y := fun x hx y hy => (((hd.mono (m.le x hx)).symm).mono (m'.le y hy)).symm; have hsub : (l.take (i * 3) ++ l.drop (i * 3 + 3)).Sublist l := by
    conv => rhs; rw [← List.take_append_drop (i * 3) l]
    refine List.Sublist.append (List.Sublist.refl _) ?_; rw [← List.drop_drop]; exact List.drop_sublist _ _
  have hsep := sepL_append.1 (sep_mono m.sep hsub); have hs : sepL (l.take (i * 3) ++ [h1, h2, h3] ++ l.drop (i * 3 + 3)) := by
    refine sepL_append.2 ⟨sepL_append.2 ⟨hsep.1, m'.sep, fun x hx y hy => hab x (List.mem_of_mem_take hx) y hy⟩, hsep.2.1, fun x hx y hy => ?_⟩
    rcases List.mem_append.1 hx with hx | hx
    · exact hsep.2.2 x hx y hy
    · exact (hab y (List.mem_of_mem_drop hy) x hx).symm
  refine ⟨joinP (l.take (i * 3) ++ [h1, h2, h3] ++ l.drop (i * 3 + 3)), fun k o e => ?_, _, ?_, Made.join hs⟩
  · obtain ⟨y, hy, e'⟩ := joinP_dom e; exact hx y hy k o e'
  · rw [flat_set hi]; exact ((ol.take _).append (OwnL.three r1 r2 r3)).append (ol.drop _)
def replP (k p n : Int) (ts : List Ten) (op : List Int) (i : Int) (u : Ten) : Prop := netL k p n ts op ∧ (0 ≤ i ∧ i < ts.length) ∧ fitP k p n (ts.getD i.toNat ⟨[], [], []⟩) u
open Classical in
noncomputable def replB (k p n : Int) (ts : List Ten) (op : List Int) (i : Int) (u : Ten) : Bool := decide (replP k p n ts op i u)
noncomputable def ifB {α : Type} (b : Bool) (x y : α) : α := if b then x else y
noncomputable def replTs (k p n : Int) (ts : List Ten) (op : List Int) (i : Int) (u : Ten) : List Ten := ifB (replB k p n ts op i u) (ts.set i.toNat u) []
noncomputable def replOp (k p n : Int) (ts : List Ten) (op : List Int) (i : Int) (u : Ten) : List Int := ifB (replB k p n ts op i u) op []
def ReplR (k p n : Int) (ts : List Ten) (op : List Int) (i : Int) (u : Ten) (x : Value) (h : PH) : Prop :=
  ∃ vt vo, x = .tuple [netV (ifB (replB k p n ts op i u) k 0) (ifB (replB k p n ts op i u) p 0) (ifB (replB k p n ts op i u) n 0) vt vo, .bool (replB k p n ts op i u)].toArray ∧ NetO (replTs k p n ts op i u) (replOp k p n ts op i u) vt vo h
theorem NetO.nil : NetO [] [] (.slice none 0 0) (.slice none 0 0) emp :=
  ⟨[], emp, emp, [], RowO.nil, IntsO.nil, OwnL.nil, ⟨by simp [sepL, PDj.emp], fun x hx => by simp at hx; subst hx; exact PLe.emp _, fun k o e => by cases e⟩⟩
theorem ReplR.no {k p n i : Int} {ts : List Ten} {op : List Int} {u : Ten} (h : ¬ replP k p n ts op i u) : ReplR k p n ts op i u (.tuple [netV 0 0 0 (.slice none 0 0) (.slice none 0 0), .bool false].toArray) emp := by
  have e : replB k p n ts op i u = false := by simp [replB, h]
  refine ⟨.slice none 0 0, .slice none 0 0, ?_, ?_⟩
  · rw [e]; rfl
  · rw [replTs, replOp, e]; exact NetO.nil
theorem ReplR.yes {k p n i : Int} {ts : List Ten} {op : List Int} {u : Ten} {vt vo : Value} {g : PH} (h : replP k p n ts op i u) (r : NetO (ts.set i.toNat u) op vt vo g) : ReplR k p n ts op i u (.tuple [netV k p n vt vo, .bool true].toArray) g := by
  have e : replB k p n ts op i u = true := by simp [replB, h]
  refine ⟨vt, vo, ?_, ?_⟩
  · rw [e]; rfl
  · rw [replTs, replOp, e]; exact r
end Go.Proofs.Ytmddmahaikineaa
namespace Go.Proofs.Ytmddmahaikineaa
set_option maxRecDepth 100000
open Go.RowKit
theorem OwnL.piece {ts : List Ten} {vs : List Value} {l : List PH} (o : OwnL (flat ts) vs l) {k : Nat} {t : Ten} (h : ts[k]? = some t) : OwnL (flat [t]) ((vs.drop (k * 3)).take 3) ((l.drop (k * 3)).take 3) := by
  have hk := (List.getElem?_eq_some_iff.1 h).1; have e : ((flat ts).drop (k * 3)).take 3 = flat [t] := by
    rw [← (flat_take (Nat.le_of_lt hk)).2, drop_at h]; rfl
  have := (o.drop (k * 3)).take 3
  rwa [e] at this
theorem OwnL.dropK {ts : List Ten} {vs : List Value} {l : List PH} (o : OwnL (flat ts) vs l) (p q : Nat) : ∀ k, k ≤ ts.length → OwnL (flat (dropK 1 ts p q k)) (dropK 3 vs p q k) (dropK 3 l p q k)
  | 0, _ => OwnL.nil
  | k + 1, hk => by
    have ih := OwnL.dropK o p q k (by omega); have ht : ts[k]? = some ts[k] := List.getElem?_eq_getElem (by omega)
    by_cases h : k ≠ p ∧ k ≠ q
    · rw [dropK_yes h, dropK_yes h, dropK_yes h, one_drop ht, flat_append]; exact ih.append (o.piece ht)
    · rw [dropK_no h, dropK_no h, dropK_no h]; exact ih
theorem dropK_sub {α : Type} (m : Nat) (l : List α) (p q : Nat) : ∀ k, (dropK m l p q k).Sublist (l.take (k * m))
  | 0 => by simp [dropK]
  | k + 1 => by
    have ih := dropK_sub m l p q k; have e : l.take ((k + 1) * m) = l.take (k * m) ++ (l.drop (k * m)).take m := by rw [Nat.add_mul, Nat.one_mul, List.take_add]
    rw [e]
    by_cases h : k ≠ p ∧ k ≠ q
    · rw [dropK_yes h]; exact ih.append (List.Sublist.refl _)
    · rw [dropK_no h]; exact ih.trans (List.sublist_append_left _ _)
theorem OwnH.dropK {ts : List Ten} {cs : List Value} {h : PH} (o : OwnH (flat ts) cs h) (p q : Nat) : ∃ g, PLe g h ∧ OwnH (flat (dropK 1 ts p q ts.length)) (dropK 3 cs p q ts.length) g := by
  obtain ⟨l, ol, m⟩ := o; have hs := (dropK_sub 3 l p q ts.length).trans (List.take_sublist _ _); have hsep := sep_mono m.sep hs; refine ⟨joinP (Go.Proofs.Ytmddmahaikineaa.dropK 3 l p q ts.length), fun k o e => ?_, _, ol.dropK p q _ (Nat.le_refl _), Made.join hsep⟩; obtain ⟨y, hy, e'⟩ := joinP_dom e; exact m.le y (hs.subset hy) k o e'
theorem perm_all {k p n : Int} {t : Ten} {ls : List Int} (h : PermOK k p n t ls) : ∀ m : Nat, ((permX (widthI k n) t ls (permD t ls) m).length : Int) = m * widthI k n ∧ ∀ a ∈ permX (widthI k n) t ls (permD t ls) m, 0 ≤ a ∧ a ≤ topI k p n
  | 0 => by simp [permX]
  | m + 1 => by
    have ih := perm_all h m; have ho := h.off m; have he := elt_inR h.ten ho.1 ho.2; have hw := width_range h.ring; rw [permX_step]; refine ⟨?_, fun a ha => ?_⟩
    · rw [List.length_append, he.1, Int.natCast_add, ih.1, show ((m + 1 : Nat) : Int) = (m : Int) + 1 from rfl, Int.add_mul, Int.one_mul]; omega
    · rcases List.mem_append.1 ha with ha | ha
      · exact ih.2 a ha
      · exact he.2 a ha
theorem perm_axes {k p n : Int} {t : Ten} {ls : List Int} (h : PermOK k p n t ls) : axesL ls (permD t ls) := by
  refine ⟨h.len.2.2, (permD_len t ls).symm, fun j hj => ⟨?_, h.dims j (by rw [permD_len]; exact hj), nodup_not_take h.nodup hj⟩⟩; obtain ⟨i, hi, e⟩ := getD_of_mem (h.perm.mem_iff.1 (mem_getD hj)); rw [← e]; exact (h.axes.2.2 i hi).1
theorem perm_ten {k p n : Int} {t : Ten} {ls : List Int} (h : PermOK k p n t ls) : tensorL k p n (permT k n t ls).l (permT k n t ls).d (permT k n t ls).x := by
  have hs := h.small; have ha := perm_axes h; have hx := perm_all h (prodI (permD t ls)).toNat; refine ⟨h.ring, sizeI_ge.2 ⟨ha, hs.2⟩, ?_, hx.2⟩
  show ((permX (widthI k n) t ls (permD t ls) (prodI (permD t ls)).toNat).length : Int) = sizeI ls (permD t ls) * widthI k n
  rw [sizeI_yes ha hs.2, hx.1, show (((prodI (permD t ls)).toNat : Nat) : Int) = prodI (permD t ls) by omega]
theorem net_open {k p n : Int} {ts : List Ten} {op : List Int} (h : netL k p n ts op) : op.Nodup ∧ op.length ≤ 12 := by
  have ha := (sizeI_ge.1 h.2.2.2.2).1; exact ⟨axes_nodup ha, ha.1⟩
theorem mem_keep {t u : Ten} {ks : List Int} {x : Int} : x ∈ keepL t u ks ↔ (x ∈ t.l ∨ x ∈ u.l) ∧ x ∈ ks := by
  unfold keepL
  rw [List.mem_filter, mem_joinI, decide_eq_true_eq]
theorem sum_ten {k p n : Int} {t : Ten} (ht : tensorL k p n t.l t.d t.x) (ks : List Int) : tensorL k p n (sumR k p n t ks).l (sumR k p n t ks).d (sumR k p n t ks).x ∧ (sumR k p n t ks).l = keepL t (oneT k p n) ks ∧ (sumR k p n t ks).d = (keepL t (oneT k p n) ks).map (dimJ t (oneT k p n)) := by
  have := pair_ten (sum_pair ht ks)
  rwa [sumR_pair ht] at this
theorem fin_perm {k p n : Int} {t : Ten} {op : List Int} (ht : tensorL k p n t.l t.d t.x) (hn : op.Nodup) (hs : ∀ x ∈ op, x ∈ t.l) : PermOK k p n (sumR k p n t op) op := by
  obtain ⟨h1, h2, _⟩ := sum_ten ht op; have hk : ∀ x, x ∈ (sumR k p n t op).l ↔ x ∈ op := fun x => by
    rw [h2, mem_keep]; exact ⟨fun h => h.2, fun h => ⟨.inl (hs x h), h⟩⟩
  exact ⟨ht.1, h1, perm_of hn (fun x hx => (hk x).2 hx) (pigeon (axes_nodup (ten_axes h1)) fun x hx => (hk x).1 hx)⟩
noncomputable def finT (k p n : Int) (t : Ten) (op : List Int) : Ten := permT k n (sumR k p n t op) op
def finP (k p n : Int) (ts : List Ten) (op : List Int) (t : Ten) : Prop := netL k p n ts op ∧ tensorL k p n t.l t.d t.x ∧ ∀ x ∈ op, x ∈ t.l
theorem finP.perm {k p n : Int} {ts : List Ten} {op : List Int} {t : Ten} (h : finP k p n ts op t) : PermOK k p n (sumR k p n t op) op := fin_perm h.2.1 (net_open h.1).1 h.2.2
def conP (k p n : Int) (ts : List Ten) (op : List Int) (ss : List Stp) : Prop := orderL k p n ts op ss ∧ ∀ j, j < ss.length → runFit k p n ts op ss j
noncomputable def lastT (k p n : Int) (ts : List Ten) (op : List Int) (ss : List Stp) : Ten := (runTo k p n ts op ss ss.length).getD (ts.length + ss.length - 1) noTen
noncomputable def conT (k p n : Int) (ts : List Ten) (op : List Int) (ss : List Stp) : Ten := if ts.length = 0 then oneT k p n else finT k p n (lastT k p n ts op ss) op
section
variable {k p n : Int} {ts : List Ten} {op : List Int} {ss : List Stp}
theorem conP.last (h : conP k p n ts op ss) (hn : ts.length ≠ 0) : finP k p n ts op (lastT k p n ts op ss) ∧ outTo k p n ts op ss ss.length = [lastT k p n ts op ss] := by
  have r := run_ok h.1 ss.length (Nat.le_refl _) h.2; have hl := run_left h.1 (fun e => hn (by rw [e]; rfl)); have hg := r.get (j := ts.length + ss.length - 1) (by omega); refine ⟨⟨h.1.1, hg.1, fun x hx => ?_⟩, by rw [outTo, hl]; rfl⟩; obtain ⟨j, hj, hxj⟩ := run_open h.1 hx ss.length (Nat.le_refl _); rw [hl] at hj
  simp at hj
  show x ∈ ((runTo k p n ts op ss ss.length).getD (ts.length + ss.length - 1) noTen).l
  rw [hg.2.1, ← hj]; exact hxj
theorem conP.empty (h : conP k p n ts op ss) (hn : ts.length = 0) : op = [] := by
  refine List.eq_nil_iff_forall_not_mem.2 fun x hx => ?_; obtain ⟨j, hj, e⟩ := getD_of_mem hx; have ho := (open_at h.1.1.2.2.2.2 hj).2; have e0 : ts = [] := List.eq_nil_of_length_eq_zero hn; rw [e0] at ho
  simp [dimOf] at ho
theorem conP.ten (h : conP k p n ts op ss) : tensorL k p n (conT k p n ts op ss).l (conT k p n ts op ss).d (conT k p n ts op ss).x ∧ (conT k p n ts op ss).l = op := by
  unfold conT
  by_cases hn : ts.length = 0
  · rw [if_pos hn]; exact ⟨one_ten h.1.1.1, (h.empty hn).symm⟩
  · rw [if_neg hn]; exact ⟨perm_ten (h.last hn).1.perm, rfl⟩
end
end Go.Proofs.Ytmddmahaikineaa
namespace Go.Proofs.Ytmddmahaikineaa
set_option maxRecDepth 100000
open Go.RowKit
theorem one_drop_none {α : Type} {l : List α} {k : Nat} (h : l[k]? = none) : (l.drop (k * 1)).take 1 = [] := by
  rw [Nat.mul_one, List.drop_of_length_le (List.getElem?_eq_none_iff.1 h)]; rfl
theorem mem_dropK {α : Type} {l : List α} {p q : Nat} {t : α} : ∀ k, t ∈ dropK 1 l p q k ↔ ∃ m, m < k ∧ m ≠ p ∧ m ≠ q ∧ l[m]? = some t
  | 0 => by simp [dropK]
  | k + 1 => by
    have ih := mem_dropK (l := l) (p := p) (q := q) (t := t) k; have hx : t ∈ (l.drop (k * 1)).take 1 ↔ l[k]? = some t := by
      cases h : l[k]? with
      | none => rw [one_drop_none h]; simp
      | some x => rw [one_drop h]; simp [eq_comm]
    by_cases hc : k ≠ p ∧ k ≠ q
    · rw [dropK_yes hc, List.mem_append, ih, hx]
      constructor
      · rintro (⟨m, h1, h2⟩ | h)
        · exact ⟨m, by omega, h2⟩
        · exact ⟨k, by omega, hc.1, hc.2, h⟩
      · rintro ⟨m, h1, h2, h3, h4⟩
        by_cases e : m = k
        · subst e; exact .inr h4
        · exact .inl ⟨m, by omega, h2, h3, h4⟩
    · rw [dropK_no hc, ih]
      constructor
      · rintro ⟨m, h1, h2⟩; exact ⟨m, by omega, h2⟩
      · rintro ⟨m, h1, h2, h3, h4⟩; have : m ≠ k := fun e => hc (e ▸ ⟨h2, h3⟩); exact ⟨m, by omega, h2, h3, h4⟩
def needS (ts : List Ten) (op : List Int) (i j m : Nat) : List Int := op ++ (dropK 1 ts i j m).flatMap (·.l)
section
variable {ts : List Ten} {op : List Int} {i j k : Nat} {t : Ten}
end
theorem dimOf_map {us : List Ten} {f : Int → Int} {x : Int} (h : ∀ t ∈ us, t.d = t.l.map f) (hx : ∃ t ∈ us, x ∈ t.l) : dimOf us x = f x := by
  induction us with
  | nil => obtain ⟨t, ht, _⟩ := hx; simp at ht
  | cons t us ih =>
    rw [dimOf]
    by_cases hm : x ∈ t.l
    · rw [if_pos hm, h t (by simp), map_getD (findI_get hm).1, (findI_get hm).2]
    · rw [if_neg hm]; refine ih (fun u hu => h u (by simp [hu])) ?_; obtain ⟨u, hu, hxu⟩ := hx
      rcases List.mem_cons.1 hu with rfl | hu
      · exact absurd hxu hm
      · exact ⟨u, hu, hxu⟩
theorem dimOf_none {us : List Ten} {x : Int} (hx : ¬ ∃ t ∈ us, x ∈ t.l) : dimOf us x = 0 := Classical.byContradiction fun h => hx (dimOf_mem h)
theorem cons_of_map {us : List Ten} {f : Int → Int} (h : ∀ t ∈ us, t.d = t.l.map f) : consL us := fun i _ t ht j hj t' ht' => by
  rw [ht] at ht'
  cases ht'
  by_cases hx : ∃ u ∈ us.take i, t.l.getD j 0 ∈ u.l
  · right
    rw [dimOf_map (fun u hu => h u (List.mem_of_mem_take hu)) hx, h t (List.mem_of_getElem? ht), map_getD hj]
  · exact .inl (dimOf_none hx)
theorem net_of {k p n : Int} {ts us : List Ten} {op : List Int} (h : netL k p n ts op) (hl : us.length ≤ 12) (ht : ∀ t ∈ us, tensorL k p n t.l t.d t.x) (hd : ∀ t ∈ us, t.d = t.l.map (dimOf ts)) (ho : ∀ x ∈ op, ∃ t ∈ us, x ∈ t.l) : netL k p n us op := by
  refine ⟨h.1, hl, ht, cons_of_map hd, ?_⟩; have e : dimsFor us op = dimsFor ts op := List.map_congr_left fun x hx => dimOf_map hd (ho x hx); rw [e]; exact h.2.2.2.2
theorem net_has {k p n : Int} {ts : List Ten} {op : List Int} (h : netL k p n ts op) {x : Int} (hx : x ∈ op) : ∃ t ∈ ts, x ∈ t.l := by
  obtain ⟨j, hj, e⟩ := getD_of_mem hx; have ho := (open_at h.2.2.2.2 hj).2; rw [e] at ho; exact dimOf_mem (by omega)
def mgLo (i j : Int) : Nat := (min i j).toNat
def mgHi (i j : Int) : Nat := (max i j).toNat
def mgA (ts : List Ten) (i j : Int) : Ten := ts.getD (mgLo i j) noTen
def mgB (ts : List Ten) (i j : Int) : Ten := ts.getD (mgHi i j) noTen
def mergN (ts : List Ten) (op : List Int) (i j : Int) : List Int := needS ts op i.toNat j.toNat ts.length
def mergP (k p n : Int) (ts : List Ten) (op : List Int) (i j : Int) : Prop := netL k p n ts op ∧ (0 ≤ i ∧ i < ts.length) ∧ (0 ≤ j ∧ j < ts.length) ∧ i ≠ j ∧ pairP k p n (mgA ts i j) (mgB ts i j) (mergN ts op i j)
noncomputable def mergT (k p n : Int) (ts : List Ten) (op : List Int) (i j : Int) : Ten := pairR k p n (mgA ts i j) (mgB ts i j) (mergN ts op i j)
noncomputable def mergL (k p n : Int) (ts : List Ten) (op : List Int) (i j : Int) (m : Nat) : List Ten := dropK 1 (ts.set (mgLo i j) (mergT k p n ts op i j)) (mgHi i j) (mgHi i j) m
section
variable {k p n : Int} {ts : List Ten} {op : List Int} {i j : Int}
theorem merg_hi {m : Nat} (h : (m : Int) = max i j) : mergL k p n ts op i j (m + 1) = mergL k p n ts op i j m := by
  have e : m = mgHi i j := by unfold mgHi; omega
  unfold mergL
  rw [dropK_no (by omega)]
theorem merg_len (m : Nat) : (mergL k p n ts op i j m).length ≤ m := by
  have := dropK_len (m := 1) (cs := ts.set (mgLo i j) (mergT k p n ts op i j)) (p := mgHi i j) (q := mgHi i j) m
  unfold mergL; omega
theorem mergP.mem (h : mergP k p n ts op i j) {t : Ten} : t ∈ mergL k p n ts op i j ts.length ↔ t = mergT k p n ts op i j ∨ ∃ m, m < ts.length ∧ m ≠ mgLo i j ∧ m ≠ mgHi i j ∧ ts[m]? = some t := by
  obtain ⟨_, hi, hj, hne, _⟩ := h; have e : mgLo i j ≠ mgHi i j := by unfold mgLo mgHi; omega
  have e2 : mgLo i j < ts.length := by unfold mgLo; omega
  rw [mergL, mem_dropK]
  constructor
  · rintro ⟨m, h1, h2, _, h4⟩
    by_cases c : mgLo i j = m
    · subst c; rw [List.getElem?_set_self h1] at h4
      cases h4; exact .inl rfl
    · rw [List.getElem?_set_ne c] at h4; exact .inr ⟨m, h1, Ne.symm c, h2, h4⟩
  · rintro (rfl | ⟨m, h1, h2, h3, h4⟩)
    · exact ⟨mgLo i j, e2, e, e, List.getElem?_set_self e2⟩
    · exact ⟨m, h1, h3, h3, by rw [List.getElem?_set_ne (Ne.symm h2)]; exact h4⟩
theorem mergP.less (h : mergP k p n ts op i j) : (mergL k p n ts op i j ts.length).length + 1 ≤ ts.length := by
  obtain ⟨_, hi, hj, hne, _⟩ := h; have e : mgHi i j < ts.length := by unfold mgHi; omega
  have hs : ∀ (c m : Nat), mgHi i j < m → m = mgHi i j + 1 + c → (mergL k p n ts op i j m).length + 1 ≤ m := by
    intro c
    induction c with
    | zero =>
      intro m hm e; have := merg_len (k := k) (p := p) (n := n) (ts := ts) (op := op) (i := i) (j := j) (mgHi i j); rw [show m = mgHi i j + 1 by omega, merg_hi (by unfold mgHi; omega)]
      omega
    | succ c ih =>
      intro m hm e; have ih := ih (mgHi i j + 1 + c) (by omega) rfl; have e3 : mgHi i j + 1 + c ≠ mgHi i j := by omega
      rw [show m = (mgHi i j + 1 + c) + 1 by omega, mergL, dropK_yes ⟨e3, e3⟩, List.length_append, List.length_take]
      unfold mergL at ih
      omega
  exact hs (ts.length - (mgHi i j + 1)) ts.length e (by omega)
end
end Go.Proofs.Ytmddmahaikineaa
namespace Go.Proofs.Ytmddmahaikineaa
set_option maxRecDepth 100000
open Go.RowKit
theorem skip_yes {xs : List Int} {i j : Nat} (h : i < xs.length) (hij : i ≠ j) : (xs.take (i + 1)).eraseIdx j = (xs.take i).eraseIdx j ++ [xs.getD i 0] := by
  have hl : (xs.take i).length = i := by simp; omega
  rw [take_succ h]
  rcases Nat.lt_or_ge j i with c | c
  · rw [List.eraseIdx_append_of_lt_length (by rw [hl]; exact c)]
  · rw [List.eraseIdx_of_length_le (by simp; omega), List.eraseIdx_of_length_le (by rw [hl]; exact c)]
theorem skip_no {xs : List Int} {j : Nat} (h : j < xs.length) : (xs.take (j + 1)).eraseIdx j = (xs.take j).eraseIdx j := by
  have hl : (xs.take j).length = j := by simp; omega
  have h1 : (xs.take j ++ [xs.getD j 0]).eraseIdx j = xs.take j := by
    rw [List.eraseIdx_append_of_length_le (by omega), hl, Nat.sub_self]
    simp
  rw [take_succ h, h1, List.eraseIdx_of_length_le (by omega)]
theorem erase_filter {ls : List Int} (hn : ls.Nodup) {x : Int} (hx : x ∈ ls) : ls.filter (fun y => decide (y ≠ x)) = ls.eraseIdx (findI ls x).toNat := by
  have e : (findI ls x).toNat = ls.idxOf x := by unfold findI; rw [if_pos hx]; simp
  rw [e, ← List.erase_eq_eraseIdx_of_idxOf rfl, List.Nodup.erase_eq_filter hn x]
  apply List.filter_congr
  intro y _; rw [Bool.eq_iff_iff]
  simp
theorem prod_erase : ∀ {ds : List Int} {j : Nat}, j < ds.length → prodI (ds.eraseIdx j) * ds.getD j 0 = prodI ds
  | [], j, h => by simp at h
  | d :: ds, 0, _ => by rw [List.eraseIdx_zero, List.tail_cons, prodI_cons, Int.mul_comm]; rfl
  | d :: ds, j + 1, h => by
    have ih := prod_erase (ds := ds) (j := j) (by simpa using h); rw [List.eraseIdx_cons_succ, prodI_cons, prodI_cons, List.getD_cons_succ, Int.mul_assoc, ih]
theorem map_erase {α β : Type} (f : α → β) : ∀ (l : List α) (j : Nat), (l.eraseIdx j).map f = (l.map f).eraseIdx j
  | [], j => by simp
  | a :: l, 0 => by simp
  | a :: l, j + 1 => by simp [map_erase f l j]
def slJ (t : Ten) (x : Int) : Nat := (findI t.l x).toNat
def slX (wd : Int) (t : Ten) (j : Nat) (v : Int) (m : Nat) : List Int := (slTo t.d j v m).flatMap fun (n : Nat) => elt t.x wd n
noncomputable def slT (k n : Int) (t : Ten) (x v : Int) : Ten := ⟨t.l.eraseIdx (slJ t x), t.d.eraseIdx (slJ t x), slX (widthI k n) t (slJ t x) v (prodI t.d).toNat⟩
theorem slX_yes {wd : Int} {t : Ten} {j m : Nat} {v : Int} (h : (idxL t.d m).getD j 0 = v) : slX wd t j v (m + 1) = slX wd t j v m ++ elt t.x wd m := by
  have e : slHas t.d j v m = true := decide_eq_true h
  unfold slX slTo
  rw [List.range_succ, List.filter_append, List.flatMap_append, List.filter_cons_of_pos e]
  simp
theorem slX_no {wd : Int} {t : Ten} {j m : Nat} {v : Int} (h : (idxL t.d m).getD j 0 ≠ v) : slX wd t j v (m + 1) = slX wd t j v m := by
  have e : ¬ slHas t.d j v m = true := by unfold slHas; simpa using h
  unfold slX slTo
  rw [List.range_succ, List.filter_append, List.flatMap_append, List.filter_cons_of_neg e]
  simp
/-- The numbers as the program meets them. -/
def slY (wd : Int) (t : Ten) (j : Nat) (v : Int) (m : Nat) : List Int := ((List.range m).map (slAt t.d j v)).flatMap fun (n : Nat) => elt t.x wd n
theorem slY_step {wd : Int} {t : Ten} {j m : Nat} {v : Int} : slY wd t j v (m + 1) = slY wd t j v m ++ elt t.x wd (slAt t.d j v m) := by
  unfold slY
  rw [List.range_succ, List.map_append, List.flatMap_append]
  simp
structure SlOK (k p n : Int) (t : Ten) (x v : Int) : Prop where
  ten : tensorL k p n t.l t.d t.x
  mem : x ∈ t.l
  val : 0 ≤ v ∧ v < t.d.getD (slJ t x) 0
section
variable {k p n : Int} {t : Ten} {x v : Int}
theorem sl_j (h : tensorL k p n t.l t.d t.x) (hx : x ∈ t.l) : slJ t x < t.l.length ∧ slJ t x < t.d.length ∧ t.l.getD (slJ t x) 0 = x := by
  have hg := findI_get hx; have ha := ten_axes h; exact ⟨hg.1, by rw [← ha.2.1]; exact hg.1, hg.2⟩
theorem SlOK.eq (h : SlOK k p n t x v) : slX (widthI k n) t (slJ t x) v (prodI t.d).toNat = slY (widthI k n) t (slJ t x) v (prodI (t.d.eraseIdx (slJ t x))).toNat := by
  have hj := sl_j h.ten h.mem
  unfold slX slY
  rw [sl_eq (fun d hd => (dims_mem (axes_dims (ten_axes h.ten)) d hd).1) hj.2.1 h.val]
theorem SlOK.at_ (h : SlOK k p n t x v) (m : Nat) : slAt t.d (slJ t x) v m < (prodI t.d).toNat ∧ ((slAt t.d (slJ t x) v m : Nat) : Int) = v * strOf t.l t.d x + dotL (stepsL (t.l.eraseIdx (slJ t x)) t.l t.d) (idxL (t.d.eraseIdx (slJ t x)) m) := by
  have hj := sl_j h.ten h.mem; have ha := ten_axes h.ten; have hd : ∀ d ∈ t.d, 1 ≤ d := fun d hd => (dims_mem (axes_dims ha) d hd).1; have hin := sl_in hd hj.2.1 h.val m; have hs := sl_dot (ls := t.l) (ds := t.d) (is := idxL (t.d.eraseIdx (slJ t x)) m) (j := slJ t x) v (axes_nodup ha) ha.2.1 hj.1 (by rw [idxL_len, List.length_eraseIdx_of_lt hj.2.1]; have := hj.2.1; have := ha.2.1; omega); rw [hj.2.2] at hs
  unfold slAt
  omega
theorem SlOK.dims (h : SlOK k p n t x v) : dimsIn (t.d.eraseIdx (slJ t x)) ∧ 1 ≤ prodI (t.d.eraseIdx (slJ t x)) ∧ prodI (t.d.eraseIdx (slJ t x)) ≤ 4096 := by
  have hj := sl_j h.ten h.mem; have ha := ten_axes h.ten; have hm := erase_mem (j := slJ t x) (dims_mem (axes_dims ha)); have hp1 := prodI_one fun d hd => (hm d hd).1; have hpe := prod_erase hj.2.1; have hd := axes_dims ha (slJ t x) hj.2.1; have hp := ten_prod h.ten; have h1 : prodI (t.d.eraseIdx (slJ t x)) * 1 ≤ prodI (t.d.eraseIdx (slJ t x)) * t.d.getD (slJ t x) 0 := Int.mul_le_mul_of_nonneg_left hd.1 (by omega); exact ⟨fun j hj => hm _ (mem_getD hj), hp1, by omega⟩
theorem SlOK.el (h : SlOK k p n t x v) (m : Nat) : InR k p n (elt t.x (widthI k n) (slAt t.d (slJ t x) v m)) := by
  have := (h.at_ m).1; exact elt_inR h.ten (by omega) (by omega)
theorem SlOK.all (h : SlOK k p n t x v) : ∀ m : Nat, ((slY (widthI k n) t (slJ t x) v m).length : Int) = m * widthI k n ∧ ∀ a ∈ slY (widthI k n) t (slJ t x) v m, 0 ≤ a ∧ a ≤ topI k p n
  | 0 => by simp [slY]
  | m + 1 => by
    have ih := SlOK.all h m; have he := h.el m; have hw := width_range h.ten.1; rw [slY_step]; refine ⟨?_, fun a ha => ?_⟩
    · rw [List.length_append, he.1, Int.natCast_add, ih.1, show ((m + 1 : Nat) : Int) = (m : Int) + 1 from rfl, Int.add_mul, Int.one_mul]; omega
    · rcases List.mem_append.1 ha with ha | ha
      · exact ih.2 a ha
      · exact he.2 a ha
theorem SlOK.axes (h : SlOK k p n t x v) : axesL (t.l.eraseIdx (slJ t x)) (t.d.eraseIdx (slJ t x)) := by
  have hj := sl_j h.ten h.mem; have ha := ten_axes h.ten; have hl := List.length_eraseIdx_of_lt hj.1; have hl2 := List.length_eraseIdx_of_lt hj.2.1; have hn : (t.l.eraseIdx (slJ t x)).Nodup := (axes_nodup ha).sublist (List.eraseIdx_sublist _ _); refine ⟨by rw [hl]; have := ha.1; omega, by rw [hl, hl2, ha.2.1], fun i hi => ⟨?_, h.dims.1 i (by rw [hl] at hi; rw [hl2]; have := ha.2.1; omega), nodup_not_take hn hi⟩⟩; obtain ⟨q, hq, e⟩ := getD_of_mem (List.mem_of_mem_eraseIdx (mem_getD hi)); rw [← e]; exact (ha.2.2 q hq).1
theorem SlOK.out (h : SlOK k p n t x v) : tensorL k p n (slT k n t x v).l (slT k n t x v).d (slT k n t x v).x := by
  have hd := h.dims; have ha := h.axes; have hx := h.all (prodI (t.d.eraseIdx (slJ t x))).toNat; refine ⟨h.ten.1, sizeI_ge.2 ⟨ha, hd.2.2⟩, ?_, fun a hm => ?_⟩
  · show ((slX (widthI k n) t (slJ t x) v (prodI t.d).toNat).length : Int) = sizeI (t.l.eraseIdx (slJ t x)) (t.d.eraseIdx (slJ t x)) * widthI k n
    rw [h.eq, sizeI_yes ha hd.2.2, hx.1, show (((prodI (t.d.eraseIdx (slJ t x))).toNat : Nat) : Int) = prodI (t.d.eraseIdx (slJ t x)) by omega]
  · have hm' : a ∈ slX (widthI k n) t (slJ t x) v (prodI t.d).toNat := hm; rw [h.eq] at hm'; exact hx.2 a hm'
end
theorem slX_len {k p n : Int} {t : Ten} (h : tensorL k p n t.l t.d t.x) (j : Nat) (v : Int) : ∀ m : Nat, (slX (widthI k n) t j v m).length ≤ m * 6
  | 0 => by simp [slX, slTo]
  | m + 1 => by
    have ih := slX_len h j v m; have hw := width_range h.1; have he : (elt t.x (widthI k n) (m : Int)).length ≤ 6 := by
      unfold elt
      rw [List.length_take]
      omega
    by_cases c : (idxL t.d m).getD j 0 = v
    · rw [slX_yes c, List.length_append]; omega
    · rw [slX_no c]; omega
noncomputable def fix1 (k n : Int) (t : Ten) (x v : Int) : Ten := if x ∈ t.l then slT k n t x v else t
noncomputable def fixTo (k n : Int) (t : Ten) (ls vs : List Int) : Nat → Ten
  | 0 => t
  | i + 1 => fix1 k n (fixTo k n t ls vs i) (ls.getD i 0) (vs.getD i 0)
end Go.Proofs.Ytmddmahaikineaa
namespace Go.Proofs.Ytmddmahaikineaa
set_option maxRecDepth 100000
open Go.RowKit
theorem ct_i_withoutInt (ls : List Int) (x : Int) (v : Value) (w : World) (r : IntsR ls v (hp w)) (hs : ls.length ≤ 1048576) :
    Calls Try.prog 137 [v, num x].toArray w (Ret w emp (IntsO (ls.filter fun y => decide (y ≠ x)))) := by
  refine calls_in Try.func137 rfl Try.ntmps137 rfl (Sat.start w) ?_; have hle0 := r.le; refine wp_sc (wp_sq (sq_v rfl (v_assign rfl) rfl (sq_end (qs_n (wp_sc (wp_sq (sq_v rfl (v_assign rfl) rfl (sq_end (qs_n (wp_sc (wp_sc (wp_sq (sq_v rfl (v_move rfl) rfl (sq_v rfl (v_len Try.underlying25 rfl r.sl) rfl (sq_v rfl (v_move rfl) rfl (sq_end (qs_n (wp_bl ?_)))))))))))))))))); refine wp_lp (σ := Nat × Value × PH) (fun z_ => [(1, num x), (4, .slice none 0 0), (5, z_.2.1), (8, v), (9, num ls.length), (10, num z_.1)]) (fun z_ => [z_.2.2, hp w]) (fun z_ => z_.1 ≤ ls.length ∧ IntsO ((ls.take z_.1).filter fun y => decide (y ≠ x)) z_.2.1 z_.2.2) (fun z_ => ls.length - z_.1) (0, .slice none 0 0, emp) (⟨by (try dsimp only); omega, IntsO.nil⟩) ⟨rfl, rfl, (by first | rfl | exact ksub rfl (by first | omega | (simp; done) | (simp; omega))), rfl, rfl, (by first | rfl | exact ksub rfl (by first | omega | (simp; done) | (simp; omega))), trivial⟩ (fun _ s => (emp_sat s)) ?_; rintro ⟨i, lv, lh⟩ ⟨hi, q⟩; dsimp only at hi q ⊢; have hle_q := q.toR.le; have hfl := filter_take_len ls (fun y => decide (y ≠ x)) i; refine wp_sc (wp_sq (sq_v rfl (v_lss rfl rfl) rfl (sq_end (qs_n (wp_sc ?_))))); refine wp_cd rfl (fun c11 => ?_) (fun c11 => ?_)
  · refine wp_sk (qs_n (wp_sc (wp_bl (wp_sc (wp_sq ?_))))); refine sq_v rfl (v_idxI Try.underlying25 ty_3 rfl rfl r (by first | omega | (simp; omega) | (simp only [List.length_append, List.length_cons, List.length_nil]; omega) | (rw [List.length_set]; omega)) (by first | omega | (simp; omega) | (simp only [List.length_append, List.length_cons, List.length_nil]; omega) | (rw [List.length_set]; omega))) rfl ?_; refine sq_v rfl (v_loadI (k := i) 1 ty_3 rfl rfl r (by first | omega | (simp; omega) | (simp only [List.length_append, List.length_cons, List.length_nil]; omega) | (rw [List.length_set]; omega))) rfl ?_; refine sq_v rfl (v_assign rfl) rfl (sq_end (qs_n (wp_sc (wp_sq (sq_v rfl (v_move rfl) rfl (sq_v rfl (v_move rfl) rfl (sq_v rfl (v_neq rfl rfl) rfl (sq_end (qs_n ?_))))))))); refine wp_cd rfl (fun c16 => ?_) (fun c16 => ?_)
    · refine wp_sq (sq_v rfl (v_move rfl) rfl (sq_v rfl (v_move rfl) rfl ?_)); refine sq_x rfl (x_buildS [num (ls.getD i 0)] Try.underlying25 ty_3 (by decide) rfl rfl rfl (by decide) (by decide) (by intro v hv; simp at hv; rcases hv with rfl <;> rfl)) rfl ?_; intro v19 h19 (r19 : IntsO [ls.getD i 0] v19 h19); refine sq_m 1 rfl rfl (m_appI 1 0 Try.underlying25 ty_3 rfl rfl rfl rfl q rfl r19.toR (by first | omega | (simp; omega) | (simp only [List.length_append, List.length_cons, List.length_nil]; omega) | (rw [List.length_set]; omega))) rfl ?_; intro v20 h_r20 r20; refine sq_v rfl (v_assign rfl) rfl (sq_end (qs_bn (qs_n (wp_sq ?_)))); refine sq_v rfl (v_add rfl rfl ((by unfold I64; omega))) rfl ?_; refine sq_v rfl (v_move rfl) rfl (sq_end ?_); exact qs_bk (i + 1, v20, h_r20) ⟨by (try dsimp only); omega, by (try dsimp only); rw [filter_yes (by omega) (decide_eq_true (by omega))]; exact r20⟩ (by simp only; omega) ⟨rfl, rfl, (by first | rfl | exact ksub rfl (by first | omega | (simp; done) | (simp; omega))), rfl, rfl, (by first | rfl | exact ksub rfl (by first | omega | (simp; done) | (simp; omega))), trivial⟩ (fun _ s => s.pick [1, 2] (by decide) rfl)
    · refine wp_sk (qs_bn (qs_n (wp_sq ?_))); refine sq_v rfl (v_add rfl rfl ((by unfold I64; omega))) rfl ?_; refine sq_v rfl (v_move rfl) rfl (sq_end ?_); exact qs_bk (i + 1, lv, lh) ⟨by (try dsimp only); omega, by (try dsimp only); rw [filter_no (by omega) (decide_eq_false (by omega))]; exact q⟩ (by simp only; omega) ⟨rfl, rfl, (by first | rfl | exact ksub rfl (by first | omega | (simp; done) | (simp; omega))), rfl, rfl, (by first | rfl | exact ksub rfl (by first | omega | (simp; done) | (simp; omega))), trivial⟩ (fun _ s => s)
  · refine wp_ex (qs_x (qs_x (qs_bx (qs_n (wp_sc (wp_sq (sq_v rfl (v_move rfl) rfl (sq_v rfl (v_assign rfl) rfl (sq_end (qs_n (wp_rt ?_))))))))))); exact qs_ret1 rfl rfl (fin_t 0 (i := 1) rfl rfl rfl (by rw [List.take_of_length_le (by omega)] at q; exact q))
set_option maxHeartbeats 4000000 in
theorem ct_s_l09Slice (k p n x v : Int) (t : Ten) (a b c : Value) (w : World) (r1 : IntsR t.l a (hp w)) (r2 : IntsR t.d b (hp w)) (r3 : IntsR t.x c (hp w)) (ht : tensorL k p n t.l t.d t.x) (hx : x ∈ t.l) :
    Calls Try.prog 161 [ringV k p n, tenV a b c, num x, num v].toArray w (Ret w emp (TenT (slT k n t x v))) := by
  have hring := ht.1; have hlen := ten_len ht; have hax := ten_axes ht; have hd := axes_dims hax; have hpr := ten_prod ht; have hp1 := prodI_one fun d hd' => (dims_mem hd d hd').1; have hj := sl_j ht hx; have hj0 := findI_ge.2 hx; have hw := width_range hring; have hal := hax.2.1; have hjf : ((slJ t x : Nat) : Int) = findI t.l x := by unfold slJ; omega
  have hjt : (findI t.l x).toNat = slJ t x := rfl; refine calls_in Try.func161 rfl Try.ntmps161 rfl (Sat.start w) ?_; have hle0 := r1.le; have hle1 := r2.le; have hle2 := r3.le; refine wp_sc (wp_sq ?_); refine sq_x rfl (x_box rfl rfl) rfl ?_; rintro _ _ ⟨b4, rfl, rfl⟩; refine sq_x rfl (x_box rfl rfl) rfl ?_; rintro _ _ ⟨b5, rfl, rfl⟩; refine sq_x rfl (x_alloc ty_108 rfl) rfl ?_; rintro _ _ ⟨b8, rfl, rfl⟩; refine sq_end (qs_n (wp_sc (wp_sq (sq_v rfl (v_build [.slice none 0 0, .slice none 0 0, .slice none 0 0] rfl (by kernel_rfl)) rfl ?_)))); refine sq_x rfl (x_alloc ty_108 rfl) rfl ?_; rintro _ _ ⟨b9, rfl, rfl⟩; refine sq_m 0 rfl rfl (m_store 0 ty_108 rfl rfl rfl rfl (by simp [one_sl]) rfl (Nat.le_of_ble_eq_true rfl)) rfl ?_; rintro _ _ ⟨rfl, rfl⟩; refine sq_end (qs_n (wp_sc (wp_sq (sq_v rfl (v_fieldAddr fd_108_0 ty_25 (by decide) rfl) rfl (sq_v rfl (v_loadB 2 ty_25 rfl rfl rfl) rfl (sq_v rfl (v_move rfl) rfl (sq_u rfl (x_callv rfl en_82 (fun w s => ct_s_l05Find _ _ _ w (r1.mono (s.get 4 rfl)))) rfl (sq_v rfl (v_assign rfl) rfl (sq_end (qs_n (wp_sc (wp_sc (wp_sq (sq_v rfl (v_fieldAddr fd_108_0 ty_25 (by decide) rfl) rfl (sq_v rfl (v_loadB 2 ty_25 rfl rfl rfl) rfl (sq_v rfl (v_len Try.underlying25 rfl r1.sl) rfl (sq_v rfl (v_move rfl) rfl (sq_end (qs_n (wp_bl ?_)))))))))))))))))))); refine wp_lp (σ := Nat × Value × PH × Value × PH) (fun z_ => [(3, num v), (4, .pointer (some ⟨b4, 0, none⟩)), (5, .pointer (some ⟨b5, 0, none⟩)), (8, .pointer (some ⟨b8, 0, none⟩)), (9, .pointer (some ⟨b9, 0, none⟩)), (10, num (findI t.l x)), (20, a), (21, num t.l.length), (22, num z_.1)]) (fun z_ => [z_.2.2.1, z_.2.2.2.2, box b9 [z_.2.1, z_.2.2.2.1, .slice none 0 0] 108, box b8 [.slice none 0 0, .slice none 0 0, .slice none 0 0] 108, box b5 [a, b, c] 108, box b4 [num k, num p, num n] 32, hp w]) (fun z_ => z_.1 ≤ t.l.length ∧ IntsO ((t.l.take z_.1).eraseIdx (slJ t x)) z_.2.1 z_.2.2.1 ∧ IntsO ((t.d.take z_.1).eraseIdx (slJ t x)) z_.2.2.2.1 z_.2.2.2.2) (fun z_ => t.l.length - z_.1) (0, .slice none 0 0, emp, .slice none 0 0, emp) (⟨by (try dsimp only); omega, by (try dsimp only); simpa using IntsO.nil, by (try dsimp only); simpa using IntsO.nil⟩) ⟨rfl, rfl, rfl, rfl, rfl, rfl, rfl, rfl, (by first | rfl | exact ksub rfl (by first | omega | (simp; done) | (simp; omega))), trivial⟩ (fun _ s => (emp_sat (emp_sat s))) ?_; rintro ⟨i, v1, h1, v2, h2⟩ ⟨hi, q1, q2⟩; dsimp only at hi q1 q2 ⊢; have hle_q1 := q1.toR.le; have hle_q2 := q2.toR.le; have hl1 : ((t.l.take i).eraseIdx (slJ t x)).length ≤ 12 := by have := (List.eraseIdx_sublist (t.l.take i) (slJ t x)).length_le; rw [List.length_take] at this; omega
  have hl2 : ((t.d.take i).eraseIdx (slJ t x)).length ≤ 12 := by have := (List.eraseIdx_sublist (t.d.take i) (slJ t x)).length_le; rw [List.length_take] at this; omega
  refine wp_sc (wp_sq (sq_v rfl (v_lss rfl rfl) rfl (sq_end (qs_n (wp_sc ?_))))); refine wp_cd rfl (fun c23 => ?_) (fun c23 => ?_)
  · refine wp_sk (qs_n (wp_sc (wp_bl (wp_sc (wp_sq (sq_v rfl (v_move rfl) rfl ?_)))))); refine sq_v rfl (v_idxI Try.underlying25 ty_3 rfl rfl r1 (by first | omega | (simp; omega) | (simp only [List.length_append, List.length_cons, List.length_nil]; omega) | (rw [List.length_set]; omega)) (by first | omega | (simp; omega) | (simp only [List.length_append, List.length_cons, List.length_nil]; omega) | (rw [List.length_set]; omega))) rfl ?_; refine sq_v rfl (v_loadI (k := i) 6 ty_3 rfl rfl r1 (by first | omega | (simp; omega) | (simp only [List.length_append, List.length_cons, List.length_nil]; omega) | (rw [List.length_set]; omega))) rfl ?_; refine sq_v rfl (v_assign rfl) rfl (sq_v rfl (v_assign rfl) rfl (sq_end (qs_n (wp_sc (wp_sq (sq_v rfl (v_move rfl) rfl (sq_v rfl (v_move rfl) rfl (sq_v rfl (v_neq rfl rfl) rfl (sq_end (qs_n ?_)))))))))); refine wp_cd rfl (fun c29 => ?_) (fun c29 => ?_)
    · refine wp_sc (wp_sq (sq_v rfl (v_fieldAddr fd_108_0 ty_25 (by decide) rfl) rfl (sq_v rfl (v_loadB 2 ty_25 rfl rfl rfl) rfl (sq_v rfl (v_move rfl) rfl ?_)))); refine sq_x rfl (x_buildS [num (t.l.getD i 0)] Try.underlying25 ty_3 (by decide) rfl rfl rfl (by decide) (by decide) (by intro v hv; simp at hv; rcases hv with rfl <;> rfl)) rfl ?_; intro v33 h33 (r33 : IntsO [t.l.getD i 0] v33 h33); refine sq_m 1 rfl rfl (m_appI 1 0 Try.underlying25 ty_3 rfl rfl rfl rfl q1 rfl r33.toR (by first | omega | (simp; omega) | (simp only [List.length_append, List.length_cons, List.length_nil]; omega) | (rw [List.length_set]; omega))) rfl ?_; intro v34 h_r34 r34; refine sq_v rfl (v_fieldAddr fd_108_0 ty_25 (by decide) rfl) rfl ?_; refine sq_m 3 rfl rfl (m_store1 3 ty_25 rfl rfl r34.toR.sl.one rfl (Nat.le_of_ble_eq_true rfl)) rfl ?_; rintro _ _ ⟨rfl, rfl⟩; refine sq_end (qs_n (wp_rj 8 [(0, true), (1, true), (2, true), (3, true), (4, true), (5, true), (6, true), (7, false), (8, false), (9, false), (10, false)] mixed_ok (by kernel_rfl) (rj_v rfl rfl (v_fieldAddr fd_108_1 ty_25 (by decide) rfl) rfl (rj_v rfl rfl (v_loadB 3 ty_25 rfl rfl rfl) rfl (rj_v rfl rfl (v_fieldAddr fd_108_1 ty_25 (by decide) rfl) rfl (rj_v rfl rfl (v_loadB 5 ty_25 rfl rfl rfl) rfl (rj_v rfl rfl (v_move rfl) rfl ?_))))))); refine rj_v rfl rfl (v_idxI Try.underlying25 ty_3 rfl rfl r2 (by first | omega | (simp; omega) | (simp only [List.length_append, List.length_cons, List.length_nil]; omega) | (rw [List.length_set]; omega)) (by first | omega | (simp; omega) | (simp only [List.length_append, List.length_cons, List.length_nil]; omega) | (rw [List.length_set]; omega))) rfl ?_; refine rj_v rfl rfl (v_loadI (k := i) 7 ty_3 rfl rfl r2 (by first | omega | (simp; omega) | (simp only [List.length_append, List.length_cons, List.length_nil]; omega) | (rw [List.length_set]; omega))) rfl ?_; refine rj_x rfl rfl (x_buildS [num (t.d.getD i 0)] Try.underlying25 ty_3 (by decide) rfl rfl rfl (by decide) (by decide) (by intro v hv; simp at hv; rcases hv with rfl <;> rfl)) rfl ?_; intro v43 h43 (r43 : IntsO [t.d.getD i 0] v43 h43); refine rj_m 3 rfl rfl rfl rfl (m_appI 3 0 Try.underlying25 ty_3 rfl rfl rfl rfl q2 rfl r43.toR (by first | omega | (simp; omega) | (simp only [List.length_append, List.length_cons, List.length_nil]; omega) | (rw [List.length_set]; omega))) rfl ?_; intro v44 h_r44 r44; refine rj_fv rfl rfl (v_fieldAddr fd_108_1 ty_25 (by decide) rfl) rfl ?_; refine rj_m 4 rfl rfl rfl rfl (m_store1 4 ty_25 rfl rfl r44.toR.sl.one rfl (Nat.le_of_ble_eq_true rfl)) rfl ?_; rintro _ _ ⟨rfl, rfl⟩; refine rj_end (qs_bn (qs_n (wp_sq ?_))); refine sq_v rfl (v_add rfl rfl ((by unfold I64; omega))) rfl ?_; refine sq_v rfl (v_move rfl) rfl (sq_end ?_); exact qs_bk (i + 1, v34, h_r34, v44, h_r44) ⟨by (try dsimp only); omega, by (try dsimp only); rw [skip_yes (by omega) (by omega)]; exact r34, by (try dsimp only); rw [skip_yes (by omega) (by omega)]; exact r44⟩ (by simp only; omega) ⟨rfl, rfl, rfl, rfl, rfl, rfl, rfl, rfl, (by first | rfl | exact ksub rfl (by first | omega | (simp; done) | (simp; omega))), trivial⟩ (fun _ s => s.pick [2, 3, 4, 5, 6, 7, 8] (by decide) rfl)
    · refine wp_sk (qs_bn (qs_n (wp_sq ?_))); refine sq_v rfl (v_add rfl rfl ((by unfold I64; omega))) rfl ?_; refine sq_v rfl (v_move rfl) rfl (sq_end ?_); exact qs_bk (i + 1, v1, h1, v2, h2) ⟨by (try dsimp only); omega, by (try dsimp only); have e : i = slJ t x := (by omega); subst e; rw [skip_no hj.1]; exact q1, by (try dsimp only); have e : i = slJ t x := (by omega); subst e; rw [skip_no hj.2.1]; exact q2⟩ (by simp only; omega) ⟨rfl, rfl, rfl, rfl, rfl, rfl, rfl, rfl, (by first | rfl | exact ksub rfl (by first | omega | (simp; done) | (simp; omega))), trivial⟩ (fun _ s => s)
  · refine wp_ex (qs_x (qs_x (qs_bx (qs_n (wp_sc (wp_sc (wp_sq (sq_v rfl (v_assign rfl) rfl (sq_end (qs_n (wp_bl ?_))))))))))); refine wp_lp (σ := Nat × Value × PH) (fun z_ => [(3, num v), (4, .pointer (some ⟨b4, 0, none⟩)), (5, .pointer (some ⟨b5, 0, none⟩)), (8, .pointer (some ⟨b8, 0, none⟩)), (9, .pointer (some ⟨b9, 0, none⟩)), (10, num (findI t.l x)), (13, num z_.1)]) (fun z_ => [z_.2.2, h1, h2, box b9 [v1, v2, z_.2.1] 108, box b8 [.slice none 0 0, .slice none 0 0, .slice none 0 0] 108, box b5 [a, b, c] 108, box b4 [num k, num p, num n] 32, hp w]) (fun z_ => z_.1 ≤ (prodI t.d).toNat ∧ IntsO (slX (widthI k n) t (slJ t x) v z_.1) z_.2.1 z_.2.2) (fun z_ => (prodI t.d).toNat - z_.1) (0, .slice none 0 0, emp) (⟨by (try dsimp only); omega, IntsO.nil⟩) ⟨rfl, rfl, rfl, rfl, rfl, rfl, (by first | rfl | exact ksub rfl (by first | omega | (simp; done) | (simp; omega))), trivial⟩ (fun _ s => (emp_sat s)) ?_; rintro ⟨m, vx, hh⟩ ⟨hm, qx⟩; dsimp only at hm qx ⊢; have hle_qx := qx.toR.le; have hxl := slX_len ht (slJ t x) v m; have hil := idxL_len t.d m; refine wp_sc (wp_sc (wp_sq (sq_v rfl (v_move rfl) rfl (sq_v rfl (v_fieldAddr fd_108_1 ty_25 (by decide) rfl) rfl (sq_v rfl (v_loadB 5 ty_25 rfl rfl rfl) rfl (sq_u rfl (x_callv rfl en_103 (fun w s => ct_s_l05Product _ _ _ w (r2.mono (s.get 7 rfl)) (by first | assumption | omega) (by first | assumption | omega))) rfl (sq_v rfl (v_lss rfl rfl) rfl (sq_end (qs_n ?_))))))))); refine wp_cd rfl (fun c51 => ?_) (fun c51 => ?_)
    · refine wp_sk (qs_n (wp_sc (wp_bl (wp_sc (wp_sq (sq_v rfl (v_fieldAddr fd_108_1 ty_25 (by decide) rfl) rfl (sq_v rfl (v_loadB 5 ty_25 rfl rfl rfl) rfl (sq_v rfl (v_move rfl) rfl ?_)))))))); refine sq_x rfl (x_call rfl en_179 (fun w s => ct_s_l05Index _ _ _ w (r2.mono (s.get 7 rfl)) (dims_mem hd) (by first | assumption | omega) (by first | assumption | omega))) rfl ?_; rintro v57 h57 r57; refine sq_v rfl (v_move rfl) rfl ?_; refine sq_v rfl (v_idxI Try.underlying25 ty_3 rfl rfl r57.toR (by first | omega | (simp; omega) | (simp only [List.length_append, List.length_cons, List.length_nil]; omega) | (rw [List.length_set]; omega)) (by first | omega | (simp; omega) | (simp only [List.length_append, List.length_cons, List.length_nil]; omega) | (rw [List.length_set]; omega))) rfl ?_; refine sq_v rfl (v_loadI  0 ty_3 rfl rfl r57.toR (by first | omega | (simp; omega) | (simp only [List.length_append, List.length_cons, List.length_nil]; omega) | (rw [List.length_set]; omega))) rfl ?_; refine sq_v rfl (v_move rfl) rfl (sq_v rfl (v_eql rfl rfl) rfl (sq_end (qs_n ?_))); refine wp_cd rfl (fun c62 => ?_) (fun c62 => ?_)
      · refine wp_rj 6 [(0, true), (1, true), (2, true), (3, true), (4, true), (5, false), (6, false), (7, false), (8, false)] mixed_ok (by kernel_rfl) (rj_v rfl rfl (v_fieldAddr fd_108_2 ty_25 (by decide) rfl) rfl (rj_v rfl rfl (v_loadB 4 ty_25 rfl rfl rfl) rfl (rj_v rfl rfl (v_loadNB 7 ty_32 rfl rfl rfl rfl) rfl (rj_v rfl rfl (v_loadNB 6 ty_108 rfl rfl rfl rfl) rfl (rj_v rfl rfl (v_move rfl) rfl ?_))))); have hef := elt_fits ht (i := m) (by omega); have hel : (elt t.x (widthI k n) (m : Int)).length ≤ 6 := (by unfold elt; rw [List.length_take]; omega)
        refine rj_x rfl rfl (x_call rfl en_180 (fun w s => ct_s_l05Get _ _ _ _ _ _ _ _ w (by first | assumption | omega) (r3.mono (s.get 8 rfl)) (by first | assumption | omega) (by first | assumption | omega) (by first | assumption | omega))) rfl ?_; rintro v68 h68 r68; refine rj_m 2 rfl rfl rfl rfl (m_appI 2 0 Try.underlying25 ty_3 rfl rfl rfl rfl qx rfl r68.toR (by first | omega | (simp; omega) | (simp only [List.length_append, List.length_cons, List.length_nil]; omega) | (rw [List.length_set]; omega))) rfl ?_; intro v69 h_r69 r69; refine rj_fv rfl rfl (v_fieldAddr fd_108_2 ty_25 (by decide) rfl) rfl ?_; refine rj_m 5 rfl rfl rfl rfl (m_store1 5 ty_25 rfl rfl r69.toR.sl.one rfl (Nat.le_of_ble_eq_true rfl)) rfl ?_; rintro _ _ ⟨rfl, rfl⟩; refine rj_end (qs_bn (qs_n (wp_sq (sq_v rfl (v_move rfl) rfl ?_)))); refine sq_v rfl (v_add rfl rfl ((by unfold I64; omega))) rfl ?_; refine sq_v rfl (v_assign rfl) rfl (sq_end ?_); exact qs_bk (m + 1, v69, h_r69) ⟨by (try dsimp only); omega, by (try dsimp only); rw [slX_yes (by rw [← hjt]; exact c62)]; exact r69⟩ (by simp only; omega) ⟨rfl, rfl, rfl, rfl, rfl, rfl, (by first | rfl | exact ksub rfl (by first | omega | (simp; done) | (simp; omega))), trivial⟩ (fun _ s => s.pick [2, 3, 4, 5, 6, 7, 8, 9] (by decide) rfl)
      · refine wp_sk (qs_bn (qs_n (wp_sq (sq_v rfl (v_move rfl) rfl ?_)))); refine sq_v rfl (v_add rfl rfl ((by unfold I64; omega))) rfl ?_; refine sq_v rfl (v_assign rfl) rfl (sq_end ?_); exact qs_bk (m + 1, vx, hh) ⟨by (try dsimp only); omega, by (try dsimp only); rw [slX_no (by rw [← hjt]; exact c62)]; exact qx⟩ (by simp only; omega) ⟨rfl, rfl, rfl, rfl, rfl, rfl, (by first | rfl | exact ksub rfl (by first | omega | (simp; done) | (simp; omega))), trivial⟩ (fun _ s => s.pick [1, 2, 3, 4, 5, 6, 7, 8] (by decide) rfl)
    · refine wp_ex (qs_x (qs_x (qs_bx (qs_n (wp_sc (wp_sq (sq_v rfl (v_loadNB 3 ty_108 rfl rfl rfl rfl) rfl ?_))))))); refine sq_m 4 rfl rfl (m_store 4 ty_108 rfl rfl rfl rfl (by simp [q1.toR.sl.one, q2.toR.sl.one, qx.toR.sl.one]) rfl (Nat.le_of_ble_eq_true rfl)) rfl ?_; rintro _ _ ⟨rfl, rfl⟩; refine sq_end (qs_n (wp_rt ?_)); refine qs_close [box b8 _ _, hp w] [h1, h2, hh] (fun _ s => s.pick [4, 7, 1, 2, 0] (by decide) rfl) (fun md => ?_); rw [List.take_of_length_le (by omega)] at q1 q2; have em : m = (prodI t.d).toNat := by omega
      subst em; exact qs_retc 1 rfl ty_108 rfl rfl rfl (fin_t 0 (i := 2) rfl rfl rfl ⟨_, _, _, rfl, _, _, _, q1, q2, qx, md⟩)
set_option maxHeartbeats 4000000 in
theorem ct_i_SliceTensor (k p n x v : Int) (t : Ten) (a b c : Value) (w : World) (r1 : IntsR t.l a (hp w)) (r2 : IntsR t.d b (hp w)) (r3 : IntsR t.x c (hp w)) (ok : SlOK k p n t x v) :
    Calls Try.prog 153 [ringV k p n, tenV a b c, num x, num v].toArray w (Ret w emp (TenB (slT k n t x v) true)) := by
  have ht := ok.ten; have hx := ok.mem; have hring := ht.1; have hlen := ten_len ht; have hax := ten_axes ht; have hnd := axes_nodup hax; have hd := axes_dims hax; have hdm := dims_mem hd; have hpr := ten_prod ht; have hp1 := prodI_one fun d hd' => (hdm d hd').1; have hj := sl_j ht hx; have hj0 := findI_ge.2 hx; have hw := width_range hring; have hv := ok.val; have hdd := ok.dims; have hL : t.l.filter (fun y => decide (y ≠ x)) = t.l.eraseIdx (slJ t x) := erase_filter hnd hx; have hLl : (t.l.eraseIdx (slJ t x)).length + 1 = t.l.length := by rw [List.length_eraseIdx_of_lt hj.1]; have := hj.1; omega
  have hDl : (t.d.eraseIdx (slJ t x)).length + 1 = t.d.length := by rw [List.length_eraseIdx_of_lt hj.2.1]; have := hj.2.1; omega
  have hal := hax.2.1; have hdm2 := dims_mem hdd.1; have hjf : ((slJ t x : Nat) : Int) = findI t.l x := by unfold slJ; omega
  have hjt : (findI t.l x).toNat = slJ t x := rfl; have hv2 : v < t.d.getD (findI t.l x).toNat 0 := hv.2; have hm1 : ∀ y ∈ t.l.eraseIdx (slJ t x), y ∈ t.l := fun y hy => List.mem_of_mem_eraseIdx hy; have hstr := strOf_range (ls := t.l) (ds := t.d) (fun d hd' => (hdm d hd').1) x; have hsi := steps_in (labels := t.l.eraseIdx (slJ t x)) (ls := t.l) (fun d hd' => (hdm d hd').1); have hv8 : v ≤ 8 := by have := hd (slJ t x) hj.2.1; have := hv.2; omega
  have hvs : 0 ≤ v * strOf t.l t.d x ∧ v * strOf t.l t.d x ≤ 8 * 4096 := ⟨Int.mul_nonneg hv.1 hstr.1, Int.mul_le_mul hv8 (by omega) hstr.1 (by omega)⟩
  refine calls_in Try.func153 rfl Try.ntmps153 rfl (Sat.start w) ?_; have hle0 := r1.le; have hle1 := r2.le; have hle2 := r3.le; refine wp_sc (wp_sq ?_); refine sq_x rfl (x_box rfl rfl) rfl ?_; rintro _ _ ⟨b4, rfl, rfl⟩; refine sq_x rfl (x_box rfl rfl) rfl ?_; rintro _ _ ⟨b5, rfl, rfl⟩; refine sq_x rfl (x_alloc ty_108 rfl) rfl ?_; rintro _ _ ⟨b8, rfl, rfl⟩; refine sq_v rfl (v_assign rfl) rfl (sq_end (qs_n (wp_sc (wp_sc (wp_sq (sq_v rfl (v_loadNB 2 ty_32 rfl rfl rfl rfl) rfl (sq_v rfl (v_loadNB 1 ty_108 rfl rfl rfl rfl) rfl (sq_u rfl (x_callv rfl en_106 (fun w s => ct_i_TensorOk _ _ _ _ _ _ _ _ _ w (r1.mono (s.get 3 rfl)) (r2.mono (s.get 3 rfl)) (r3.mono (s.get 3 rfl)))) rfl (sq_v rfl (v_not rfl) rfl (sq_end (qs_n ?_))))))))))); refine wp_cn _ rfl (fun c20 => ?_) (fun c20 => ?_)
  · refine wp_sc (wp_sq (sq_v rfl (v_build [.slice none 0 0, .slice none 0 0, .slice none 0 0] rfl (by kernel_rfl)) rfl ?_)); refine sq_m 0 rfl rfl (m_store 0 ty_108 rfl rfl rfl rfl (by simp [one_sl]) rfl (Nat.le_of_ble_eq_true rfl)) rfl ?_; rintro _ _ ⟨rfl, rfl⟩; refine sq_v rfl (v_assign rfl) rfl (sq_end (qs_n (wp_rt (qs_r ?_)))); exact absurd ht (tensorB_false.1 c20)
  · refine wp_sk (qs_n (wp_sc (wp_sq (sq_v rfl (v_loadNB 1 ty_108 rfl rfl rfl rfl) rfl (sq_v rfl (v_move rfl) rfl (sq_u rfl (x_callv rfl en_152 (fun w s => ct_u_axisOf _ _ _ _ _ _ _ w (r1.mono (s.get 3 rfl)) (r2.mono (s.get 3 rfl)) (r3.mono (s.get 3 rfl)))) rfl (sq_v rfl (v_assign rfl) rfl (sq_end (qs_n (wp_sc (wp_sc (wp_sq (sq_v rfl (v_move rfl) rfl (sq_v rfl (v_lss rfl rfl) rfl ?_)))))))))))))); refine sq_bd 26 rfl (fun c26 => ?_) (fun c26 => ?_)
    · refine sq_v rfl (v_move rfl) rfl (sq_s rfl rfl (sq_s rfl rfl (sq_v rfl (v_pickt rfl rfl) rfl (sq_v rfl (v_move rfl) rfl (sq_s rfl rfl (sq_s rfl rfl (sq_s rfl rfl (sq_s rfl rfl (sq_s rfl rfl ?_))))))))); refine sq_s rfl rfl (sq_s rfl rfl (sq_v rfl (v_pickt rfl rfl) rfl (sq_end (qs_n (wp_ct rfl (wp_sc (wp_sq (sq_v rfl (v_build [.slice none 0 0, .slice none 0 0, .slice none 0 0] rfl (by kernel_rfl)) rfl ?_)))))))); refine sq_m 0 rfl rfl (m_store 0 ty_108 rfl rfl rfl rfl (by simp [one_sl]) rfl (Nat.le_of_ble_eq_true rfl)) rfl ?_; rintro _ _ ⟨rfl, rfl⟩; refine sq_v rfl (v_assign rfl) rfl (sq_end (qs_n (wp_rt (qs_r ?_))))
      exfalso; omega
    · refine sq_v rfl (v_move rfl) rfl (sq_v rfl (v_move rfl) rfl (sq_v rfl (v_lss rfl rfl) rfl (sq_v rfl (v_pickf rfl rfl) rfl ?_))); refine sq_bd 30 rfl (fun c30 => ?_) (fun c30 => ?_)
      · refine sq_v rfl (v_move rfl) rfl (sq_s rfl rfl (sq_s rfl rfl (sq_s rfl rfl (sq_s rfl rfl (sq_s rfl rfl (sq_s rfl rfl (sq_s rfl rfl (sq_v rfl (v_pickt rfl rfl) rfl (sq_end (qs_n (wp_ct rfl (wp_sc (wp_sq ?_))))))))))))); refine sq_v rfl (v_build [.slice none 0 0, .slice none 0 0, .slice none 0 0] rfl (by kernel_rfl)) rfl ?_; refine sq_m 0 rfl rfl (m_store 0 ty_108 rfl rfl rfl rfl (by simp [one_sl]) rfl (Nat.le_of_ble_eq_true rfl)) rfl ?_; rintro _ _ ⟨rfl, rfl⟩; refine sq_v rfl (v_assign rfl) rfl (sq_end (qs_n (wp_rt (qs_r ?_))))
        exfalso; omega
      · refine sq_v rfl (v_move rfl) rfl (sq_v rfl (v_move rfl) rfl (sq_v rfl (v_fieldAddr fd_108_1 ty_25 (by decide) rfl) rfl (sq_v rfl (v_loadB 1 ty_25 rfl rfl rfl) rfl (sq_v rfl (v_move rfl) rfl ?_)))); refine sq_v rfl (v_idxI Try.underlying25 ty_3 rfl rfl r2 (by first | omega | (simp; omega) | (simp only [List.length_append, List.length_cons, List.length_nil]; omega) | (rw [List.length_set]; omega)) (by first | omega | (simp; omega) | (simp only [List.length_append, List.length_cons, List.length_nil]; omega) | (rw [List.length_set]; omega))) rfl ?_; refine sq_v rfl (v_loadI  3 ty_3 rfl rfl r2 (by first | omega | (simp; omega) | (simp only [List.length_append, List.length_cons, List.length_nil]; omega) | (rw [List.length_set]; omega))) rfl ?_; refine sq_v rfl (v_geq rfl rfl) rfl (sq_v rfl (v_pickf rfl rfl) rfl (sq_end (qs_n ?_))); refine wp_cd rfl (fun c39 => ?_) (fun c39 => ?_)
        · refine wp_sc (wp_sq (sq_v rfl (v_build [.slice none 0 0, .slice none 0 0, .slice none 0 0] rfl (by kernel_rfl)) rfl ?_)); refine sq_m 0 rfl rfl (m_store 0 ty_108 rfl rfl rfl rfl (by simp [one_sl]) rfl (Nat.le_of_ble_eq_true rfl)) rfl ?_; rintro _ _ ⟨rfl, rfl⟩; refine sq_v rfl (v_assign rfl) rfl (sq_end (qs_n (wp_rt (qs_r ?_))))
          exfalso; omega
        · refine wp_sk (qs_n (wp_sc (wp_sq (sq_v rfl (v_fieldAddr fd_108_0 ty_25 (by decide) rfl) rfl (sq_v rfl (v_loadB 1 ty_25 rfl rfl rfl) rfl (sq_v rfl (v_move rfl) rfl ?_)))))); refine sq_x rfl (x_call rfl en_137 (fun w s => ct_i_withoutInt _ _ _ w (r1.mono (s.get 3 rfl)) (by first | assumption | omega))) rfl ?_; rintro v44 h44 r44; refine sq_v rfl (v_build [v44, .slice none 0 0, .slice none 0 0] rfl (by obtain ⟨_, _, rfl⟩ := r44.toR.sl; kernel_rfl)) rfl ?_; refine sq_x rfl (x_alloc ty_108 rfl) rfl ?_; rintro _ _ ⟨b11, rfl, rfl⟩; refine sq_m 0 rfl rfl (m_store 0 ty_108 rfl rfl rfl rfl (by simp [r44.toR.sl.one, one_sl]) rfl (Nat.le_of_ble_eq_true rfl)) rfl ?_; rintro _ _ ⟨rfl, rfl⟩; refine sq_end ?_; rw [hL] at r44; refine qs_n (wp_sc (wp_sc (wp_sq (sq_v rfl (v_fieldAddr fd_108_0 ty_25 (by decide) rfl) rfl (sq_v rfl (v_loadB 0 ty_25 rfl rfl rfl) rfl (sq_v rfl (v_len Try.underlying25 rfl r44.toR.sl) rfl (sq_v rfl (v_move rfl) rfl (sq_end (qs_n (wp_bl ?_)))))))))); refine wp_lp (σ := Nat × Value × PH) (fun z_ => [(2, num x), (3, num v), (4, .pointer (some ⟨b4, 0, none⟩)), (5, .pointer (some ⟨b5, 0, none⟩)), (8, .pointer (some ⟨b8, 0, none⟩)), (9, .bool false), (11, .pointer (some ⟨b11, 0, none⟩)), (47, v44), (48, num (t.l.eraseIdx (slJ t x)).length), (49, num z_.1)]) (fun z_ => [z_.2.2, box b11 [v44, z_.2.1, .slice none 0 0] 108, h44, box b8 [.slice none 0 0, .slice none 0 0, .slice none 0 0] 108, box b5 [a, b, c] 108, box b4 [num k, num p, num n] 32, hp w]) (fun z_ => z_.1 ≤ (t.l.eraseIdx (slJ t x)).length ∧ IntsO (idxAt t.l t.d ((t.l.eraseIdx (slJ t x)).take z_.1)) z_.2.1 z_.2.2) (fun z_ => (t.l.eraseIdx (slJ t x)).length - z_.1) (0, .slice none 0 0, emp) (⟨by (try dsimp only); omega, IntsO.nil⟩) ⟨rfl, rfl, rfl, rfl, rfl, rfl, rfl, rfl, rfl, (by first | rfl | exact ksub rfl (by first | omega | (simp; done) | (simp; omega))), trivial⟩ (fun _ s => (emp_sat s)) ?_; rintro ⟨i, v2, h2⟩ ⟨hi, q2⟩; dsimp only at hi q2 ⊢; have hle_q2 := q2.toR.le; have hl2 : (idxAt t.l t.d ((t.l.eraseIdx (slJ t x)).take i)).length ≤ 12 := by unfold idxAt; rw [List.length_map, List.length_take]; omega
          refine wp_sc (wp_sq (sq_v rfl (v_lss rfl rfl) rfl (sq_end (qs_n (wp_sc ?_))))); refine wp_cd rfl (fun c50 => ?_) (fun c50 => ?_)
          · refine wp_sk (qs_n (wp_sc (wp_bl (wp_sc (wp_sq ?_))))); refine sq_v rfl (v_idxI Try.underlying25 ty_3 rfl rfl r44.toR (by first | omega | (simp; omega) | (simp only [List.length_append, List.length_cons, List.length_nil]; omega) | (rw [List.length_set]; omega)) (by first | omega | (simp; omega) | (simp only [List.length_append, List.length_cons, List.length_nil]; omega) | (rw [List.length_set]; omega))) rfl ?_; refine sq_v rfl (v_loadI (k := i) 2 ty_3 rfl rfl r44.toR (by first | omega | (simp; omega) | (simp only [List.length_append, List.length_cons, List.length_nil]; omega) | (rw [List.length_set]; omega))) rfl ?_; refine sq_v rfl (v_assign rfl) rfl (sq_end (qs_n (wp_rj 10 [(0, true), (1, true), (2, true), (3, true), (4, true), (5, true), (6, false), (7, true), (8, true), (9, false), (10, false), (11, false), (12, false)] mixed_ok (by kernel_rfl) (rj_v rfl rfl (v_fieldAddr fd_108_1 ty_25 (by decide) rfl) rfl (rj_v rfl rfl (v_loadB 1 ty_25 rfl rfl rfl) rfl (rj_v rfl rfl (v_fieldAddr fd_108_1 ty_25 (by decide) rfl) rfl (rj_v rfl rfl (v_loadB 4 ty_25 rfl rfl rfl) rfl (rj_v rfl rfl (v_loadNB 4 ty_108 rfl rfl rfl rfl) rfl (rj_v rfl rfl (v_move rfl) rfl (rj_u rfl rfl (x_callv rfl en_152 (fun w s => ct_u_axisOf _ _ _ _ _ _ _ w (r1.mono (s.get 6 rfl)) (r2.mono (s.get 6 rfl)) (r3.mono (s.get 6 rfl)))) rfl ?_)))))))))); have hmi := hm1 _ (mem_getD (xs := t.l.eraseIdx (slJ t x)) (k := i) (by omega)); have hfi := findI_ge.2 hmi; have hfg := (findI_get hmi).1; refine rj_v rfl rfl (v_idxI Try.underlying25 ty_3 rfl rfl r2 (by first | omega | (simp; omega) | (simp only [List.length_append, List.length_cons, List.length_nil]; omega) | (rw [List.length_set]; omega)) (by first | omega | (simp; omega) | (simp only [List.length_append, List.length_cons, List.length_nil]; omega) | (rw [List.length_set]; omega))) rfl ?_; refine rj_v rfl rfl (v_loadI  6 ty_3 rfl rfl r2 (by first | omega | (simp; omega) | (simp only [List.length_append, List.length_cons, List.length_nil]; omega) | (rw [List.length_set]; omega))) rfl ?_; refine rj_x rfl rfl (x_buildS [num ((t.d.getD (findI t.l ((t.l.eraseIdx (slJ t x)).getD i 0) : Int).toNat 0))] Try.underlying25 ty_3 (by decide) rfl rfl rfl (by decide) (by decide) (by intro v hv; simp at hv; rcases hv with rfl <;> rfl)) rfl ?_; intro v62 h62 (r62 : IntsO [(t.d.getD (findI t.l ((t.l.eraseIdx (slJ t x)).getD i 0) : Int).toNat 0)] v62 h62); refine rj_m 1 rfl rfl rfl rfl (m_appI 1 0 Try.underlying25 ty_3 rfl rfl rfl rfl q2 rfl r62.toR (by first | omega | (simp; omega) | (simp only [List.length_append, List.length_cons, List.length_nil]; omega) | (rw [List.length_set]; omega))) rfl ?_; intro v63 h_r63 r63; refine rj_fv rfl rfl (v_fieldAddr fd_108_1 ty_25 (by decide) rfl) rfl ?_; refine rj_m 2 rfl rfl rfl rfl (m_store1 2 ty_25 rfl rfl r63.toR.sl.one rfl (Nat.le_of_ble_eq_true rfl)) rfl ?_; rintro _ _ ⟨rfl, rfl⟩; refine rj_end (qs_bn (qs_n (wp_sq ?_))); refine sq_v rfl (v_add rfl rfl ((by unfold I64; omega))) rfl ?_; refine sq_v rfl (v_move rfl) rfl (sq_end ?_); exact qs_bk (i + 1, v63, h_r63) ⟨by (try dsimp only); omega, by (try dsimp only); rw [idxAt_step (by omega)]; exact r63⟩ (by simp only; omega) ⟨rfl, rfl, rfl, rfl, rfl, rfl, rfl, rfl, rfl, (by first | rfl | exact ksub rfl (by first | omega | (simp; done) | (simp; omega))), trivial⟩ (fun _ s => s.pick [1, 2, 3, 4, 5, 6, 7] (by decide) rfl)
          · refine wp_ex (qs_x (qs_x (qs_bx (qs_n (wp_sc (wp_sq ?_)))))); have hD : idxAt t.l t.d ((t.l.eraseIdx (slJ t x)).take i) = t.d.eraseIdx (slJ t x) := (by rw [List.take_of_length_le (by omega), idxAt, map_erase]; congr 1; exact (map_find hnd hal).symm); rw [hD] at q2; refine sq_v rfl (v_loadNB 4 ty_108 rfl rfl rfl rfl) rfl (sq_v rfl (v_fieldAddr fd_108_0 ty_25 (by decide) rfl) rfl (sq_v rfl (v_loadB 1 ty_25 rfl rfl rfl) rfl ?_)); refine sq_x rfl (x_call rfl en_163 (fun w s => ct_i_stridesOf _ _ _ _ _ _ _ w (r1.mono (s.get 6 rfl)) (r2.mono (s.get 6 rfl)) (r44.toR.mono (s.get 2 rfl)) (by first | assumption | omega) (by first | assumption | omega) (by first | assumption | omega) (by first | assumption | omega))) rfl ?_; rintro v69 h69 r69; refine sq_v rfl (v_assign rfl) rfl (sq_end ?_); have hs0 : (stepsL [x] t.l t.d).getD 0 0 = strOf t.l t.d x := rfl; have hs1 : (stepsL [x] t.l t.d).length = 1 := rfl; refine qs_n (wp_sc (wp_sq (sq_v rfl (v_move rfl) rfl (sq_v rfl (v_loadNB 5 ty_108 rfl rfl rfl rfl) rfl (sq_v rfl (v_move rfl) rfl ?_))))); refine sq_x rfl (x_buildS [num (x)] Try.underlying25 ty_3 (by decide) rfl rfl rfl (by decide) (by decide) (by intro v hv; simp at hv; rcases hv with rfl <;> rfl)) rfl ?_; intro v73 h73 (r73 : IntsO [x] v73 h73); refine sq_x rfl (x_call rfl en_163 (fun w s => ct_i_stridesOf _ _ _ _ _ _ _ w (r1.mono (s.get 8 rfl)) (r2.mono (s.get 8 rfl)) (r73.toR.mono (s.get 0 rfl)) (by first | assumption | omega) (by first | assumption | omega) (by first | assumption | omega) (Nat.le_of_ble_eq_true rfl))) rfl ?_; rintro v74 h74 r74; refine sq_v rfl (v_idxI Try.underlying25 ty_3 rfl rfl r74.toR (by first | omega | (simp; omega) | (simp only [List.length_append, List.length_cons, List.length_nil]; omega) | (rw [List.length_set]; omega)) (by first | omega | (simp; omega) | (simp only [List.length_append, List.length_cons, List.length_nil]; omega) | (rw [List.length_set]; omega))) rfl ?_; refine sq_v rfl (v_loadI (k := 0) 0 ty_3 rfl rfl r74.toR (by first | omega | (simp; omega) | (simp only [List.length_append, List.length_cons, List.length_nil]; omega) | (rw [List.length_set]; omega))) rfl ?_; refine sq_v rfl (v_mul rfl rfl ((by rw [hs0]; unfold I64; omega))) rfl ?_; refine sq_v rfl (v_assign rfl) rfl (sq_end (qs_n (wp_sc (wp_sq (sq_v rfl (v_fieldAddr fd_108_0 ty_25 (by decide) rfl) rfl (sq_v rfl (v_loadB 4 ty_25 rfl rfl rfl) rfl (sq_v rfl (v_len Try.underlying25 rfl r44.toR.sl) rfl ?_))))))); refine sq_x rfl (x_makeI Try.underlying25 ty_3 rfl rfl (by first | omega | (simp; omega) | (simp only [List.length_append, List.length_cons, List.length_nil]; omega) | (rw [List.length_set]; omega)) (by first | omega | (simp; omega) | (simp only [List.length_append, List.length_cons, List.length_nil]; omega) | (rw [List.length_set]; omega)) (by first | omega | (simp; omega) | (simp only [List.length_append, List.length_cons, List.length_nil]; omega) | (rw [List.length_set]; omega))) rfl ?_; intro v81 h81 r81; refine sq_v rfl (v_assign rfl) rfl (sq_end (qs_n (wp_bl ?_))); refine wp_lp (σ := Nat × PH × Value × PH) (fun z_ => [(4, .pointer (some ⟨b4, 0, none⟩)), (5, .pointer (some ⟨b5, 0, none⟩)), (8, .pointer (some ⟨b8, 0, none⟩)), (9, .bool false), (11, .pointer (some ⟨b11, 0, none⟩)), (14, v69), (15, num (v * ((stepsL [x] t.l t.d).getD 0 0))), (16, v81)]) (fun z_ => [z_.2.2.2, z_.2.1, h74, h73, h69, h2, box b11 [v44, v2, z_.2.2.1] 108, h44, box b8 [.slice none 0 0, .slice none 0 0, .slice none 0 0] 108, box b5 [a, b, c] 108, box b4 [num k, num p, num n] 32, hp w]) (fun z_ => z_.1 < (prodI (t.d.eraseIdx (slJ t x))).toNat ∧ IntsO (idxL (t.d.eraseIdx (slJ t x)) z_.1) v81 z_.2.1 ∧ IntsO (slY (widthI k n) t (slJ t x) v z_.1) z_.2.2.1 z_.2.2.2) (fun z_ => (prodI (t.d.eraseIdx (slJ t x))).toNat - z_.1) (0, h81, .slice none 0 0, emp) (⟨by (try dsimp only); omega, by (try dsimp only); rw [show ((0 : Nat) : Int) = 0 from rfl, idxL_zero]; simpa [show (t.d.eraseIdx (slJ t x)).length = (t.l.eraseIdx (slJ t x)).length by omega] using r81, IntsO.nil⟩) ⟨rfl, rfl, rfl, rfl, rfl, rfl, rfl, rfl, trivial⟩ (fun _ s => (emp_sat s)) ?_; rintro ⟨m, g, vx, hh⟩ ⟨hm, q81, qx⟩; dsimp only at hm q81 qx ⊢; have hle_q81 := q81.toR.le; have hle_qx := qx.toR.le; have hall := (ok.all m).1; have hat := ok.at_ m; have hel := ok.el m; have hil := idxL_len (t.d.eraseIdx (slJ t x)) m; have hii := idxL_in (fun d hd' => (dims_mem hdd.1 d hd').1) m; have hb : ∀ b ∈ idxL (t.d.eraseIdx (slJ t x)) m, 0 ≤ b ∧ b ≤ 1048576 := all_of fun j hj => by have := hii.2 j (by omega); have := hdd.1 j (by omega); omega
            have hsl := stepsL_len (t.l.eraseIdx (slJ t x)) t.l t.d; have hef := elt_fits ht (i := (slAt t.d (slJ t x) v m : Nat)) (by omega); have e92 : v * (stepsL [x] t.l t.d).getD 0 0 + dotL (stepsL (t.l.eraseIdx (slJ t x)) t.l t.d) (idxL (t.d.eraseIdx (slJ t x)) m) = ((slAt t.d (slJ t x) v m : Nat) : Int) := by rw [hs0]; exact hat.2.symm
            have hlt := hat.1; have hyl : (slY (widthI k n) t (slJ t x) v m).length ≤ 24576 := by have h1 : (m : Int) * widthI k n ≤ 4096 * 6 := Int.mul_le_mul (by omega) hw.2 (by omega) (by omega); omega
            have hel2 := hel.1; refine wp_bl (wp_sc (wp_rj 10 [(0, true), (1, true), (2, true), (3, true), (4, true), (5, true), (6, true), (7, false), (8, true), (9, false), (10, false), (11, false), (12, false)] mixed_ok (by kernel_rfl) (rj_v rfl rfl (v_fieldAddr fd_108_2 ty_25 (by decide) rfl) rfl (rj_v rfl rfl (v_loadB 6 ty_25 rfl rfl rfl) rfl (rj_v rfl rfl (v_loadNB 10 ty_32 rfl rfl rfl rfl) rfl (rj_v rfl rfl (v_loadNB 9 ty_108 rfl rfl rfl rfl) rfl (rj_v rfl rfl (v_move rfl) rfl (rj_v rfl rfl (v_move rfl) rfl (rj_v rfl rfl (v_move rfl) rfl ?_))))))))); refine rj_u rfl rfl (x_callv rfl en_165 (fun w s => ct_i_dotOf _ _ _ _ w (r69.toR.mono (s.get 4 rfl)) (q81.toR.mono (s.get 1 rfl)) (fun a h => by have := hsi a h; omega) (by first | assumption | omega) (by first | assumption | omega) (by first | assumption | omega))) rfl ?_; refine rj_v rfl rfl (v_add rfl rfl ((by rw [e92]; unfold I64; omega))) rfl ?_; have hef1 := hef.1; have hef2 := hef.2; rw [e92]; refine rj_u rfl rfl (x_callv rfl en_164 (fun w s => ct_i_rawElem _ _ _ _ _ _ _ _ w (by first | assumption | omega) (r3.mono (s.get 11 rfl)) (by omega) hef.1 hef.2)) rfl ?_; refine rj_m 0 rfl rfl rfl rfl (m_appI 0 11 Try.underlying25 ty_3 rfl rfl rfl rfl qx rfl (eltV_read r3 (by first | assumption | omega) (by first | assumption | omega) (by first | assumption | omega)) (by first | omega | (simp; omega) | (simp only [List.length_append, List.length_cons, List.length_nil]; omega) | (rw [List.length_set]; omega))) rfl ?_; intro v92 h_r92 r92; refine rj_fv rfl rfl (v_fieldAddr fd_108_2 ty_25 (by decide) rfl) rfl ?_; refine rj_m 6 rfl rfl rfl rfl (m_store1 6 ty_25 rfl rfl r92.toR.sl.one rfl (Nat.le_of_ble_eq_true rfl)) rfl ?_; rintro _ _ ⟨rfl, rfl⟩; refine rj_end (qs_n (wp_sc (wp_sq (sq_v rfl (v_fieldAddr fd_108_1 ty_25 (by decide) rfl) rfl (sq_v rfl (v_loadB 6 ty_25 rfl rfl rfl) rfl (sq_v rfl (v_move rfl) rfl ?_)))))); refine sq_m 1 rfl rfl (x_call rfl en_166 (fun w s => ct_i_nextIndex _ _ _ _ w _ (s.get 1 rfl) (q2.toR.mono (s.getR 1 5 rfl rfl (by decide))) q81 (by first | assumption | omega) (by first | assumption | omega) (by first | assumption | omega))) rfl ?_; rintro _ h97 ⟨rfl, r97⟩; refine sq_v rfl (v_not rfl) rfl (sq_end (qs_n ?_)); refine wp_cnd rfl (fun c98 => ?_) (fun c98 => ?_)
            · refine wp_sc (wp_sq (sq_v rfl (v_loadNB 6 ty_108 rfl rfl rfl rfl) rfl ?_)); refine sq_m 8 rfl rfl (m_store 8 ty_108 rfl rfl rfl rfl (by simp [r44.toR.sl.one, q2.toR.sl.one, r92.toR.sl.one]) rfl (Nat.le_of_ble_eq_true rfl)) rfl ?_; rintro _ _ ⟨rfl, rfl⟩; refine sq_v rfl (v_assign rfl) rfl (sq_end (qs_n (wp_rt (qs_br (qs_r (qs_br ?_)))))); refine qs_close [box b8 _ _, hp w] [h44, h2, h_r92] (fun _ s => s.pick [8, 11, 7, 5, 0] (by decide) rfl) (fun md => ?_); exact qs_retct 1 rfl ty_108 rfl rfl rfl rfl (fin_t 0 (i := 2) rfl rfl rfl ⟨_, _, _, rfl, _, _, _, r44, q2, (show IntsO (slX (widthI k n) t (slJ t x) v (prodI t.d).toNat) v92 h_r92 by rw [ok.eq, show (prodI (t.d.eraseIdx (slJ t x))).toNat = m + 1 by omega, slY_step]; exact r92), md⟩)
            · refine wp_sk (qs_bn ?_); exact qs_bk (m + 1, h97, v92, h_r92) ⟨by (try dsimp only); omega, r97, by (try dsimp only); rw [slY_step]; exact r92⟩ (by simp only; omega) ⟨rfl, rfl, rfl, rfl, rfl, rfl, rfl, rfl, trivial⟩ (fun _ s => s)
end Go.Proofs.Ytmddmahaikineaa
namespace Go.Proofs.Ytmddmahaikineaa
set_option maxRecDepth 100000
open Go.RowKit
section
variable (m : Int) (ss : List Stp) (C : List Int) (W : Int)
def done (S : List Int) : Prop := ∀ i, i < S.length → 0 ≤ S.getD i 0
end
section
variable {m : Int} {ss : List Stp} {C : List Int} {W : Int} {S : List Int} {T : Int}
end
end Go.Proofs.Ytmddmahaikineaa
namespace Go.Proofs.Ytmddmahaikineaa
set_option maxRecDepth 100000
open Go.RowKit
section
variable {P : Program} {n : Nat} {w0 : World} {K : Env} {HS : List PH} {d : Option Tmp} {ty : TypeId} {ps : String} {af : Array Edge} {g : Option (Nat × Bool)}
end
section
variable {m : Int} {ss : List Stp} {C : List Int} {W : Int} {S : List Int} {T : Int} {n : Nat}
end
def IntsB (xs : List Int) (b : Bool) (x : Value) (h : PH) : Prop := ∃ v, x = .tuple [v, .bool b].toArray ∧ IntsO xs v h
end Go.Proofs.Ytmddmahaikineaa
namespace Go.Proofs.Ytmddmahaikineaa
set_option maxRecDepth 100000
open Go.RowKit
def plainAt (m k : Nat) : Stp := if k = 0 then ⟨0, 1⟩ else ⟨(k : Int) + 1, (m : Int) + k - 1⟩
def plainTo (m j : Nat) : List Stp := (List.range j).map (plainAt m)
def plainL (m : Nat) : List Stp := plainTo m (m - 1)
def totP (k p n : Int) (ts : List Ten) (op : List Int) : Prop := netL k p n ts op ∧ conP k p n ts [] (plainL ts.length)
open Classical in
noncomputable def totB (k p n : Int) (ts : List Ten) (op : List Int) : Bool := decide (totP k p n ts op)
noncomputable def totX (k p n : Int) (ts : List Ten) (op : List Int) : List Int := ifB (totB k p n ts op) (conT k p n ts [] (plainL ts.length)).x []
section
variable {k p n : Int} {ts : List Ten} {op : List Int}
theorem totB_true : totB k p n ts op = true ↔ totP k p n ts op := by simp [totB]
theorem totX_yes (h : totP k p n ts op) : totX k p n ts op = (conT k p n ts [] (plainL ts.length)).x := by rw [totX, totB_true.2 h]; rfl
theorem totP.inR (h : totP k p n ts op) : InR k p n (totX k p n ts op) := by
  obtain ⟨ht, hl⟩ := h.2.ten; rw [totX_yes h]; have hax := ten_axes ht; have hd : (conT k p n ts [] (plainL ts.length)).d = [] := List.eq_nil_of_length_eq_zero (by rw [← hax.2.1, hl]; rfl); have hx := ht.2.2.1; rw [hl, hd] at hx; have hs : sizeI [] [] = 1 := by
    have : axesL [] [] := ⟨by decide, rfl, fun j hj => by simp at hj⟩
    rw [sizeI_yes this (by decide)]; rfl
  rw [hs, Int.one_mul] at hx; exact ⟨by omega, ht.2.2.2⟩
end
section
variable {k p n x : Int} {ts : List Ten} {op : List Int}
end
end Go.Proofs.Ytmddmahaikineaa
namespace Go.Proofs.Ytmddmahaikineaa
set_option maxRecDepth 100000
open Go.RowKit
def onesT (k p n : Int) (t : Ten) : Ten := ⟨t.l, t.d, (List.replicate (prodI t.d).toNat (oneL k p n)).flatten⟩
def envTs (k p n : Int) (ts : List Ten) (i : Int) : List Ten := ts.set i.toNat (onesT k p n (ts.getD i.toNat noTen))
def envOp (ts : List Ten) (op : List Int) (i : Int) : List Int := joinI op (ts.getD i.toNat noTen).l
def envP (k p n : Int) (ts : List Ten) (op : List Int) (i : Int) : Prop := netL k p n ts op ∧ (0 ≤ i ∧ i < ts.length) ∧ conP k p n (envTs k p n ts i) (envOp ts op i) (plainL ts.length)
open Classical in
noncomputable def envB (k p n : Int) (ts : List Ten) (op : List Int) (i : Int) : Bool := decide (envP k p n ts op i)
noncomputable def envR (k p n : Int) (ts : List Ten) (op : List Int) (i : Int) : Ten := ifB (envB k p n ts op i) (conT k p n (envTs k p n ts i) (envOp ts op i) (plainL ts.length)) noTen
section
variable {k p n i : Int} {ts : List Ten} {op : List Int}
theorem envB_true : envB k p n ts op i = true ↔ envP k p n ts op i := by simp [envB]
end
theorem dimOf_set {ts : List Ten} {j : Nat} {t u : Ten} (ht : ts[j]? = some t) (hl : u.l = t.l) (hd : u.d = t.d) (x : Int) : dimOf (ts.set j u) x = dimOf ts x := by
  induction ts generalizing j with
  | nil => simp at ht
  | cons y ts ih =>
    cases j with
    | zero =>
      have e : y = t := by simpa using ht
      subst e; simp only [List.set_cons_zero, dimOf, hl, hd]
    | succ j =>
      have := ih (j := j) (by simpa using ht); simp only [List.set_cons_succ, dimOf, this]
theorem idxAt_map {ls ds op : List Int} {f : Int → Int} (hd : ds = ls.map f) (hs : ∀ x ∈ op, x ∈ ls) : idxAt ls ds op = op.map f := List.map_congr_left fun x hx => by
  have hg := findI_get (hs x hx); rw [hd, map_getD hg.1, hg.2]
theorem conP.dims {k p n : Int} {ts : List Ten} {op : List Int} {ss : List Stp} (h : conP k p n ts op ss) : (conT k p n ts op ss).d = op.map (dimOf ts) := by
  unfold conT
  by_cases hn : ts.length = 0
  · rw [if_pos hn, h.empty hn]; rfl
  · rw [if_neg hn]; have hf := (h.last hn).1; have r := run_ok h.1 ss.length (Nat.le_refl _) h.2; have hg := r.get (j := ts.length + ss.length - 1) (by omega); have hs := sum_ten hf.2.1 op; have e : (sumR k p n (lastT k p n ts op ss) op).d = (sumR k p n (lastT k p n ts op ss) op).l.map (dimOf ts) := by
      rw [hs.2.2, hs.2.1]; exact keep_map (t := lastT k p n ts op ss) (u := oneT k p n) hg.2.2 rfl op
    exact idxAt_map e fun x hx => hf.perm.perm.mem_iff.1 hx
def crP (k p n : Int) (ts : List Ten) (op : List Int) (i : Int) (u : Ten) : Prop := replP k p n ts op i u ∧ envP k p n ts op i ∧ pairP k p n u (envR k p n ts op i) op
section
variable {k p n i : Int} {ts : List Ten} {op : List Int} {u : Ten}
theorem envP.ten (h : envP k p n ts op i) : tensorL k p n (envR k p n ts op i).l (envR k p n ts op i).d (envR k p n ts op i).x ∧ (envR k p n ts op i).l = envOp ts op i ∧ (envR k p n ts op i).d = (envR k p n ts op i).l.map (dimOf ts) := by
  have e : envR k p n ts op i = conT k p n (envTs k p n ts i) (envOp ts op i) (plainL ts.length) := by rw [envR, envB_true.2 h]; rfl
  have ht := h.2.2.ten; have hd := h.2.2.dims; rw [e]; have hi : i.toNat < ts.length := by have := h.2.1; omega
  have hj : ts[i.toNat]? = some (ts.getD i.toNat noTen) := by simp [List.getD, hi]
  refine ⟨ht.1, ht.2, ?_⟩; rw [hd, ht.2]; exact List.map_congr_left fun x _ => dimOf_set (u := onesT k p n (ts.getD i.toNat noTen)) hj rfl rfl x
theorem crP.perm (h : crP k p n ts op i u) : PermOK k p n (pairR k p n u (envR k p n ts op i) op) op := by
  obtain ⟨h1, h2, _⟩ := pair_ten h.2.2; have he := h.2.1.ten; have hn := (net_open h.1.1).1; have hk : ∀ x, x ∈ (pairR k p n u (envR k p n ts op i) op).l ↔ x ∈ op := fun x => by
    rw [h2, mem_keep]; exact ⟨fun h => h.2, fun h => ⟨.inr (by rw [he.2.1]; exact mem_joinI.2 (.inl h)), h⟩⟩
  exact ⟨h1.1, h1, perm_of hn (fun x hx => (hk x).2 hx) (pigeon (axes_nodup (ten_axes h1)) fun x hx => (hk x).1 hx)⟩
end
end Go.Proofs.Ytmddmahaikineaa
namespace Go.Proofs.Ytmddmahaikineaa
set_option maxRecDepth 100000
open Go.RowKit

section
variable {P : Program} {n : Nat} {w0 : World} {K : Env} {HS : List PH} {d : Option Tmp} {ty : TypeId} {ps : String} {af : Array Edge} {g : Option (Nat × Bool)}
end
theorem NetO.none : NetO [] [] (.slice none 0 0) (.slice none 0 0) emp :=
  ⟨[], emp, emp, [], ⟨rfl, .inl ⟨rfl, rfl, rfl⟩⟩, IntsO.nil, OwnL.nil, ⟨⟨fun x hx => PDj.emp _, fun x hx => PDj.emp _, trivial⟩, fun x hx => by simp at hx; subst hx; exact PLe.emp _, fun k o e => by cases e⟩⟩
end Go.Proofs.Ytmddmahaikineaa
namespace Go.Proofs.Ytmddmahaikineaa
set_option maxRecDepth 100000
open Go.RowKit
theorem net_sub {k p n : Int} {ts : List Ten} {op : List Int} (h : netL k p n ts op) (q : Int → Bool) : netL k p n ts (op.filter q) := by
  have hs := sizeI_ge.1 h.2.2.2.2; have hn := axes_nodup hs.1; have hd := dims_mem (axes_dims hs.1); refine ⟨h.1, h.2.1, h.2.2.1, h.2.2.2.1, sizeI_ge.2 ⟨⟨?_, by simp [dimsFor], fun j hj => ?_⟩, ?_⟩⟩
  · have := List.length_filter_le q op; have := hs.1.1
    omega
  · have hm := (List.mem_filter.1 (mem_getD hj)).1; obtain ⟨i, hi, e⟩ := getD_of_mem hm; have ha := hs.1.2.2 i hi
    unfold axP at ha ⊢
    rw [dimsFor, map_getD hj]; rw [dimsFor, map_getD hi, e] at ha; exact ⟨ha.1, ha.2.1, nodup_not_take (hn.sublist List.filter_sublist) hj⟩
  · have h1 := selP_prod q op (dimsFor ts op) fun d hd' => (hd d hd').1; rw [dimsFor, selP_map] at h1; have := hs.2; rw [dimsFor] at this ⊢
    omega
theorem mem_erase {ls : List Int} (hn : ls.Nodup) {x y : Int} (hx : x ∈ ls) : y ∈ ls.eraseIdx (findI ls x).toNat ↔ y ∈ ls ∧ y ≠ x := by
  rw [← erase_filter hn hx, List.mem_filter, decide_eq_true_eq]
section
variable {k p n : Int} {t : Ten} {x v : Int} {f : Int → Int}
theorem sl_dims (_h : tensorL k p n t.l t.d t.x) (_hx : x ∈ t.l) (hd : t.d = t.l.map f) : (slT k n t x v).d = (slT k n t x v).l.map f := by
  show t.d.eraseIdx (slJ t x) = (t.l.eraseIdx (slJ t x)).map f
  rw [map_erase, ← hd]
theorem fix1_mem (h : tensorL k p n t.l t.d t.x) {y : Int} : y ∈ (fix1 k n t x v).l ↔ y ∈ t.l ∧ (x ∈ t.l → y ≠ x) := by
  unfold fix1
  by_cases hx : x ∈ t.l
  · rw [if_pos hx]
    show y ∈ t.l.eraseIdx (findI t.l x).toNat ↔ _
    rw [mem_erase (axes_nodup (ten_axes h)) hx]; exact ⟨fun h => ⟨h.1, fun _ => h.2⟩, fun h => ⟨h.1, h.2 hx⟩⟩
  · rw [if_neg hx]; exact ⟨fun h => ⟨h, fun h' => absurd h' hx⟩, fun h => h.1⟩
theorem fix1_ten (h : tensorL k p n t.l t.d t.x) (hd : t.d = t.l.map f) (hv : 0 ≤ v ∧ v < f x) : tensorL k p n (fix1 k n t x v).l (fix1 k n t x v).d (fix1 k n t x v).x ∧ (fix1 k n t x v).d = (fix1 k n t x v).l.map f := by
  unfold fix1
  by_cases hx : x ∈ t.l
  · rw [if_pos hx]; have hj := sl_j h hx; have ok : SlOK k p n t x v := ⟨h, hx, by rw [hd, map_getD hj.1, hj.2.2]; exact hv⟩
    exact ⟨ok.out, sl_dims h hx hd⟩
  · rw [if_neg hx]; exact ⟨h, hd⟩
end
theorem sl_ok {k p n : Int} {t : Ten} {x v : Int} {f : Int → Int} (h : tensorL k p n t.l t.d t.x) (hd : t.d = t.l.map f) (hx : x ∈ t.l) (hv : 0 ≤ v ∧ v < f x) : SlOK k p n t x v := by
  have hj := sl_j h hx; exact ⟨h, hx, by rw [hd, map_getD hj.1, hj.2.2]; exact hv⟩
theorem fix1_net {k p n : Int} {ts : List Ten} {op : List Int} {x v : Int} (h : netL k p n ts op) (hv : 0 ≤ v ∧ v < dimOf ts x) : netL k p n (ts.map fun t => fix1 k n t x v) (op.filter fun y => decide (y ≠ x)) := by
  have hd := net_dmap h; refine net_of (net_sub h _) (by rw [List.length_map]; exact h.2.1) (fun t ht => ?_) (fun t ht => ?_) (fun y hy => ?_)
  · obtain ⟨u, hu, rfl⟩ := List.mem_map.1 ht; exact (fix1_ten (h.2.2.1 u hu) (hd u hu) hv).1
  · obtain ⟨u, hu, rfl⟩ := List.mem_map.1 ht; exact (fix1_ten (h.2.2.1 u hu) (hd u hu) hv).2
  · obtain ⟨hy1, hy2⟩ := List.mem_filter.1 hy; obtain ⟨u, hu, hyu⟩ := net_has h hy1; exact ⟨_, List.mem_map_of_mem hu, (fix1_mem (h.2.2.1 u hu)).2 ⟨hyu, fun _ => by simpa using hy2⟩⟩
theorem fix1_dim {k p n : Int} {ts : List Ten} {op : List Int} {x v y : Int} (h : netL k p n ts op) (hv : 0 ≤ v ∧ v < dimOf ts x) (hy : y ≠ x) : dimOf (ts.map fun t => fix1 k n t x v) y = dimOf ts y := by
  have hd := net_dmap h
  by_cases hm : ∃ t ∈ ts, y ∈ t.l
  · obtain ⟨u, hu, hyu⟩ := hm; exact dimOf_map (f := dimOf ts) (fun t ht => by
      obtain ⟨u, hu, rfl⟩ := List.mem_map.1 ht; exact (fix1_ten (h.2.2.1 u hu) (hd u hu) hv).2) ⟨_, List.mem_map_of_mem hu, (fix1_mem (h.2.2.1 u hu)).2 ⟨hyu, fun _ => hy⟩⟩
  · rw [dimOf_none hm, dimOf_none]; rintro ⟨t, ht, hyt⟩; obtain ⟨u, hu, rfl⟩ := List.mem_map.1 ht; exact hm ⟨u, hu, ((fix1_mem (h.2.2.1 u hu)).1 hyt).1⟩
noncomputable def tsI (k n : Int) (ts : List Ten) (ls vs : List Int) (i : Nat) : List Ten := ts.map fun t => fixTo k n t ls vs i
def opI (op ls : List Int) (i : Nat) : List Int := op.filter fun y => decide (y ∉ ls.take i)
theorem tsI_zero (k n : Int) (ts : List Ten) (ls vs : List Int) : tsI k n ts ls vs 0 = ts := by simp [tsI, fixTo]
theorem opI_zero (op ls : List Int) : opI op ls 0 = op := by simp [opI]
theorem tsI_step (k n : Int) (ts : List Ten) (ls vs : List Int) (i : Nat) : tsI k n ts ls vs (i + 1) = (tsI k n ts ls vs i).map fun t => fix1 k n t (ls.getD i 0) (vs.getD i 0) := by
  unfold tsI
  rw [List.map_map]
  rfl
theorem opI_step (op : List Int) {ls : List Int} {i : Nat} (h : i < ls.length) : opI op ls (i + 1) = (opI op ls i).filter fun y => decide (y ≠ ls.getD i 0) := by
  unfold opI
  rw [List.filter_filter]
  apply List.filter_congr
  intro y _; rw [Bool.eq_iff_iff, decide_eq_true_eq, Bool.and_eq_true, decide_eq_true_eq, decide_eq_true_eq, take_succ h, List.mem_append]; simp only [List.mem_singleton]
  constructor
  · intro h; exact ⟨fun e => h (.inr e), fun e => h (.inl e)⟩
  · rintro ⟨h1, h2⟩ (h | h)
    · exact h2 h
    · exact h1 h
/-- The values up to i fit. -/
def fitI (ts : List Ten) (ls vs : List Int) (i : Nat) : Prop := ∀ j, j < i → 0 ≤ vs.getD j 0 ∧ vs.getD j 0 < dimOf ts (ls.getD j 0)
theorem netI {k p n : Int} {ts : List Ten} {op ls vs : List Int} (h : netL k p n ts op) (hn : ls.Nodup) : ∀ i, i ≤ ls.length → fitI ts ls vs i → netL k p n (tsI k n ts ls vs i) (opI op ls i) ∧ ∀ j, i ≤ j → j < ls.length → dimOf (tsI k n ts ls vs i) (ls.getD j 0) = dimOf ts (ls.getD j 0)
  | 0, _, _ => by rw [tsI_zero, opI_zero]; exact ⟨h, fun _ _ _ => rfl⟩
  | i + 1, hi, hf => by
    obtain ⟨h1, h2⟩ := netI h hn i (by omega) fun j hj => hf j (by omega); have hv := hf i (by omega); rw [← h2 i (Nat.le_refl _) (by omega)] at hv; rw [tsI_step, opI_step op (by omega)]; refine ⟨fix1_net h1 hv, fun j hj hjl => ?_⟩; have hne : ls.getD j 0 ≠ ls.getD i 0 := fun e => by
      have a := find_at' hn hjl; have b := find_at' hn (show i < ls.length by omega); rw [e, b] at a
      omega
    rw [fix1_dim h1 hv hne, h2 j (by omega) hjl]
end Go.Proofs.Ytmddmahaikineaa
namespace Go.Proofs.Ytmddmahaikineaa
set_option maxRecDepth 100000
open Go.RowKit
theorem OwnH.at {ts : List Ten} {cs : List Value} {h : PH} (o : OwnH (flat ts) cs h) (i : Nat) (hi : i < ts.length) : ∃ t a b c, ts[i]? = some t ∧ (cs.drop (i * 3)).take 3 = [a, b, c] ∧ IntsR t.l a h ∧ IntsR t.d b h ∧ IntsR t.x c h := by
  obtain ⟨l, ol, m⟩ := o; have ht : ts[i]? = some ts[i] := List.getElem?_eq_getElem hi; obtain ⟨f1, f2, f3⟩ := tens_get ht; obtain ⟨a, h1, e1, g1, r1⟩ := ol.own _ _ f1; obtain ⟨b, h2, e2, g2, r2⟩ := ol.own _ _ f2; obtain ⟨c, h3, e3, g3, r3⟩ := ol.own _ _ f3; exact ⟨_, a, b, c, ht, three_at e1 e2 e3, r1.toR.mono (m.le _ (List.mem_of_getElem? g1)), r2.toR.mono (m.le _ (List.mem_of_getElem? g2)), r3.toR.mono (m.le _ (List.mem_of_getElem? g3))⟩
end Go.Proofs.Ytmddmahaikineaa
