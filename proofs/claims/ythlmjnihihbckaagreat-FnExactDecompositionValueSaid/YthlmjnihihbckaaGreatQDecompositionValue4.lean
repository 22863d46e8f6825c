/-
  Parts of the proof of FnExactDecompositionValue: laws of heaps, contracts of functions.
  Conditions: none.
-/
import Derived.Test.YthlmjnihihbckaaGreatQDecompositionValue3
namespace Go.Proofs.YthlmjnihihbckaaGreat
set_option maxRecDepth 100000
open Go.RowKit
def mixL (A B : List Int) (k : Nat) : List Int := A.take k ++ B.drop k
theorem mix_len {A B : List Int} {k : Nat} (h : A.length = B.length) (hk : k ≤ A.length) : (mixL A B k).length = A.length := by simp [mixL]; omega
theorem mix_zero (A B : List Int) : mixL A B 0 = B := by simp [mixL]
theorem mix_end {A B : List Int} (h : A.length = B.length) {k : Nat} (hk : A.length ≤ k) : mixL A B k = A := by
  simp only [mixL]; rw [List.take_of_length_le hk, List.drop_of_length_le (by omega), List.append_nil]
theorem mix_set {A B : List Int} {k : Nat} (h : A.length = B.length) (hk : k < A.length) : (mixL A B k).set k (A.getD k 0) = mixL A B (k + 1) := by
  unfold mixL
  apply List.ext_getElem
  · simp; omega
  · intro j h1 h2; rw [List.getElem_set]
    split
    · rename_i e; subst e
      rw [List.getElem_append_left (by simp; omega), List.getElem_take]
      simp [List.getD, hk]
    · rename_i e
      rcases Nat.lt_or_ge j k with hj | hj
      · rw [List.getElem_append_left (by simp; omega), List.getElem_append_left (by simp; omega), List.getElem_take, List.getElem_take]
      · rw [List.getElem_append_right (by simp; omega), List.getElem_append_right (by simp; omega), List.getElem_drop, List.getElem_drop]
        congr 1
        simp only [List.length_take]
        omega
theorem mix_get {A B : List Int} {k j : Nat} (hk : k ≤ A.length) (hj : k ≤ j) : (mixL A B k).getD j 0 = B.getD j 0 := by
  have : (A.take k).length = k := by simp; omega
  simp only [mixL, List.getD]; rw [List.getElem?_append_right (by omega), List.getElem?_drop]
  congr 2
  omega
theorem mix_keep {A B : List Int} {k : Nat} (h : A.length = B.length) (hk : k < A.length) (e : A.getD k 0 = B.getD k 0) : mixL A B (k + 1) = mixL A B k := by
  rw [← mix_set h hk, e, ← mix_get (A := A) (B := B) (Nat.le_of_lt hk) (Nat.le_refl k)]; have := mix_len h (Nat.le_of_lt hk)
  apply List.ext_getElem (by simp)
  intro j h1 h2; rw [List.getElem_set]
  split
  · rename_i e'; subst e'; simp [List.getD, h2]
  · rfl
theorem foldl_mul (ds : List Int) (a : Int) : ds.foldl (· * ·) a = a * prodI ds := by
  induction ds generalizing a with
  | nil => simp [prodI]
  | cons d r ih =>
    simp only [prodI, List.foldl_cons]; rw [ih, ih (1 * d), Int.one_mul, Int.mul_assoc]
theorem prodI_cons (d : Int) (ds : List Int) : prodI (d :: ds) = d * prodI ds := by
  simp only [prodI, List.foldl_cons, Int.one_mul]; exact foldl_mul ds d
theorem prodI_append (a b : List Int) : prodI (a ++ b) = prodI a * prodI b := by
  simp only [prodI, List.foldl_append]; exact foldl_mul b _
theorem drop_cons {xs : List Int} {i : Nat} (h : i < xs.length) : xs.drop i = xs.getD i 0 :: xs.drop (i + 1) := by
  rw [List.drop_eq_getElem_cons h]; simp [List.getD, h]
theorem prodI_one {ds : List Int} (h : ∀ d ∈ ds, 1 ≤ d) : 1 ≤ prodI ds := by
  induction ds with
  | nil => simp [prodI]
  | cons d r ih =>
    rw [prodI_cons]; have h1 := h d (by simp); have h2 := ih (fun x hx => h x (by simp [hx])); have := Int.mul_le_mul h1 h2 (by omega) (by omega)
    omega
theorem prodI_drop {ds : List Int} (h : ∀ d ∈ ds, 1 ≤ d) (i : Nat) : 1 ≤ prodI (ds.drop i) ∧ prodI (ds.drop i) ≤ prodI ds := by
  have e : prodI ds = prodI (ds.take i) * prodI (ds.drop i) := by rw [← prodI_append, List.take_append_drop]
  have h1 := prodI_one (ds := ds.drop i) (fun d hd => h d (List.mem_of_mem_drop hd)); have h2 := prodI_one (ds := ds.take i) (fun d hd => h d (List.mem_of_mem_take hd)); refine ⟨h1, ?_⟩; rw [e]; have := Int.mul_le_mul_of_nonneg_right h2 (show 0 ≤ prodI (ds.drop i) by omega)
  omega
theorem dims_mem {ds : List Int} (h : dimsIn ds) : ∀ d ∈ ds, 1 ≤ d ∧ d ≤ 8 := all_of h
def strOf : List Int → List Int → Int → Int
  | l :: ls, _ :: ds, x => if x = l then prodI ds else strOf ls ds x
  | _, _, _ => 0
def stepsL (labels ls ds : List Int) : List Int := labels.map (strOf ls ds)
theorem stepsL_len (labels ls ds : List Int) : (stepsL labels ls ds).length = labels.length := by simp [stepsL]
theorem stepsL_get {labels ls ds : List Int} {k : Nat} (h : k < labels.length) : (stepsL labels ls ds).getD k 0 = strOf ls ds (labels.getD k 0) := map_getD h
theorem strOf_none {x : Int} : ∀ {ls ds : List Int}, x ∉ ls → strOf ls ds x = 0
  | [], _, _ => rfl
  | _ :: _, [], _ => rfl
  | l :: ls, d :: ds, h => by
    simp only [strOf]; rw [if_neg (fun e => h (by simp [e])), strOf_none (fun hm => h (by simp [hm]))]
theorem strOf_range {ls ds : List Int} (hd : ∀ d ∈ ds, 1 ≤ d) (x : Int) : 0 ≤ strOf ls ds x ∧ strOf ls ds x ≤ prodI ds := by
  induction ls generalizing ds with
  | nil => have := prodI_one hd; simp only [strOf]; omega
  | cons l ls ih =>
    cases ds with
    | nil => simp [strOf, prodI]
    | cons d ds =>
      have h2 := hd d (by simp); have h3 := prodI_one (ds := ds) (fun x hx => hd x (by simp [hx])); have h4 := ih (ds := ds) (fun x hx => hd x (by simp [hx])); have h5 : 1 * prodI ds ≤ d * prodI ds := Int.mul_le_mul_of_nonneg_right h2 (by omega); simp only [strOf, prodI_cons]
      split <;> omega
theorem steps_next {ls ds : List Int} {m : Nat} (h0 : 1 ≤ m) (hm : m ≤ ls.length) (hl : ls.length = ds.length) (x : Int) : strOf (ls.drop (m - 1)) (ds.drop (m - 1)) x = if x = ls.getD (m - 1) 0 then prodI (ds.drop m) else strOf (ls.drop m) (ds.drop m) x := by
  rw [drop_cons (xs := ls) (i := m - 1) (by omega), drop_cons (xs := ds) (i := m - 1) (by omega), strOf, show m - 1 + 1 = m by omega]
theorem prod_next {ds : List Int} {m : Nat} (h0 : 1 ≤ m) (hm : m ≤ ds.length) : prodI (ds.drop (m - 1)) = prodI (ds.drop m) * ds.getD (m - 1) 0 := by
  rw [drop_cons (xs := ds) (i := m - 1) (by omega), prodI_cons, show m - 1 + 1 = m by omega, Int.mul_comm]
theorem steps_end {labels ls ds : List Int} {n : Nat} (h : n = ls.length) : stepsL labels (ls.drop n) (ds.drop n) = List.replicate labels.length 0 := by
  subst h; rw [List.drop_length, stepsL]; simp only [strOf]
  induction labels <;> simp_all [List.replicate_succ]
set_option maxHeartbeats 1000000 in
theorem ct_i_stridesOf (ls ds labels : List Int) (a b c v : Value) (w : World) (r1 : IntsR ls a (hp w)) (r2 : IntsR ds b (hp w)) (r : IntsR labels v (hp w)) (hl : ls.length = ds.length) (hd : ∀ d ∈ ds, 1 ≤ d ∧ d ≤ 8) (hp1 : prodI ds ≤ 1000000000000) (hs : labels.length ≤ 1048576) :
    Calls Tryz.prog 176 [tenV a b c, v].toArray w (Ret w emp (IntsO (stepsL labels ls ds))) := by
  have hd1 : ∀ d ∈ ds, 1 ≤ d := fun d h => (hd d h).1; refine calls_in Tryz.func176 rfl Tryz.ntmps176 rfl (Sat.start w) ?_; have hle0 := r1.le; have hle1 := r2.le; have hle2 := r.le; refine wp_sc (wp_sq ?_); refine sq_x rfl (x_box rfl rfl) rfl ?_; rintro _ _ ⟨b2, rfl, rfl⟩; refine sq_v rfl (v_assign rfl) rfl (sq_end (qs_n (wp_sc (wp_sq (sq_v rfl (v_move rfl) rfl (sq_v rfl (v_len Tryz.underlying25 rfl r.sl) rfl ?_)))))); refine sq_x rfl (x_makeI Tryz.underlying25 ty_3 rfl rfl (by omega) (by omega) (by omega)) rfl ?_; intro v12 h12 r12; refine sq_v rfl (v_assign rfl) rfl (sq_end (qs_n (wp_sc (wp_sq (sq_v rfl (v_assign rfl) rfl (sq_end (qs_n (wp_sc (wp_sc (wp_sq (sq_v rfl (v_fieldAddr fd_34_1 ty_25 (by decide) rfl) rfl (sq_v rfl (v_loadB 1 ty_25 rfl rfl rfl) rfl (sq_v rfl (v_len Tryz.underlying25 rfl r2.sl) rfl ?_))))))))))))); refine sq_v rfl (v_sub rfl rfl ((by unfold I64; omega))) rfl ?_; refine sq_v rfl (v_assign rfl) rfl (sq_end (qs_n (wp_bl ?_))); refine wp_lp (σ := Nat × Int × PH) (fun z_ => [(1, v), (2, .pointer (some ⟨b2, 0, none⟩)), (4, .slice none 0 0), (5, v12), (6, num z_.2.1), (7, num ((z_.1 : Int) - 1))]) (fun z_ => [z_.2.2, box b2 [a, b, c] 34, hp w]) (fun z_ => z_.1 ≤ ds.length ∧ z_.2.1 = prodI (ds.drop z_.1) ∧ IntsO (stepsL labels (ls.drop z_.1) (ds.drop z_.1)) v12 z_.2.2) (fun z_ => z_.1) (ds.length, 1, h12) (⟨by (try dsimp only); omega, by (try dsimp only); simp [prodI], by (try dsimp only); rw [steps_end (by omega)]; simpa using r12⟩) ⟨rfl, rfl, rfl, rfl, rfl, rfl, trivial⟩ (fun _ s => s) ?_; rintro ⟨m, st, g⟩ ⟨hm, hst, q⟩; dsimp only at hm hst q ⊢; have hle_q := q.toR.le; have hpd := prodI_drop hd1 m; have hpd1 := prodI_drop hd1 (m - 1); have hlA := stepsL_len labels (ls.drop (m - 1)) (ds.drop (m - 1)); have hlB := stepsL_len labels (ls.drop m) (ds.drop m); have em : ((m : Int) - 1).toNat = m - 1 := by omega
  refine wp_sc (wp_sc (wp_sq (sq_v rfl (v_move rfl) rfl (sq_v rfl (v_geq rfl rfl) rfl (sq_end (qs_n ?_)))))); refine wp_cd rfl (fun c18 => ?_) (fun c18 => ?_)
  · refine wp_sk (qs_n (wp_sc (wp_bl (wp_sc (wp_sc (wp_sq (sq_v rfl (v_move rfl) rfl (sq_v rfl (v_len Tryz.underlying25 rfl r.sl) rfl (sq_v rfl (v_move rfl) rfl (sq_end (qs_n (wp_bl ?_)))))))))))); refine wp_lp (σ := Nat × PH) (fun z_ => [(1, v), (2, .pointer (some ⟨b2, 0, none⟩)), (4, .slice none 0 0), (5, v12), (6, num st), (7, num ((m : Int) - 1)), (17, num ((m : Int) - 1)), (18, .bool (decide ((0 : Int) ≤ (m : Int) - 1))), (21, v), (22, num labels.length), (23, num z_.1)]) (fun z_ => [z_.2, box b2 [a, b, c] 34, hp w]) (fun z_ => z_.1 ≤ labels.length ∧ IntsO (mixL (stepsL labels (ls.drop (m - 1)) (ds.drop (m - 1))) (stepsL labels (ls.drop m) (ds.drop m)) z_.1) v12 z_.2) (fun z_ => labels.length - z_.1) (0, g) (⟨by (try dsimp only); omega, by (try dsimp only); rw [mix_zero]; exact q⟩) ⟨rfl, rfl, rfl, rfl, rfl, rfl, rfl, rfl, rfl, rfl, rfl, trivial⟩ (fun _ s => s) ?_; rintro ⟨j, g⟩ ⟨hj, q⟩; dsimp only at hj q ⊢; have hle_q := q.toR.le; have hml := mix_len (A := stepsL labels (ls.drop (m - 1)) (ds.drop (m - 1))) (B := stepsL labels (ls.drop m) (ds.drop m)) (k := j) (by omega) (by omega); refine wp_sc (wp_sq (sq_v rfl (v_lss rfl rfl) rfl (sq_end (qs_n (wp_sc ?_))))); refine wp_cd rfl (fun c24 => ?_) (fun c24 => ?_)
    · refine wp_sk (qs_n (wp_sc (wp_bl (wp_sc (wp_sq (sq_v rfl (v_move rfl) rfl (sq_v rfl (v_idxI Tryz.underlying25 ty_3 rfl rfl r (by omega) (by omega)) rfl (sq_v rfl (v_loadI (k := j) 2 ty_3 rfl rfl r (by omega)) rfl (sq_v rfl (v_assign rfl) rfl (sq_v rfl (v_assign rfl) rfl (sq_end ?_))))))))))); have hsj := stepsL_get (labels := labels) (ls := ls.drop (m - 1)) (ds := ds.drop (m - 1)) (k := j) (by omega); have hsj' := stepsL_get (labels := labels) (ls := ls.drop m) (ds := ds.drop m) (k := j) (by omega); rw [steps_next (by omega) (by omega) hl] at hsj; refine qs_n (wp_sc (wp_sq (sq_v rfl (v_move rfl) rfl (sq_v rfl (v_fieldAddr fd_34_0 ty_25 (by decide) rfl) rfl (sq_v rfl (v_loadB 1 ty_25 rfl rfl rfl) rfl (sq_v rfl (v_move rfl) rfl (sq_v rfl (v_idxI Tryz.underlying25 ty_3 rfl rfl r1 (by omega) (by omega)) rfl (sq_v rfl (v_loadI  2 ty_3 rfl rfl r1 (by omega)) rfl (sq_v rfl (v_eql rfl rfl) rfl (sq_end (qs_n ?_))))))))))); refine wp_cd rfl (fun c34 => ?_) (fun c34 => ?_)
      · refine wp_sq (sq_v rfl (v_move rfl) rfl (sq_v rfl (v_move rfl) rfl (sq_v rfl (v_move rfl) rfl (sq_v rfl (v_idxI Tryz.underlying25 ty_3 rfl rfl q.toR (by omega) (by omega)) rfl ?_)))); refine sq_m 0 rfl rfl (m_storeI (k := j) 0 ty_3 rfl rfl rfl q (by omega)) rfl ?_; rintro _ h_q10_4 ⟨rfl, q10_4⟩; refine sq_end (qs_bn (qs_n (wp_sq ?_))); refine sq_v rfl (v_add rfl rfl ((by unfold I64; omega))) rfl ?_; refine sq_v rfl (v_move rfl) rfl (sq_end ?_); exact qs_bk (j + 1, h_q10_4) ⟨by (try dsimp only); omega, by (try dsimp only); rw [em] at c34; rw [if_pos c34, ← hst] at hsj; rw [← mix_set (by omega) (by omega), hsj]; exact q10_4⟩ (by simp only; omega) ⟨rfl, rfl, rfl, rfl, rfl, rfl, rfl, rfl, rfl, rfl, rfl, trivial⟩ (fun _ s => s)
      · refine wp_sk (qs_bn (qs_n (wp_sq ?_))); refine sq_v rfl (v_add rfl rfl ((by unfold I64; omega))) rfl ?_; refine sq_v rfl (v_move rfl) rfl (sq_end ?_); exact qs_bk (j + 1, g) ⟨by (try dsimp only); omega, by (try dsimp only); rw [em] at c34; rw [if_neg c34, ← hsj'] at hsj; rw [mix_keep (by omega) (by omega) hsj]; exact q⟩ (by simp only; omega) ⟨rfl, rfl, rfl, rfl, rfl, rfl, rfl, rfl, rfl, rfl, rfl, trivial⟩ (fun _ s => s)
    · refine wp_ex (qs_x (qs_x (qs_bx (qs_n (wp_sq (sq_v rfl (v_move rfl) rfl (sq_v rfl (v_fieldAddr fd_34_1 ty_25 (by decide) rfl) rfl (sq_v rfl (v_loadB 1 ty_25 rfl rfl rfl) rfl (sq_v rfl (v_move rfl) rfl (sq_v rfl (v_idxI Tryz.underlying25 ty_3 rfl rfl r2 (by omega) (by omega)) rfl (sq_v rfl (v_loadI  2 ty_3 rfl rfl r2 (by omega)) rfl ?_))))))))))); have hpn := prod_next (ds := ds) (m := m) (by omega) hm; refine sq_v rfl (v_mul rfl rfl ((by rw [em, hst, ← hpn]; unfold I64; omega))) rfl ?_; refine sq_v rfl (v_assign rfl) rfl (sq_end (qs_bn (qs_n (wp_sq (sq_v rfl (v_move rfl) rfl ?_))))); refine sq_v rfl (v_sub rfl rfl ((by unfold I64; omega))) rfl ?_; refine sq_v rfl (v_assign rfl) rfl (sq_end ?_); exact qs_bk (m - 1, st * ds.getD ((m : Int) - 1).toNat 0, g) ⟨by (try dsimp only); omega, by (try dsimp only); rw [em, hst, ← hpn], by (try dsimp only); rw [mix_end (by omega) (by omega)] at q; exact q⟩ (by simp only; omega) ⟨rfl, rfl, rfl, rfl, rfl, (by first | rfl | exact ksub rfl (by first | omega | (simp; done) | (simp; omega))), trivial⟩ (fun _ s => s)
  · refine wp_ex (qs_x (qs_x (qs_bx (qs_n (wp_sc (wp_sq (sq_v rfl (v_move rfl) rfl (sq_v rfl (v_assign rfl) rfl (sq_end (qs_n (wp_rt ?_))))))))))); exact qs_ret1 rfl rfl (fin_t 0 (i := 2) rfl rfl rfl (by rw [show m = 0 by omega] at q; exact q))
def dotTo (xs ys : List Int) : Nat → Int
  | 0 => 0
  | m + 1 => dotTo xs ys m + xs.getD m 0 * ys.getD m 0
def dotL (xs ys : List Int) : Int := dotTo xs ys xs.length
theorem dotTo_in {xs ys : List Int} {A B : Int} (ha : ∀ a ∈ xs, 0 ≤ a ∧ a ≤ A) (hb : ∀ b ∈ ys, 0 ≤ b ∧ b ≤ B) : ∀ m, m ≤ xs.length → m ≤ ys.length → 0 ≤ dotTo xs ys m ∧ dotTo xs ys m ≤ m * (A * B)
  | 0, _, _ => by simp [dotTo]
  | m + 1, h1, h2 => by
    have ih := dotTo_in ha hb m (by omega) (by omega); have hm := mul_in (ha _ (mem_getD (show m < xs.length by omega))) (hb _ (mem_getD (show m < ys.length by omega))); simp only [dotTo]; have e : ((m + 1 : Nat) : Int) * (A * B) = m * (A * B) + A * B := by rw [Int.natCast_add, Int.add_mul]; simp
    rw [e]
    omega
theorem dotTo_set {xs ys : List Int} {k : Nat} (hk : k < xs.length) (a : Int) : ∀ m, dotTo (xs.set k a) ys m = dotTo xs ys m + (if k < m then (a - xs.getD k 0) * ys.getD k 0 else 0)
  | 0 => by simp [dotTo]
  | m + 1 => by
    have ih := dotTo_set (ys := ys) hk a m; simp only [dotTo, ih]
    by_cases e : m = k
    · subst e; have : (xs.set m a).getD m 0 = a := by simp [List.getD, hk]
      rw [this, if_neg (by omega), if_pos (by omega), Int.sub_mul]
      omega
    · have : (xs.set k a).getD m 0 = xs.getD m 0 := by simp only [List.getD]; rw [List.getElem?_set_ne (by omega)]
      rw [this]
      by_cases h : k < m
      · rw [if_pos h, if_pos (by omega)]; omega
      · rw [if_neg h, if_neg (by omega)]; omega
theorem dotTo_zero {ys : List Int} {n : Nat} : ∀ m, dotTo (List.replicate n 0) ys m = 0
  | 0 => rfl
  | m + 1 => by rw [dotTo, dotTo_zero, rep_getD]; omega
theorem ct_i_dotOf (xs ys : List Int) (v u : Value) (w : World) (r : IntsR xs v (hp w)) (r' : IntsR ys u (hp w)) (ha : ∀ a ∈ xs, 0 ≤ a ∧ a ≤ 1048576) (hb : ∀ b ∈ ys, 0 ≤ b ∧ b ≤ 1048576) (hl : xs.length ≤ ys.length) (hs : xs.length ≤ 100000) :
    Calls Tryz.prog 179 [v, u].toArray w (RetV w (num (dotL xs ys))) := by
  refine calls_in Tryz.func179 rfl Tryz.ntmps179 rfl (Sat.start w) ?_; have hle0 := r.le; have hle1 := r'.le; refine wp_sc (wp_sq (sq_v rfl (v_assign rfl) rfl (sq_end (qs_n (wp_sc (wp_sq (sq_v rfl (v_assign rfl) rfl (sq_end (qs_n (wp_sc (wp_sc (wp_sq (sq_v rfl (v_move rfl) rfl (sq_v rfl (v_len Tryz.underlying25 rfl r.sl) rfl (sq_v rfl (v_move rfl) rfl (sq_end (qs_n (wp_bl (wp_lp (σ := Nat) (fun z_ => [(0, v), (1, u), (4, num 0), (5, num (dotTo xs ys z_)), (8, num xs.length), (9, num z_)]) (fun z_ => [hp w]) (fun z_ => z_ ≤ xs.length) (fun z_ => xs.length - z_) 0 (by omega) ⟨rfl, rfl, rfl, rfl, rfl, rfl, trivial⟩ (fun _ s => s) ?_))))))))))))))))))); rintro i hi; have hdi := dotTo_in ha hb i hi (by omega); refine wp_sc (wp_sq (sq_v rfl (v_lss rfl rfl) rfl (sq_end (qs_n (wp_sc ?_))))); refine wp_cd rfl (fun c10 => ?_) (fun c10 => ?_)
  · refine wp_sk (qs_n (wp_sc (wp_bl (wp_sc (wp_sq (sq_v rfl (v_move rfl) rfl (sq_v rfl (v_assign rfl) rfl (sq_end (qs_n (wp_rj 12 [(0, true), (1, true), (2, true), (3, true), (4, true), (5, true), (6, true), (7, true), (8, true), (9, true), (10, true), (11, true)] mixed_ok (by kernel_rfl) (rj_v rfl rfl (v_move rfl) rfl (rj_v rfl rfl (v_move rfl) rfl (rj_v rfl rfl (v_move rfl) rfl (rj_v rfl rfl (v_idxI Tryz.underlying25 ty_3 rfl rfl r (by omega) (by omega)) rfl (rj_v rfl rfl (v_loadI (k := i) 0 ty_3 rfl rfl r (by omega)) rfl (rj_v rfl rfl (v_move rfl) rfl (rj_v rfl rfl (v_move rfl) rfl ?_))))))))))))))))); refine rj_v rfl rfl (v_idxI Tryz.underlying25 ty_3 rfl rfl r' (by omega) (by omega)) rfl (rj_v rfl rfl (v_loadI (k := i) 0 ty_3 rfl rfl r' (by omega)) rfl ?_); have hm := mul_in6 (ha _ (mem_getD (show i < xs.length by omega))) (hb _ (mem_getD (show i < ys.length by omega))) (by omega) (by omega); refine rj_v rfl rfl (v_mul rfl rfl ((by unfold I64; omega))) rfl ?_; refine rj_v rfl rfl (v_add rfl rfl ((by unfold I64; omega))) rfl ?_; refine rj_v rfl rfl (v_assign rfl) rfl (rj_end (qs_bn (qs_n (wp_sq ?_)))); refine sq_v rfl (v_add rfl rfl ((by unfold I64; omega))) rfl ?_; refine sq_v rfl (v_move rfl) rfl (sq_end ?_); exact qs_bk (i + 1) (by omega) (by omega) ⟨rfl, rfl, rfl, rfl, rfl, rfl, trivial⟩ (fun _ s => s)
  · refine wp_ex (qs_x (qs_x (qs_bx (qs_n (wp_sc (wp_sq (sq_v rfl (v_move rfl) rfl (sq_v rfl (v_assign rfl) rfl (sq_end (qs_n (wp_rt ?_))))))))))); exact qs_ret1 rfl rfl (fin_q (i := 0) rfl (by rw [dotL, show xs.length = i by omega]))
def offL : List Int → List Int → Int
  | _ :: ds, i :: is => i * prodI ds + offL ds is
  | _, _ => 0
def hornTo (ds is : List Int) : Nat → Int
  | 0 => 0
  | m + 1 => hornTo ds is m * ds.getD m 0 + is.getD m 0
theorem horn_off : ∀ (ds is : List Int), ds.length = is.length → ∀ m, m ≤ ds.length → offL ds is = hornTo ds is m * prodI (ds.drop m) + offL (ds.drop m) (is.drop m) := by
  intro ds is hl m
  induction m with
  | zero => intro _; simp [hornTo]
  | succ m ih =>
    intro hm; rw [ih (by omega), drop_cons (xs := ds) (i := m) (by omega), drop_cons (xs := is) (i := m) (by omega), prodI_cons, offL, hornTo, Int.add_mul, Int.mul_assoc]
    omega
theorem offL_end {ds is : List Int} (hl : ds.length = is.length) : offL ds is = hornTo ds is ds.length := by
  rw [horn_off ds is hl ds.length (Nat.le_refl _), List.drop_length]
  simp [prodI, offL]
def idxIn (ds is : List Int) : Prop := is.length = ds.length ∧ ∀ j, j < ds.length → 0 ≤ is.getD j 0 ∧ is.getD j 0 < ds.getD j 0
theorem offL_in : ∀ {ds is : List Int}, (∀ d ∈ ds, 1 ≤ d) → idxIn ds is → 0 ≤ offL ds is ∧ offL ds is ≤ prodI ds - 1
  | [], [], _, _ => by simp [offL, prodI]
  | [], i :: is, _, h => by have := h.1; simp at this
  | d :: ds, [], _, h => by have := h.1; simp at this
  | d :: ds, i :: is, hd, h => by
    have h0 := h.2 0 (by simp); have ih := offL_in (ds := ds) (is := is) (fun x hx => hd x (by simp [hx])) ⟨by have := h.1; simpa using this, fun j hj => by have := h.2 (j + 1) (by simpa using hj); simpa [List.getD] using this⟩; have hp1 := prodI_one (ds := ds) (fun x hx => hd x (by simp [hx])); simp only [List.getD, List.getElem?_cons_zero, Option.getD_some] at h0; have e1 : i * prodI ds ≤ (d - 1) * prodI ds := Int.mul_le_mul_of_nonneg_right (by omega) (by omega); have e2 : 0 ≤ i * prodI ds := Int.mul_nonneg h0.1 (by omega); rw [Int.sub_mul, Int.one_mul] at e1; simp only [offL, prodI_cons]
    omega
theorem take_idx {ds is : List Int} (h : idxIn ds is) (m : Nat) : idxIn (ds.take m) (is.take m) := by
  refine ⟨by simp [h.1], fun j hj => ?_⟩; have hj' : j < m ∧ j < ds.length := by simp at hj; omega
  have := h.2 j hj'.2
  simpa [List.getD, List.getElem?_take, hj'.1] using this
theorem horn_take (ds is : List Int) : ∀ m k, k ≤ m → hornTo (ds.take m) (is.take m) k = hornTo ds is k := by
  intro m k
  induction k with
  | zero => intro _; rfl
  | succ k ih =>
    intro hk; rw [hornTo, hornTo, ih (by omega)]; have : k < m := by omega
    simp [List.getD, this]
theorem horn_in {ds is : List Int} (hd : ∀ d ∈ ds, 1 ≤ d) (h : idxIn ds is) {m : Nat} (hm : m ≤ ds.length) : 0 ≤ hornTo ds is m ∧ hornTo ds is m ≤ prodI (ds.take m) - 1 := by
  have h1 := offL_in (ds := ds.take m) (is := is.take m) (fun d hx => hd d (List.mem_of_mem_take hx)) (take_idx h m); have h2 := h.1; rw [offL_end (by simp [h2]), List.length_take, Nat.min_eq_left hm, horn_take _ _ _ _ (Nat.le_refl _)] at h1; exact h1
theorem ct_s_l05Offset (ds is : List Int) (v u : Value) (w : World) (r : IntsR ds v (hp w)) (r' : IntsR is u (hp w)) (hd : ∀ d ∈ ds, 1 ≤ d ∧ d ≤ 8) (hi : idxIn ds is) (hp1 : prodI ds ≤ 1000000000000) :
    Calls Tryz.prog 226 [v, u].toArray w (RetV w (num (offL ds is))) := by
  have hd1 : ∀ d ∈ ds, 1 ≤ d := fun d h => (hd d h).1; have hil := hi.1; refine calls_in Tryz.func226 rfl Tryz.ntmps226 rfl (Sat.start w) ?_; have hle0 := r.le; have hle1 := r'.le; refine wp_sc (wp_sq (sq_v rfl (v_assign rfl) rfl (sq_end (qs_n (wp_sc (wp_sq (sq_v rfl (v_assign rfl) rfl (sq_end (qs_n (wp_sc (wp_sc (wp_sq (sq_v rfl (v_move rfl) rfl (sq_v rfl (v_len Tryz.underlying25 rfl r.sl) rfl (sq_v rfl (v_move rfl) rfl (sq_end (qs_n (wp_bl (wp_lp (σ := Nat) (fun z_ => [(1, u), (4, num 0), (5, num (hornTo ds is z_)), (8, v), (9, num ds.length), (10, num z_)]) (fun z_ => [hp w]) (fun z_ => z_ ≤ ds.length) (fun z_ => ds.length - z_) 0 (by omega) ⟨rfl, rfl, rfl, rfl, rfl, rfl, trivial⟩ (fun _ s => s) ?_))))))))))))))))))); rintro i hn; refine wp_sc (wp_sq (sq_v rfl (v_lss rfl rfl) rfl (sq_end (qs_n (wp_sc ?_))))); refine wp_cd rfl (fun c11 => ?_) (fun c11 => ?_)
  · refine wp_sk (qs_n (wp_sc (wp_bl (wp_sc (wp_sq (sq_v rfl (v_move rfl) rfl (sq_v rfl (v_idxI Tryz.underlying25 ty_3 rfl rfl r (by omega) (by omega)) rfl (sq_v rfl (v_loadI (k := i) 0 ty_3 rfl rfl r (by omega)) rfl (sq_v rfl (v_assign rfl) rfl (sq_v rfl (v_assign rfl) rfl (sq_end ?_))))))))))); have h1 := horn_in hd1 hi (m := i) hn; have h2 := horn_in hd1 hi (m := i + 1) (by omega); have h3 := hi.2 i (by omega); have hpt := prodI_mono (fun j hj => hd1 _ (mem_getD hj)) (i + 1) ds.length (by omega) (by omega); rw [List.take_length] at hpt; have e : hornTo ds is (i + 1) = hornTo ds is i * ds.getD i 0 + is.getD i 0 := rfl; have hmn := Int.mul_nonneg h1.1 (show 0 ≤ ds.getD i 0 by omega); refine qs_n (wp_sq (sq_v rfl (v_move rfl) rfl (sq_v rfl (v_move rfl) rfl ?_))); refine sq_v rfl (v_mul rfl rfl ((by unfold I64; omega))) rfl ?_; refine sq_v rfl (v_move rfl) rfl (sq_v rfl (v_move rfl) rfl (sq_v rfl (v_idxI Tryz.underlying25 ty_3 rfl rfl r' (by omega) (by omega)) rfl (sq_v rfl (v_loadI (k := i) 0 ty_3 rfl rfl r' (by omega)) rfl ?_))); refine sq_v rfl (v_add rfl rfl ((by unfold I64; omega))) rfl ?_; refine sq_v rfl (v_assign rfl) rfl (sq_end (qs_bn (qs_n (wp_sq ?_)))); refine sq_v rfl (v_add rfl rfl ((by unfold I64; omega))) rfl ?_; refine sq_v rfl (v_move rfl) rfl (sq_end ?_); exact qs_bk (i + 1) (by omega) (by omega) ⟨rfl, rfl, rfl, rfl, rfl, rfl, trivial⟩ (fun _ s => s)
  · refine wp_ex (qs_x (qs_x (qs_bx (qs_n (wp_sc (wp_sq (sq_v rfl (v_move rfl) rfl (sq_v rfl (v_assign rfl) rfl (sq_end (qs_n (wp_rt ?_))))))))))); exact qs_ret1 rfl rfl (fin_q (i := 0) rfl (by rw [offL_end (by omega), show ds.length = i by omega]))
def idxAt (labels values ls : List Int) : List Int := ls.map fun x => values.getD (findI labels x).toNat 0
theorem find_at' {labels : List Int} (hn : labels.Nodup) {k : Nat} (hk : k < labels.length) : findI labels (labels.getD k 0) = k := by
  refine idx_first (fun j hj e => ?_) hk rfl; have h1 : j < labels.length := by omega
  simp only [List.getD, List.getElem?_eq_getElem h1, List.getElem?_eq_getElem hk, Option.getD_some] at e; have := (List.getElem_inj hn).1 e
  omega
theorem steps_cons {labels ls ds : List Int} {l d : Int} (hn : labels.Nodup) (hl : l ∈ labels) : stepsL labels (l :: ls) (d :: ds) = (stepsL labels ls ds).set (findI labels l).toNat (prodI ds) := by
  have hf := findI_get hl
  apply ext_getD
  · simp [stepsL_len]
  · intro j hj; rw [stepsL_len] at hj; rw [stepsL_get hj, strOf]
    by_cases e : j = (findI labels l).toNat
    · subst e; rw [if_pos hf.2]
      simp [List.getD, stepsL_len, hf.1]
    · have hne : labels.getD j 0 ≠ l := fun e' => e (by rw [← e', find_at' hn hj]; simp); rw [if_neg hne, ← stepsL_get hj]; simp only [List.getD]; rw [List.getElem?_set_ne (Ne.symm e)]
theorem dot_off {labels values : List Int} (hn : labels.Nodup) : ∀ {ls ds : List Int}, ls.length = ds.length → ls.Nodup → (∀ l ∈ ls, l ∈ labels) → dotTo (stepsL labels ls ds) values labels.length = offL ds (idxAt labels values ls)
  | [], ds, _, _, _ => by
    have e : stepsL labels [] ds = List.replicate labels.length 0 := by
      have := steps_end (labels := labels) (ls := []) (ds := ds) (n := 0) rfl
      simpa using this
    rw [e, dotTo_zero]
    cases ds <;> rfl
  | l :: ls, [], h, _, _ => by simp at h
  | l :: ls, d :: ds, h, hd, hm => by
    have hl := hm l (by simp); have hx : l ∉ ls := (List.nodup_cons.1 hd).1; have hf := findI_get hl; have ih := dot_off (values := values) hn (ls := ls) (ds := ds) (by simpa using h) (List.nodup_cons.1 hd).2 (fun x hx => hm x (by simp [hx])); rw [steps_cons hn hl, dotTo_set (by rw [stepsL_len]; exact hf.1), if_pos hf.1, ih, stepsL_get hf.1, hf.2, strOf_none hx]; simp only [idxAt, List.map_cons, offL, Int.sub_zero]; rw [Int.mul_comm (prodI ds)]
    omega
end Go.Proofs.YthlmjnihihbckaaGreat
namespace Go.Proofs.YthlmjnihihbckaaGreat
set_option maxRecDepth 100000
open Go.RowKit

/-- The labels below m that occur. -/
def labelsTo (ts : List Ten) (m : Nat) : List Int := ((List.range m).map fun (i : Nat) => (i : Int)).filter fun x => decide (0 < dimOf ts x)
def labelsL (ts : List Ten) : List Int := labelsTo ts 100
theorem labels_yes {ts : List Ten} {m : Nat} (h : 0 < dimOf ts m) : labelsTo ts (m + 1) = labelsTo ts m ++ [(m : Int)] := by simp [labelsTo, List.range_succ, h]
theorem labels_no {ts : List Ten} {m : Nat} (h : ¬ 0 < dimOf ts m) : labelsTo ts (m + 1) = labelsTo ts m := by simp [labelsTo, List.range_succ, h]
theorem labels_len (ts : List Ten) (m : Nat) : (labelsTo ts m).length ≤ m := by
  have := List.length_filter_le (fun x => decide (0 < dimOf ts x)) ((List.range m).map fun (i : Nat) => (i : Int))
  simpa [labelsTo] using this
theorem mem_labels {ts : List Ten} {m : Nat} {x : Int} : x ∈ labelsTo ts m ↔ (0 ≤ x ∧ x < m) ∧ 0 < dimOf ts x := by
  simp only [labelsTo, List.mem_filter, List.mem_map, List.mem_range, decide_eq_true_eq]
  constructor
  · rintro ⟨⟨i, hi, rfl⟩, h⟩; exact ⟨by omega, h⟩
  · rintro ⟨h1, h2⟩; exact ⟨⟨x.toNat, by omega, by omega⟩, h2⟩
theorem ct_s_l12Labels (ts : List Ten) (v : Value) (w : World) (r : TensR ts v (hp w)) (hok : ∀ t ∈ ts, AxOK t) : Calls Tryz.prog 198 [v].toArray w (Ret w emp (IntsO (labelsL ts))) := by
  refine calls_in Tryz.func198 rfl Tryz.ntmps198 rfl (Sat.start w) (wp_sc (wp_sq (sq_v rfl (v_assign rfl) rfl (sq_end (qs_n (wp_sc (wp_sq ?_))))))); refine sq_x rfl (x_build0 Tryz.underlying25 ty_3) rfl ?_; intro v5 h5 (r5 : IntsO [] v5 h5); refine sq_v rfl (v_assign rfl) rfl (sq_end (qs_n (wp_sc (wp_sc (wp_sq (sq_v rfl (v_assign rfl) rfl (sq_end (qs_n (wp_bl (wp_lp (fun s : Nat × Value × PH => [(0, v), (3, s.2.1), (4, num s.1)]) (fun s => [s.2.2, hp w]) (fun s => s.1 ≤ 100 ∧ IntsO (labelsTo ts s.1) s.2.1 s.2.2) (fun s => 100 - s.1) (0, v5, h5) ⟨by omega, r5⟩ ⟨rfl, rfl, rfl, trivial⟩ (fun _ s => s) ?_)))))))))); rintro ⟨i, vo, ho⟩ ⟨hi, ro⟩; dsimp only at hi ro ⊢; have hll := labels_len ts i; refine wp_sc (wp_sc (wp_sq (sq_v rfl (v_move rfl) rfl (sq_v rfl (v_leq rfl rfl) rfl (sq_end (qs_n ?_)))))); refine wp_cd rfl (fun c7 => ?_) (fun c7 => ?_)
  · refine wp_sk (qs_n (wp_sc (wp_bl (wp_sc (wp_sq (sq_v rfl (v_move rfl) rfl (sq_v rfl (v_move rfl) rfl (sq_u rfl (x_callv rfl en_186 (fun w s => ct_s_l12Dim _ _ _ w (r.mono (s.get 1 rfl)) hok)) rfl (sq_v rfl (v_gtr rfl rfl) rfl (sq_end (qs_n ?_))))))))))); refine wp_cd rfl (fun c13 => ?_) (fun c13 => ?_)
    · refine wp_sq (sq_v rfl (v_move rfl) rfl (sq_v rfl (v_move rfl) rfl ?_)); refine sq_x rfl (x_buildS [num ((i : Int))] Tryz.underlying25 ty_3 (by decide) rfl rfl rfl (by decide) (by decide) (by intro v hv; simp at hv; rcases hv with rfl <;> rfl)) rfl ?_; intro v16 h16 (r16 : IntsO [(i : Int)] v16 h16); refine sq_m 1 rfl rfl (m_appI 1 0 Tryz.underlying25 ty_3 rfl rfl rfl rfl ro rfl r16.toR (by simp only [List.length_cons, List.length_nil]; omega)) rfl ?_; intro v17 h_r17 r17; refine sq_v rfl (v_assign rfl) rfl (sq_end (qs_bn (qs_n (wp_sq (sq_v rfl (v_move rfl) rfl ?_))))); refine sq_v rfl (v_add rfl rfl ((by unfold I64; omega))) rfl ?_; refine sq_v rfl (v_assign rfl) rfl (sq_end ?_); exact qs_bk (i + 1, v17, h_r17) ⟨by simp only; omega, by simp only; rw [labels_yes c13]; exact r17⟩ (by simp only; omega) ⟨rfl, rfl, rfl, trivial⟩ (fun _ s => s.pick [1, 2] (by decide) rfl)
    · refine wp_sk (qs_bn (qs_n (wp_sq (sq_v rfl (v_move rfl) rfl ?_)))); refine sq_v rfl (v_add rfl rfl ((by unfold I64; omega))) rfl ?_; refine sq_v rfl (v_assign rfl) rfl (sq_end ?_); exact qs_bk (i + 1, vo, ho) ⟨by simp only; omega, by simp only; rw [labels_no c13]; exact ro⟩ (by simp only; omega) ⟨rfl, rfl, rfl, trivial⟩ (fun _ s => s)
  · refine wp_ex (qs_x (qs_x (qs_bx (qs_n (wp_sc (wp_sq (sq_v rfl (v_move rfl) rfl (sq_v rfl (v_assign rfl) rfl (sq_end (qs_n (wp_rt ?_))))))))))); have e : i = 100 := by omega
    subst e; exact qs_ret1 rfl rfl (fin_t 0 (i := 1) rfl rfl rfl ro)
open Classical in
noncomputable def labelsOf (k p n : Int) (ts : List Ten) (op : List Int) : List Int := if netL k p n ts op then labelsL ts else []
theorem net_ax {k p n : Int} {ts : List Ten} {op : List Int} (h : netL k p n ts op) : ∀ t ∈ ts, AxOK t := fun t ht => axes_ok (tensor_axes (h.2.2.1 t ht))
theorem netB_true {k p n : Int} {ts : List Ten} {op : List Int} : netB k p n ts op = true ↔ netL k p n ts op := by simp [netB]
theorem netB_false {k p n : Int} {ts : List Ten} {op : List Int} : netB k p n ts op = false ↔ ¬ netL k p n ts op := by simp [netB]
theorem ct_i_occurring (ts : List Ten) (arr : List Int) (w : World) (ha : arrInv ts arr) (hok : ∀ t ∈ ts, AxOK t) : Calls Tryz.prog 141 [.agg (ints arr).toArray].toArray w (Ret w emp (IntsO (labelsL ts))) := by
  have hal := ha.1; refine calls_in Tryz.func141 rfl Tryz.ntmps141 rfl (Sat.start w) (wp_sc (wp_sq ?_)); refine sq_x rfl (x_box rfl rfl) rfl ?_; rintro _ _ ⟨b1, rfl, rfl⟩; refine sq_v rfl (v_assign rfl) rfl (sq_end (qs_n (wp_sc (wp_sq (sq_v rfl (v_assign rfl) rfl (sq_end (qs_n (wp_sc (wp_sc (wp_sq ?_)))))))))); refine sq_v rfl (v_loadNB 0 ty_137 rfl rfl (by rw [ints_length]; exact hal) (by rw [List.drop_zero, List.take_of_length_le]; rw [ints_length, hal]; omega)) rfl ?_; refine sq_v rfl (v_move rfl) rfl (sq_end (qs_n (wp_bl (wp_lp (fun s : Nat × Value × PH => [(3, s.2.1), (6, .agg (ints arr).toArray), (7, num s.1)]) (fun s => [s.2.2, hp w]) (fun s => s.1 ≤ 100 ∧ IntsO (labelsTo ts s.1) s.2.1 s.2.2) (fun s => 100 - s.1) (0, .slice none 0 0, emp) ⟨by omega, IntsO.nil⟩ ⟨rfl, rfl, rfl, trivial⟩ (fun _ s => (emp_sat s).pick [0, 2] (by decide) rfl) ?_)))); rintro ⟨i, vo, ho⟩ ⟨hi, ro⟩; dsimp only at hi ro ⊢; have hll := labels_len ts i; have hdr := dimOf_range hok (i : Int); refine wp_sc (wp_sq (sq_v rfl (v_lss rfl rfl) rfl (sq_end (qs_n (wp_sc ?_))))); refine wp_cd rfl (fun c8 => ?_) (fun c8 => ?_)
  · refine wp_sk (qs_n (wp_sc (wp_bl (wp_sc (wp_sq (sq_v rfl (v_move rfl) rfl ?_)))))); have hav := ha.2 (i : Int) (by omega) (by omega); refine sq_v rfl (v_indexA Tryz.underlying137 ty_3 rfl rfl (by omega) (by omega) (aget (k := i) (by omega) (by simp))) rfl (sq_v rfl (v_assign rfl) rfl (sq_v rfl (v_assign rfl) rfl (sq_end (qs_n (wp_sc (wp_sq (sq_v rfl (v_move rfl) rfl (sq_v rfl (v_neq rfl rfl) rfl (sq_end (qs_n ?_)))))))))); refine wp_cd rfl (fun c12 => ?_) (fun c12 => ?_)
    · refine wp_sq (sq_v rfl (v_move rfl) rfl (sq_v rfl (v_move rfl) rfl ?_)); refine sq_x rfl (x_buildS [num ((i : Int))] Tryz.underlying25 ty_3 (by decide) rfl rfl rfl (by decide) (by decide) (by intro v hv; simp at hv; rcases hv with rfl <;> rfl)) rfl ?_; intro v15 h15 (r15 : IntsO [(i : Int)] v15 h15); refine sq_m 1 rfl rfl (m_appI 1 0 Tryz.underlying25 ty_3 rfl rfl rfl rfl ro rfl r15.toR (by simp only [List.length_cons, List.length_nil]; omega)) rfl ?_; intro v16 h_r16 r16; refine sq_v rfl (v_assign rfl) rfl (sq_end (qs_bn (qs_n (wp_sq ?_)))); refine sq_v rfl (v_add rfl rfl ((by unfold I64; omega))) rfl ?_; refine sq_v rfl (v_move rfl) rfl (sq_end ?_); exact qs_bk (i + 1, v16, h_r16) ⟨by simp only; omega, by simp only; rw [labels_yes (by rw [← hav]; simp only [Int.toNat_natCast]; rw [← hav] at hdr; simp only [Int.toNat_natCast] at hdr; omega)]; exact r16⟩ (by simp only; omega) ⟨rfl, rfl, rfl, trivial⟩ (fun _ s => s.pick [1, 2] (by decide) rfl)
    · refine wp_sk (qs_bn (qs_n (wp_sq ?_))); refine sq_v rfl (v_add rfl rfl ((by unfold I64; omega))) rfl ?_; refine sq_v rfl (v_move rfl) rfl (sq_end ?_); exact qs_bk (i + 1, vo, ho) ⟨by simp only; omega, by simp only; rw [labels_no (by rw [← hav]; simp only [Int.toNat_natCast]; omega)]; exact ro⟩ (by simp only; omega) ⟨rfl, rfl, rfl, trivial⟩ (fun _ s => s)
  · refine wp_ex (qs_x (qs_x (qs_bx (qs_n (wp_sc (wp_sq (sq_v rfl (v_move rfl) rfl (sq_v rfl (v_assign rfl) rfl (sq_end (qs_n (wp_rt ?_))))))))))); have e : i = 100 := by omega
    subst e; exact qs_ret1 rfl rfl (fin_t 0 (i := 1) rfl rfl rfl ro)
theorem net_axes {k p n : Int} {ts : List Ten} {op : List Int} (h : netL k p n ts op) : ∀ t ∈ ts, axesL t.l t.d := fun t ht => tensor_axes (h.2.2.1 t ht)
theorem ct_i_LabelsOf (k p n : Int) (ts : List Ten) (op : List Int) (vt vo : Value) (w : World) (r : TensR ts vt (hp w)) (r' : IntsR op vo (hp w)) (hs : op.length ≤ 1048576) :
    Calls Tryz.prog 51 [netV k p n vt vo].toArray w (Ret w emp (IntsO (labelsOf k p n ts op))) := by
  refine calls_in Tryz.func51 rfl Tryz.ntmps51 rfl (Sat.start w) (wp_sc (wp_sq ?_)); refine sq_x rfl (x_box rfl rfl) rfl ?_; rintro _ _ ⟨b1, rfl, rfl⟩; refine sq_v rfl (v_assign rfl) rfl (sq_end (qs_n (wp_sc (wp_sc (wp_sq (sq_v rfl (v_loadNB 0 ty_40 rfl rfl rfl rfl) rfl (sq_u rfl (x_callv rfl en_42 (fun w s => ct_i_NetworkOk _ _ _ _ _ _ _ w (r.mono (s.get 1 rfl)) (r'.mono (s.get 1 rfl)) hs)) rfl (sq_v rfl (v_not rfl) rfl (sq_end (qs_n ?_)))))))))); refine wp_cn _ rfl (fun c7 => ?_) (fun c7 => ?_)
  · refine wp_sc (wp_sq (sq_v rfl (v_assign rfl) rfl (sq_end (qs_n (wp_rt (qs_r ?_)))))); exact qs_ret1 rfl rfl (fin_e (i := 1) rfl (by rw [labelsOf, if_neg (netB_false.1 c7)]; exact IntsO.nil))
  · refine wp_sk (qs_n (wp_sc (wp_sq (sq_v rfl (v_fieldAddr fd_40_1 ty_38 (by decide) rfl) rfl (sq_v rfl (v_loadB 0 ty_38 rfl rfl rfl) rfl ?_))))); have hnet := netB_true.1 c7; refine sq_x rfl (x_call rfl en_128 (fun w s => ct_i_dimsOf _ _ w (r.mono (s.get 1 rfl)) (net_axes hnet))) rfl ?_; rintro _ h11 ⟨arr, ok, rfl, hal, hok, hav⟩; refine sq_v rfl (v_move rfl) rfl (sq_v rfl (v_extract rfl rfl) rfl (sq_v rfl (v_extract rfl rfl) rfl ?_)); refine sq_x rfl (x_alloc ty_137 rfl) rfl ?_; rintro _ _ ⟨b3, rfl, rfl⟩; refine sq_m 0 rfl rfl (m_storeW 0 ty_137 rfl rfl rfl (by rw [ints_length]; exact hal) (ints_one arr) rfl (by simp)) rfl ?_; rintro _ _ ⟨rfl, rfl⟩; refine sq_v rfl (v_assign rfl) rfl (sq_end (qs_n (wp_sc (wp_sq ?_)))); refine sq_v rfl (v_loadNB 0 ty_137 rfl rfl (by rw [ints_length]; exact hal) (by rw [List.drop_zero, List.take_of_length_le]; rw [ints_length, hal]; omega)) rfl ?_; refine sq_x rfl (x_call rfl en_141 (fun w s => ct_i_occurring ts arr w (hav (hok.2 hnet.2.2.2.1)) (net_ax hnet))) rfl ?_; rintro v15 h15 r15; refine sq_v rfl (v_assign rfl) rfl (sq_end (qs_n (wp_rt ?_))); exact qs_ret1 rfl rfl (fin_t 0 (i := 4) rfl rfl rfl (by rw [labelsOf, if_pos hnet]; exact r15))
end Go.Proofs.YthlmjnihihbckaaGreat
namespace Go.Proofs.YthlmjnihihbckaaGreat
set_option maxRecDepth 100000
open Go.RowKit
theorem dimOf_append : ∀ {a b : List Ten} (_ : ∀ t ∈ a, AxOK t) (x : Int), dimOf (a ++ b) x = if dimOf a x ≠ 0 then dimOf a x else dimOf b x
  | [], b, _, x => by simp [dimOf]
  | u :: r, b, h, x => by
    have ih := dimOf_append (a := r) (b := b) (fun t ht => h t (by simp [ht])) x
    by_cases hx : x ∈ u.l
    · have hu := (h u (by simp)).2 _ (findI_get hx).1; simp only [List.cons_append, dimOf, if_pos hx]; rw [if_pos (by omega)]
    · simp only [List.cons_append, dimOf, if_neg hx]; exact ih
/-- In a network in order, each label's dimension is that of its axis. -/
theorem net_dim {k p n : Int} {ts : List Ten} {op : List Int} (h : netL k p n ts op) {t : Ten} (ht : t ∈ ts) {x : Int} (hx : x ∈ t.l) : dimOf ts x = t.d.getD (findI t.l x).toNat 0 := by
  obtain ⟨i, hi⟩ := List.getElem?_of_mem ht; have hlt := (List.getElem?_eq_some_iff.1 hi).1; have hg := findI_get hx; have hc := h.2.2.2.1 i hlt t hi _ hg.1 t hi; rw [hg.2] at hc; have e : ts = ts.take i ++ (t :: ts.drop (i + 1)) := by rw [← drop_at hi, List.take_append_drop]
  have hax := net_ax h
  conv => lhs; rw [e]
  rw [dimOf_append (fun u hu => hax u (List.mem_of_mem_take hu))]
  split
  · omega
  · rw [dimOf, if_pos hx]
theorem net_label {k p n : Int} {ts : List Ten} {op : List Int} (h : netL k p n ts op) {t : Ten} (ht : t ∈ ts) {x : Int} (hx : x ∈ t.l) : x ∈ labelsL ts := by
  have hg := findI_get hx; have ha := (net_axes h t ht).2.2 _ hg.1
  unfold axP at ha
  rw [hg.2] at ha; have hd := net_dim h ht hx; exact mem_labels.2 ⟨by omega, by have := ha.2.1; omega⟩
theorem axes_nodup {ls ds : List Int} (h : axesL ls ds) : ls.Nodup := by
  rw [List.Nodup, List.pairwise_iff_getElem]; intro i j hi hj hij e; have := (h.2.2 j hj).2.2; refine this ?_; simp only [List.getD, List.getElem?_eq_getElem hj, Option.getD_some]; rw [← e]; exact List.mem_iff_getElem.2 ⟨i, by simp; omega, by simp⟩
theorem oneL_in {k p n : Int} (h : ringL k p n) : InR k p n (oneL k p n) := by
  refine ⟨oneL_len k p n, fun a ha => ?_⟩; have ht := top_range h
  unfold oneL at ha
  split at ha
  · simp at ha; omega
  · split at ha
    · simp at ha; omega
    · have h1 : 1 ≤ topI k p n := by
        have h3 := fun hk => top_cap (k := k) (p := p) (n := n) h hk; have h2 := fun hk => top_poly (k := k) (p := p) (n := n) h hk
        unfold ringL at h
        have h1 := fun hk => top_1 (k := k) (p := p) (n := n) hk
        rcases h with h | h | h | h | h | h
        · have := h1 h.1; omega
        · have := h2 (.inl h.1); omega
        · have := h3 h.1; omega
        · omega
        · have := h2 (.inr (.inl h.1)); omega
        · have := h2 (.inr (.inr h.1)); omega
      rcases List.mem_or_eq_of_mem_set ha with ha | ha
      · have := List.eq_of_mem_replicate ha; omega
      · omega
theorem elt_mem {xs : List Int} {w i a : Int} (h : a ∈ elt xs w i) : a ∈ xs := List.mem_of_mem_drop (List.mem_of_mem_take h)
theorem elt_inR {k p n : Int} {t : Ten} (h : tensorL k p n t.l t.d t.x) {i : Int} (h0 : 0 ≤ i) (h1 : i < prodI t.d) : InR k p n (elt t.x (widthI k n) i) := by
  have hw := width_range h.1; refine ⟨?_, fun a ha => h.2.2.2 a (elt_mem ha)⟩; have hsz := h.2.2.1; have hs := sizeI_ge.1 h.2.1; rw [sizeI_yes hs.1 hs.2] at hsz; have := Int.mul_le_mul_of_nonneg_right (show i + 1 ≤ prodI t.d by omega) (show 0 ≤ widthI k n by omega); have h2 := Int.mul_nonneg h0 (show 0 ≤ widthI k n by omega); rw [Int.add_mul, Int.one_mul] at this; simp only [elt, List.length_take, List.length_drop]
  omega
theorem elt_fits {k p n : Int} {t : Ten} (h : tensorL k p n t.l t.d t.x) {i : Int} (h1 : i < prodI t.d) : i * widthI k n + widthI k n ≤ t.x.length ∧ t.x.length ≤ 17592186044416 := by
  have hw := width_range h.1; have hsz := h.2.2.1; have hs := sizeI_ge.1 h.2.1; rw [sizeI_yes hs.1 hs.2] at hsz; have := Int.mul_le_mul_of_nonneg_right (show i + 1 ≤ prodI t.d by omega) (show 0 ≤ widthI k n by omega); rw [Int.add_mul, Int.one_mul] at this; have h3 : prodI t.d * widthI k n ≤ 4096 * 6 := Int.mul_le_mul hs.2 hw.2 (by omega) (by omega)
  omega
theorem steps_in {labels ls ds : List Int} (hd : ∀ d ∈ ds, 1 ≤ d) : ∀ a ∈ stepsL labels ls ds, 0 ≤ a ∧ a ≤ prodI ds := fun a ha => by
  simp only [stepsL, List.mem_map] at ha; obtain ⟨x, _, rfl⟩ := ha; exact strOf_range hd x
/-- What is asked of the numbers at the labels. -/
structure AtOK (k p n : Int) (ts : List Ten) (labels vs : List Int) : Prop where
  ring : ringL k p n
  ten : ∀ t ∈ ts, tensorL k p n t.l t.d t.x
  nodup : labels.Nodup
  mem : ∀ t ∈ ts, ∀ x ∈ t.l, x ∈ labels
  idx : ∀ t ∈ ts, idxIn t.d (idxAt labels vs t.l)
  len : vs.length = labels.length
  few : labels.length ≤ 100
  small : ∀ b ∈ vs, 0 ≤ b ∧ b ≤ 1048576
theorem AtOK.off {k p n : Int} {ts : List Ten} {labels vs : List Int} (h : AtOK k p n ts labels vs) {t : Ten} (ht : t ∈ ts) : 0 ≤ offL t.d (idxAt labels vs t.l) ∧ offL t.d (idxAt labels vs t.l) < prodI t.d := by
  have := offL_in (fun d hd => (dims_mem (axes_dims (tensor_axes (h.ten t ht))) d hd).1) (h.idx t ht)
  omega
theorem AtOK.dot {k p n : Int} {ts : List Ten} {labels vs : List Int} (h : AtOK k p n ts labels vs) {t : Ten} (ht : t ∈ ts) : dotL (stepsL labels t.l t.d) vs = offL t.d (idxAt labels vs t.l) := by
  have hax := tensor_axes (h.ten t ht); rw [dotL, stepsL_len, dot_off h.nodup hax.2.1 (axes_nodup hax) (h.mem t ht)]
theorem idxAt_step {labels vs ls : List Int} {j : Nat} (h : j < ls.length) : idxAt labels vs (ls.take (j + 1)) = idxAt labels vs (ls.take j) ++ [vs.getD (findI labels (ls.getD j 0)).toNat 0] := by
  rw [take_succ h, idxAt, List.map_append]; rfl
end Go.Proofs.YthlmjnihihbckaaGreat
namespace Go.Proofs.YthlmjnihihbckaaGreat
set_option maxRecDepth 100000
open Go.RowKit
/-- 'HK' is 'HS', some parts of it forgotten. -/
def WkL : List PH → List PH → Prop
  | [], [] => True
  | h :: HS, k :: HK => (k = h ∨ k = emp) ∧ WkL HS HK
  | _, _ => False
def blankL : List Bool → List PH → List PH
  | true :: B, _ :: HS => emp :: blankL B HS
  | false :: B, h :: HS => h :: blankL B HS
  | _, HS => HS
theorem WkL.refl : ∀ HS, WkL HS HS
  | [] => trivial
  | _ :: HS => ⟨.inl rfl, WkL.refl HS⟩
theorem WkL.blank : ∀ (B : List Bool) (HS : List PH), WkL HS (blankL B HS)
  | [], HS => by unfold blankL; exact WkL.refl HS
  | true :: _, [] => trivial
  | false :: _, [] => trivial
  | true :: B, h :: HS => ⟨.inr rfl, WkL.blank B HS⟩
  | false :: B, h :: HS => ⟨.inl rfl, WkL.blank B HS⟩
theorem WkL.le : ∀ {HS HK : List PH}, WkL HS HK → ∀ x ∈ HK, x = emp ∨ x ∈ HS
  | [], [], _, x, h => by simp at h
  | _ :: _, [], h, _, _ => h.elim
  | [], _ :: _, h, _, _ => h.elim
  | h :: HS, k :: HK, w, x, hx => by
    rcases List.mem_cons.1 hx with rfl | hx
    · rcases w.1 with e | e
      · exact .inr (by simp [e])
      · exact .inl e
    · rcases WkL.le w.2 x hx with e | e
      · exact .inl e
      · exact .inr (by simp [e])
theorem WkL.sep : ∀ {HS HK : List PH}, WkL HS HK → sepL HS → sepL HK
  | [], [], _, _ => trivial
  | _ :: _, [], h, _ => h.elim
  | [], _ :: _, h, _ => h.elim
  | h :: HS, k :: HK, w, s => by
    refine ⟨fun x hx => ?_, WkL.sep w.2 s.2⟩
    rcases w.1 with rfl | rfl
    · rcases WkL.le w.2 x hx with rfl | e
      · exact PDj.symm (PDj.emp _)
      · exact s.1 x e
    · exact PDj.emp _
theorem WkL.sat {w0 w : World} {HS HK : List PH} (h : WkL HS HK) (s : Sat w0 HS w) : Sat w0 HK w := by
  refine ⟨s.os, s.tape, s.output, s.size, h.sep s.sep, fun x hx => ?_⟩
  rcases h.le x hx with rfl | e
  · exact PLe.emp _
  · exact s.le x e
theorem WkL.set : ∀ {HS HK : List PH} {p : Nat} {h' : PH}, WkL HS HK → HK[p]? = some emp → WkL (HS.set p h') HK
  | [], [], _, _, _, e => by simp at e
  | _ :: _, [], _, _, h, _ => h.elim
  | [], _ :: _, _, _, h, _ => h.elim
  | h :: HS, k :: HK, 0, h', w, e => by
    simp only [List.getElem?_cons_zero, Option.some.injEq] at e; exact ⟨.inr e, w.2⟩
  | h :: HS, k :: HK, p + 1, h', w, e => ⟨w.1, WkL.set (p := p) w.2 (by simpa using e)⟩
section
variable (P : Program) (n : Nat) (w0 : World)
def RK (ops : Array Oper) (m : Nat) (Q : Exit → Act → World → Prop) (order : List (Nat × Bool)) (listed : Array Bool) (K : Env) (HS HK : List PH) : Prop :=
  WkL HS HK → (∀ i s r, order = (i, s) :: r → i < m → HeadInv .any ops m listed) → chk ops m order listed = true → (Region.noSelect ops && tailOK ops m) = true →
  ∀ (a : Act) (w : World), EnvOK n K a → Sat w0 HS w → RAny P ops Q (Sat w0 HK) m order.length listed a w
end
section
variable {P : Program} {n : Nat} {w0 : World} {K : Env} {HS HK : List PH} {Q : Exit → Act → World → Prop} {ops : Array Oper} {m : Nat} {r : List (Nat × Bool)} {listed : Array Bool}
theorem rk_end (h : QS n w0 Q .normal K HS) : RK P n w0 ops m Q [] listed K HS HK := fun _ _ hc _ a w e s => ⟨by simpa [chk] using hc, h a w e s⟩
theorem rk_yield {i : Nat} {oi : Oper} {v : Value} (hi : ops[i]? = some oi) (hy : ∀ a, EnvOK n K a → YieldsIf P ops (Sat w0 HK) oi v a) (hf : fitsK n oi.dst = true)
    (k : RK P n w0 ops m Q r (listed.setIfInBounds i true) (putK oi.dst v K) HS HK) : RK P n w0 ops m Q ((i, true) :: r) listed K HS HK := fun hwk hinv hc ht a w e s => by
  simp only [chk, Bool.and_eq_true, decide_eq_true_eq] at hc; obtain ⟨⟨⟨him, hr⟩, hfr⟩, hc'⟩ := hc; have inv := hinv i true r rfl him; have hr' : i ∈ Region.ready .any ops listed := by simpa using hr
  have ht' := ht; rw [Bool.and_eq_true] at ht'; exact rany_first hi (Region.noSelect_spec ht'.1) him ht'.2 _ listed a w inv (Region.free_spec hi hfr) hr' (hy a e) (hwk.sat s)
    (k hwk (fun _ _ _ _ _ => inv.set hr' him) hc' ht _ _ (e.put v hf) s)
theorem rk_v {i : Nat} {oi : Oper} {v : Value} (hi : ops[i]? = some oi) (hw : wantK ops K oi.guard = some true) (hv : StepV P n w0 K HK oi v) (hf : fitsK n oi.dst = true)
    (k : RK P n w0 ops m Q r (listed.setIfInBounds i true) (putK oi.dst v K) HS HK) : RK P n w0 ops m Q ((i, true) :: r) listed K HS HK :=
  rk_yield hi (fun a e => .inl ⟨e.wanted hw, fun w s => hv a w e s⟩) hf k
theorem rk_only {i : Nat} {oi : Oper} (hi : ops[i]? = some oi) (h : (∀ i' s' r', r = (i', s') :: r' → i' < m → i < m) → chk ops m r (listed.setIfInBounds i true) = true → (m ≤ i → ∀ j, j < m → (listed.setIfInBounds i true).getD j false = true) →
      (Region.noSelect ops && tailOK ops m) = true → (i < m → HeadInv .any ops m (listed.setIfInBounds i true)) → WkL HS HK →
      ∀ a w, EnvOK n K a → Sat w0 HS w → wpOp P ops (OnlyN Q) i (fun a' w' => (i < m → Sat w0 HK w') ∧ RAny P ops Q (Sat w0 HK) m r.length (listed.setIfInBounds i true) a' w') a w) :
    RK P n w0 ops m Q ((i, false) :: r) listed K HS HK := fun hwk hinv hc ht a w e s => by
  simp only [chk, Bool.and_eq_true, decide_eq_true_eq, Bool.or_eq_true, List.all_eq_true, List.mem_range] at hc; obtain ⟨⟨hr, hd⟩, hc'⟩ := hc; have hmem : i ∈ Region.ready .any ops listed := by rw [hr]; simp
  refine ⟨fun h0 => (by rw [hr] at h0; cases h0), fun j hj => ?_⟩; rw [hr] at hj; have : j = i := by simpa using hj
  subst this; refine h (fun i' s' r' e' hlt => ?_) hc' (fun hmi j' hj' => ?_) ht (fun him => (hinv j false r rfl him).set hmem him) hwk a w e s
  · rcases hd with hd | hd
    · exact hd
    · have := hd.2 (i', s') (by rw [e']; simp)
      simp only at this
      omega
  · rcases hd with hd | hd
    · omega
    · exact getD_set_true (hd.1 j' hj')
theorem rk_fv {i : Nat} {oi : Oper} {v : Value} (hi : ops[i]? = some oi) (hw : wantK ops K oi.guard = some true) (hv : StepV P n w0 K HS oi v) (hf : fitsK n oi.dst = true)
    (k : RK P n w0 ops m Q r (listed.setIfInBounds i true) (putK oi.dst v K) HS HK) : RK P n w0 ops m Q ((i, false) :: r) listed K HS HK :=
  rk_only hi fun h1 h2 _ h4 h5 hwk a w e s => by
    have hy : YieldsIf P ops (Sat w0 HS) oi v a := .inl ⟨e.wanted hw, fun w s => hv a w e s⟩; exact hy.wpOp hi s ⟨fun _ => hwk.sat s, k hwk (fun i' s' r' e' hlt => h5 (h1 i' s' r' e' hlt)) h2 h4 _ _ (e.put v hf) s⟩
theorem rk_x {i : Nat} {oi : Oper} {T : Value → PH → Prop} (hi : ops[i]? = some oi) (hw : wantK ops K oi.guard = some true) (hx : StepX P n w0 K HS oi emp T) (hf : fitsK n oi.dst = true)
    (k : ∀ v h', T v h' → RK P n w0 ops m Q r (listed.setIfInBounds i true) (putK oi.dst v K) (h' :: HS) (h' :: HK)) : RK P n w0 ops m Q ((i, false) :: r) listed K HS HK :=
  rk_only hi fun h1 h2 _ h4 h5 hwk a w e s => by
    unfold wpOp
    simp only [hi]; rw [if_pos (e.wanted hw)]; refine .inl (Oper.wp_imp (hx a w e s) (fun a' w' ⟨v, h', ha, u, ht⟩ => ?_) (fun _ _ _ f => f.elim)); subst ha; exact ⟨fun _ => hwk.sat (s.same u), rany_mono (fun _ t => t.drop) _ _ _ _ (k v h' ht ⟨.inl rfl, hwk⟩ (fun i' s' r' e' hlt => h5 (h1 i' s' r' e' hlt)) h2 h4 _ _ (e.put v hf) (s.new u))⟩
/-- Ahead of the tail or in it: a part that nothing hoisted looks at is turned. -/
theorem rk_m {i : Nat} {oi : Oper} (p : Nat) {h : PH} {T : Value → PH → Prop} (hi : ops[i]? = some oi) (hb : HK[p]? = some emp) (hw : wantK ops K oi.guard = some true) (hp : HS[p]? = some h) (hx : StepX P n w0 K HS oi h T) (hf : fitsK n oi.dst = true)
    (k : ∀ v h', T v h' → RK P n w0 ops m Q r (listed.setIfInBounds i true) (putK oi.dst v K) (HS.set p h') HK) : RK P n w0 ops m Q ((i, false) :: r) listed K HS HK :=
  rk_only hi fun h1 h2 _ h4 h5 hwk a w e s => by
    unfold wpOp
    simp only [hi]; rw [if_pos (e.wanted hw)]; refine .inl (Oper.wp_imp (hx a w e s) (fun a' w' ⟨v, h', ha, u, ht⟩ => ?_) (fun _ _ _ f => f.elim)); subst ha; have hwk' : WkL (HS.set p h') HK := hwk.set hb; exact ⟨fun _ => hwk'.sat (s.upd hp u), k v h' ht hwk' (fun i' s' r' e' hlt => h5 (h1 i' s' r' e' hlt)) h2 h4 _ _ (e.put v hf) (s.upd hp u)⟩
end
end Go.Proofs.YthlmjnihihbckaaGreat
namespace Go.Proofs.YthlmjnihihbckaaGreat
set_option maxRecDepth 100000
open Go.RowKit
structure Stp where
  a : Int
  b : Int
def stepCells (ss : List Stp) : List Value := ss.flatMap fun s => [num s.a, num s.b]
theorem stepCells_at : ∀ {ss : List Stp} {i : Nat} {s : Stp}, ss[i]? = some s → ((stepCells ss).drop (i * 2)).take 2 = [num s.a, num s.b]
  | [], i, s, h => by simp at h
  | u :: r, 0, s, h => by cases h; rfl
  | u :: r, i + 1, s, h => by
    have ih := stepCells_at (ss := r) (i := i) (s := s) (by simpa using h); rw [show (i + 1) * 2 = i * 2 + 1 + 1 by omega]; exact ih
def StepsR (ss : List Stp) (v : Value) (h : PH) : Prop := RowR (stepCells ss) ss.length 2 v h
def StepsO (ss : List Stp) (v : Value) (h : PH) : Prop := RowO 191 (stepCells ss) ss.length 2 v h
theorem StepsR.mono {ss : List Stp} {v : Value} {h h' : PH} (r : StepsR ss v h) (l : PLe h h') : StepsR ss v h' := RowR.mono r l
theorem StepsO.toR {ss : List Stp} {v : Value} {h : PH} (r : StepsO ss v h) : StepsR ss v h := RowO.toR r
theorem StepsR.sl {ss : List Stp} {v : Value} {h : PH} (r : StepsR ss v h) : SlL v ss.length := RowR.sl r
theorem StepsR.le {ss : List Stp} {v : Value} {h : PH} (r : StepsR ss v h) : (ss.length : Int) ≤ 9223372036854775807 := by
  obtain ⟨_, a, c, _, ⟨h, _⟩, _⟩ := r
  unfold maxLen at h
  omega
theorem StepsR.at {ss : List Stp} {v : Value} {h : PH} (r : StepsR ss v h) : ∃ cells, RowR cells ss.length 2 v h ∧ ∀ i, i < ss.length → ∃ x, ss[i]? = some x ∧ (cells.drop (i * 2)).take 2 = [num x.a, num x.b] :=
  ⟨_, r, fun _ hi => ⟨_, List.getElem?_eq_getElem hi, stepCells_at (List.getElem?_eq_getElem hi)⟩⟩
theorem StepsO.nil : StepsO [] (.slice none 0 0) emp := ⟨rfl, .inl ⟨rfl, rfl, rfl⟩⟩
section
variable {P : Program} {n : Nat} {w0 : World} {K : Env} {HS : List PH} {d : Option Tmp} {ty : TypeId} {ps : String} {af : Array Edge} {g : Option (Nat × Bool)}
end
structure Lv where
  n : Int
  l : List Int
def LvR (x : Lv) (cs : List Value) (h : PH) : Prop := ∃ v, cs = [num x.n, v] ∧ IntsR x.l v h
theorem LvR.mono {x : Lv} {cs : List Value} {h h' : PH} (r : LvR x cs h) (l : PLe h h') : LvR x cs h' := let ⟨v, e, r⟩ := r; ⟨v, e, r.mono l⟩
def LiveR (xs : List Lv) (v : Value) (h : PH) : Prop := RowsR 2 LvR xs v h
theorem LiveR.mono {xs : List Lv} {v : Value} {h h' : PH} (r : LiveR xs v h) (l : PLe h h') : LiveR xs v h' := RowsR.mono (R := LvR) LvR.mono r l
theorem LiveR.sl {xs : List Lv} {v : Value} {h : PH} (r : LiveR xs v h) : SlL v xs.length := RowsR.sl r
theorem LiveR.le {xs : List Lv} {v : Value} {h : PH} (r : LiveR xs v h) : (xs.length : Int) ≤ 9223372036854775807 := RowsR.le r
theorem LiveR.at {xs : List Lv} {v : Value} {h : PH} (r : LiveR xs v h) : ∃ cells, RowR cells xs.length 2 v h ∧ ∀ i, i < xs.length → ∃ x a, xs[i]? = some x ∧ (cells.drop (i * 2)).take 2 = [num x.n, a] ∧ IntsR x.l a h := by
  obtain ⟨cells, rr, hc⟩ := r; refine ⟨cells, rr, fun i hi => ?_⟩; have ht : xs[i]? = some xs[i] := List.getElem?_eq_getElem hi; obtain ⟨a, e, r1⟩ := hc i _ ht; exact ⟨_, a, ht, e, r1⟩
/-- The elements' cells, read in h. -/
def LvL (xs : List Lv) (cs : List Value) (h : PH) : Prop := cs.length = xs.length * 2 ∧ ∀ (i : Nat) (x : Lv), xs[i]? = some x → LvR x ((cs.drop (i * 2)).take 2) h
theorem LvL.nil (h : PH) : LvL [] [] h := ⟨rfl, fun i x e => by simp at e⟩
theorem LvL.mono {xs : List Lv} {cs : List Value} {h h' : PH} (r : LvL xs cs h) (l : PLe h h') : LvL xs cs h' := ⟨r.1, fun i x e => (r.2 i x e).mono l⟩
theorem LvL.snoc {xs : List Lv} {cs : List Value} {h : PH} (r : LvL xs cs h) {x : Lv} {a : Value} (r1 : IntsR x.l a h) : LvL (xs ++ [x]) (cs ++ [num x.n, a]) h := by
  refine ⟨by simp [r.1]; omega, fun i y e => ?_⟩
  by_cases hi : i < xs.length
  · rw [List.getElem?_append_left hi] at e; have := r.2 i y e; have e2 : ((cs ++ [num x.n, a]).drop (i * 2)).take 2 = (cs.drop (i * 2)).take 2 := by
      rw [List.drop_append, List.take_append]; have hl : 2 - (cs.drop (i * 2)).length = 0 := by simp [r.1]; omega
      rw [hl, List.take_zero, List.append_nil]
    rw [e2]; exact this
  · have hlt := (List.getElem?_eq_some_iff.1 e).1
    simp at hlt
    have : i = xs.length := by omega
    subst this; rw [List.getElem?_append_right (by omega)] at e
    simp at e
    subst e; have e2 : ((cs ++ [num x.n, a]).drop (xs.length * 2)).take 2 = [num x.n, a] := by
      rw [← r.1, List.drop_left]; rfl
    rw [e2]; exact ⟨a, rfl, r1⟩
theorem LvL.live {xs : List Lv} {cs : List Value} {v : Value} {h : PH} (r : LvL xs cs h) (rr : RowR cs xs.length 2 v h) : LiveR xs v h := ⟨cs, rr, r.2⟩
def joinI (a b : List Int) : List Int := a ++ b.filter fun x => decide (x ∉ a)
structure Sh where
  all : List (List Int)
  gone : List Bool
def Sh.lab (s : Sh) (i : Nat) : List Int := s.all.getD i []
def Sh.ok (s : Sh) : Prop := s.gone.length = s.all.length
def Sh.live (s : Sh) (a : Int) : Prop := 0 ≤ a ∧ a < s.all.length ∧ s.gone.getD a.toNat false = false
def Sh.ixs (s : Sh) : List Nat := (List.range s.all.length).filter fun i => !s.gone.getD i false
def Sh.lv (s : Sh) : List Lv := s.ixs.map fun (i : Nat) => ⟨i, s.lab i⟩
def Sh.kept (op : List Int) (s : Sh) (a b : Nat) (x : Int) : Prop := x ∈ op ∨ ∃ i ∈ s.ixs, i ≠ a ∧ i ≠ b ∧ x ∈ s.lab i
open Classical in
noncomputable def Sh.res (op : List Int) (s : Sh) (a b : Nat) : List Int := (joinI (s.lab a) (s.lab b)).filter fun x => decide (s.kept op a b x)
noncomputable def Sh.step (op : List Int) (s : Sh) (a b : Nat) : Sh := ⟨s.all ++ [s.res op a b], ((s.gone.set a true).set b true) ++ [false]⟩
theorem Sh.step_ok {op : List Int} {s : Sh} (h : s.ok) (a b : Nat) : (s.step op a b).ok := by simp only [Sh.ok, Sh.step, List.length_append, List.length_set] at *; simp [h]
theorem ixs_nodup (s : Sh) : s.ixs.Nodup := List.Pairwise.filter _ List.nodup_range
theorem mem_ixs {s : Sh} {i : Nat} : i ∈ s.ixs ↔ i < s.all.length ∧ s.gone.getD i false = false := by simp [Sh.ixs]
theorem live_ixs {s : Sh} {a : Int} : s.live a ↔ 0 ≤ a ∧ a.toNat ∈ s.ixs := by
  rw [mem_ixs]
  unfold Sh.live
  constructor
  · rintro ⟨h1, h2, h3⟩; exact ⟨h1, by omega, h3⟩
  · rintro ⟨h1, h2, h3⟩; exact ⟨h1, by omega, h3⟩
/-- The place of a number among what is live. -/
def Sh.place (s : Sh) (a : Int) : Int := findI (s.ixs.map Int.ofNat) a
theorem getD_append_left {α : Type} {l r : List α} {i : Nat} {d : α} (h : i < l.length) : (l ++ r).getD i d = l.getD i d := by simp [List.getD, List.getElem?_append_left h]
theorem step_ixs {op : List Int} {s : Sh} (h : s.ok) {a b : Nat} : (s.step op a b).ixs = (s.ixs.filter fun i => decide (i ≠ a ∧ i ≠ b)) ++ [s.all.length] := by
  have hl : (s.step op a b).all.length = s.all.length + 1 := by simp [Sh.step]
  have hg : (s.step op a b).gone.getD s.all.length false = false := by
    have : ((s.gone.set a true).set b true).length = s.all.length := by simpa [Sh.ok] using h
    simp only [Sh.step, List.getD]; rw [List.getElem?_append_right (by omega), this]
    simp
  unfold Sh.ixs
  rw [hl, List.range_succ, List.filter_append, List.filter_filter]
  congr 1
  · apply List.filter_congr
    intro i hi; have hi' : i < s.all.length := by simpa using hi
    have e : (s.step op a b).gone.getD i false = if i = a ∨ i = b then true else s.gone.getD i false := by
      have hlen : i < s.gone.length := by rw [h]; exact hi'
      rw [Sh.step, getD_append_left (by simpa using hlen)]; simp only [List.getD, List.getElem?_set, List.length_set]
      by_cases e1 : b = i
      · subst e1; simp [hlen]
      · by_cases e2 : a = i
        · subst e2; simp [hlen, e1]
        · simp [e1, e2, Ne.symm e1, Ne.symm e2]
    rw [e]
    by_cases hc : i = a ∨ i = b
    · rw [if_pos hc]; rcases hc with rfl | rfl <;> simp
    · rw [if_neg hc]; have : i ≠ a ∧ i ≠ b := ⟨fun e => hc (.inl e), fun e => hc (.inr e)⟩
      simp [this]
  · rw [List.filter_cons_of_pos (by rw [hg]; rfl)]; rfl
theorem step_lab {op : List Int} {s : Sh} {a b i : Nat} (hi : i < s.all.length) : (s.step op a b).lab i = s.lab i := by rw [Sh.lab, Sh.step, getD_append_left hi]; rfl
theorem step_lab_new {op : List Int} {s : Sh} {a b : Nat} : (s.step op a b).lab s.all.length = s.res op a b := by simp [Sh.lab, Sh.step, List.getD]
end Go.Proofs.YthlmjnihihbckaaGreat
namespace Go.Proofs.YthlmjnihihbckaaGreat
set_option maxRecDepth 100000
open Go.RowKit
abbrev stCells (arr : List Int) (vo lvv : Value) (nx : Int) : List Value := ints arr ++ [vo, lvv, num nx]
section
variable {P : Program} {n : Nat} {w0 : World} {K : Env} {HS : List PH} {d : Option Tmp} {ty : TypeId} {ps : String} {af : Array Edge} {g : Option (Nat × Bool)}
end
/-- The state as it is read. -/
structure StR (arr : List Int) (vo lvv : Value) (s : Sh) (b : Nat) (h : PH) : Prop where
  len : arr.length = 100
  ok : s.ok
  cells : ∀ (j : Nat) (u : Value), (stCells arr vo lvv s.all.length)[j]? = some u → cellP h b j = some u
  live : LiveR s.lv lvv h
theorem StR.mono {arr : List Int} {vo lvv : Value} {s : Sh} {b : Nat} {h h' : PH} (r : StR arr vo lvv s b h) (l : PLe h h') : StR arr vo lvv s b h' := ⟨r.len, r.ok, fun j u e => cellP.mono l (r.cells j u e), r.live.mono l⟩
theorem StR.arr {arr : List Int} {vo lvv : Value} {s : Sh} {b : Nat} {h : PH} (r : StR arr vo lvv s b h) : (ints arr).length = 100 ∧ ∀ (j : Nat) (u : Value), (ints arr)[j]? = some u → cellP h b (0 + 0 + j) = some u :=
  ⟨by rw [ints_length]; exact r.len, fun j u e => by
    rw [show 0 + 0 + j = j by omega]; refine r.cells j u ?_; rw [List.getElem?_append_left (List.getElem?_eq_some_iff.1 e).1]; exact e⟩
/-- The state that a call has for its own; 'hs' is what its slices lie in. -/
def StO (arr : List Int) (vo : Value) (s : Sh) (b : Nat) (h : PH) : Prop := arr.length = 100 ∧ s.ok ∧ ∃ lvv hs, LiveR s.lv lvv hs ∧ Made h [box b (stCells arr vo lvv s.all.length) 236, hs]
theorem StR.box {arr : List Int} {vo lvv : Value} {s : Sh} {b : Nat} {h : PH} (hl : arr.length = 100) (hok : s.ok) (hb : PLe (box b (stCells arr vo lvv s.all.length) 236) h) (r : LiveR s.lv lvv h) : StR arr vo lvv s b h :=
  ⟨hl, hok, fun j u e => cellP.mono hb (by rw [cellP_box]; exact e), r⟩
theorem StO.toR {arr : List Int} {vo : Value} {s : Sh} {b : Nat} {h : PH} (r : StO arr vo s b h) : ∃ lvv, StR arr vo lvv s b h := by
  obtain ⟨h1, h2, lvv, hs, h3, md⟩ := r; exact ⟨lvv, StR.box h1 h2 (md.le _ (by simp)) (h3.mono (md.le hs (by simp)))⟩
end Go.Proofs.YthlmjnihihbckaaGreat
namespace Go.Proofs.YthlmjnihihbckaaGreat
set_option maxRecDepth 100000
open Go.RowKit
theorem filter_yes {xs : List Int} {p : Int → Bool} {i : Nat} (h : i < xs.length) (hp : p (xs.getD i 0) = true) : (xs.take (i + 1)).filter p = (xs.take i).filter p ++ [xs.getD i 0] := by
  rw [take_succ h, List.filter_append, List.filter_cons_of_pos hp]; rfl
theorem filter_no {xs : List Int} {p : Int → Bool} {i : Nat} (h : i < xs.length) (hp : p (xs.getD i 0) = false) : (xs.take (i + 1)).filter p = (xs.take i).filter p := by
  rw [take_succ h, List.filter_append, List.filter_cons_of_neg (by rw [hp]; decide)]; simp
theorem filter_take_len (xs : List Int) (p : Int → Bool) (i : Nat) : ((xs.take i).filter p).length ≤ xs.length := by
  have := List.length_filter_le p (xs.take i); simp only [List.length_take] at this
  omega
theorem ct_i_joinLabels (xs ys : List Int) (v u : Value) (w : World) (r : IntsR xs v (hp w)) (r' : IntsR ys u (hp w)) (hs : xs.length + ys.length ≤ 1000000) :
    Calls Tryz.prog 117 [v, u].toArray w (Ret w emp (IntsO (joinI xs ys))) := by
  refine calls_in Tryz.func117 rfl Tryz.ntmps117 rfl (Sat.start w) ?_; have hle0 := r.le; have hle1 := r'.le; refine wp_sc (wp_sq (sq_v rfl (v_assign rfl) rfl (sq_end (qs_n (wp_sc (wp_sq (sq_v rfl (v_move rfl) rfl ?_))))))); refine sq_x rfl (x_call rfl en_132 (fun w s => ct_i_copyInts _ _ w (r.mono (s.get 0 rfl)) (by first | assumption | omega))) rfl ?_; rintro v9 h9 r9; refine sq_v rfl (v_assign rfl) rfl (sq_end (qs_n (wp_sc (wp_sc (wp_sq (sq_v rfl (v_move rfl) rfl (sq_v rfl (v_len Tryz.underlying25 rfl r'.sl) rfl (sq_v rfl (v_move rfl) rfl (sq_end (qs_n (wp_bl ?_))))))))))); refine wp_lp (σ := Nat × Value × PH) (fun z_ => [(0, v), (4, .slice none 0 0), (5, z_.2.1), (10, u), (11, num ys.length), (12, num z_.1)]) (fun z_ => [z_.2.2, hp w]) (fun z_ => z_.1 ≤ ys.length ∧ IntsO (xs ++ (ys.take z_.1).filter fun x => decide (x ∉ xs)) z_.2.1 z_.2.2) (fun z_ => ys.length - z_.1) (0, v9, h9) (⟨by (try dsimp only); omega, by (try dsimp only); simpa using r9⟩) ⟨rfl, rfl, rfl, rfl, rfl, rfl, trivial⟩ (fun _ s => s) ?_; rintro ⟨i, lv, lh⟩ ⟨hi, q⟩; dsimp only at hi q ⊢; have hle_q := q.toR.le; have hfl := filter_take_len ys (fun x => decide (x ∉ xs)) i; refine wp_sc (wp_sq (sq_v rfl (v_lss rfl rfl) rfl (sq_end (qs_n (wp_sc ?_))))); refine wp_cd rfl (fun c13 => ?_) (fun c13 => ?_)
  · refine wp_sk (qs_n (wp_sc (wp_bl (wp_sc (wp_sq (sq_v rfl (v_idxI Tryz.underlying25 ty_3 rfl rfl r' (by omega) (by omega)) rfl (sq_v rfl (v_loadI (k := i) 1 ty_3 rfl rfl r' (by omega)) rfl (sq_v rfl (v_assign rfl) rfl (sq_end (qs_n (wp_sc (wp_sq (sq_v rfl (v_move rfl) rfl (sq_v rfl (v_move rfl) rfl (sq_u rfl (x_callv rfl en_146 (fun w s => ct_i_hasInt _ _ _ w (r.mono (s.get 1 rfl)))) rfl (sq_v rfl (v_not rfl) rfl (sq_end (qs_n ?_)))))))))))))))))); refine wp_cnd rfl (fun c19 => ?_) (fun c19 => ?_)
    · refine wp_sq (sq_v rfl (v_move rfl) rfl (sq_v rfl (v_move rfl) rfl ?_)); refine sq_x rfl (x_buildS [num (ys.getD i 0)] Tryz.underlying25 ty_3 (by decide) rfl rfl rfl (by decide) (by decide) (by intro v hv; simp at hv; rcases hv with rfl <;> rfl)) rfl ?_; intro v22 h22 (r22 : IntsO [ys.getD i 0] v22 h22); refine sq_m 1 rfl rfl (m_appI 1 0 Tryz.underlying25 ty_3 rfl rfl rfl rfl q rfl r22.toR (by first | omega | (simp; omega) | (simp only [List.length_append, List.length_cons, List.length_nil]; omega) | (rw [List.length_set]; omega))) rfl ?_; intro v23 h_r23 r23; refine sq_v rfl (v_assign rfl) rfl (sq_end (qs_bn (qs_n (wp_sq ?_)))); refine sq_v rfl (v_add rfl rfl ((by unfold I64; omega))) rfl ?_; refine sq_v rfl (v_move rfl) rfl (sq_end ?_); exact qs_bk (i + 1, v23, h_r23) ⟨by (try dsimp only); omega, by (try dsimp only); rw [filter_yes (by omega) (by simpa using c19), ← List.append_assoc]; exact r23⟩ (by simp only; omega) ⟨rfl, rfl, rfl, rfl, rfl, rfl, trivial⟩ (fun _ s => s.pick [1, 2] (by decide) rfl)
    · refine wp_sk (qs_bn (qs_n (wp_sq ?_))); refine sq_v rfl (v_add rfl rfl ((by unfold I64; omega))) rfl ?_; refine sq_v rfl (v_move rfl) rfl (sq_end ?_); exact qs_bk (i + 1, lv, lh) ⟨by (try dsimp only); omega, by (try dsimp only); rw [filter_no (by omega) (by simpa using c19)]; exact q⟩ (by simp only; omega) ⟨rfl, rfl, rfl, rfl, rfl, rfl, trivial⟩ (fun _ s => s)
  · refine wp_ex (qs_x (qs_x (qs_bx (qs_n (wp_sc (wp_sq (sq_v rfl (v_move rfl) rfl (sq_v rfl (v_assign rfl) rfl (sq_end (qs_n (wp_rt ?_))))))))))); exact qs_ret1 rfl rfl (fin_t 0 (i := 1) rfl rfl rfl (by rw [List.take_of_length_le (by omega)] at q; exact q))
theorem joinI_len (xs ys : List Int) : (joinI xs ys).length ≤ xs.length + ys.length := by
  have := List.length_filter_le (fun x => decide (x ∉ xs)) ys; simp only [joinI, List.length_append]
  omega
end Go.Proofs.YthlmjnihihbckaaGreat
namespace Go.Proofs.YthlmjnihihbckaaGreat
set_option maxRecDepth 100000
open Go.RowKit
theorem RowO.nil {e : TypeId} {sz : Nat} : RowO e [] 0 sz (.slice none 0 0) emp := ⟨by simp, .inl ⟨rfl, rfl, rfl⟩⟩
def sh0 (ts : List Ten) : Sh := ⟨ts.map (·.l), List.replicate ts.length false⟩
theorem sh0_ok (ts : List Ten) : (sh0 ts).ok := by simp [Sh.ok, sh0]
theorem sh0_ixs (ts : List Ten) : (sh0 ts).ixs = List.range ts.length := by
  unfold Sh.ixs
  have : (sh0 ts).all.length = ts.length := by simp [sh0]
  rw [this, List.filter_eq_self]; intro i hi; simp only [sh0, List.getD, List.getElem?_replicate]
  split <;> rfl
end Go.Proofs.YthlmjnihihbckaaGreat
namespace Go.Proofs.YthlmjnihihbckaaGreat
set_option maxRecDepth 100000
open Go.RowKit
theorem pigeon : ∀ {l m : List Int}, l.Nodup → (∀ x ∈ l, x ∈ m) → l.length ≤ m.length
  | [], _, _, _ => by simp
  | a :: r, m, hn, hs => by
    have ha := hs a (by simp); have hn' := List.nodup_cons.1 hn; have ih := pigeon (l := r) (m := m.erase a) hn'.2 (fun x hx => (List.mem_erase_of_ne (fun e => hn'.1 (by rw [← e]; exact hx))).2 (hs x (by simp [hx]))); rw [List.length_erase_of_mem ha] at ih; have : 0 < m.length := List.length_pos_of_mem ha; simp only [List.length_cons]
    omega
theorem joinI_nodup {a b : List Int} (ha : a.Nodup) (hb : b.Nodup) : (joinI a b).Nodup := by
  refine List.nodup_append.2 ⟨ha, List.Pairwise.filter _ hb, fun x hx y hy e => ?_⟩; subst e; have := (List.mem_filter.1 hy).2
  simp [hx] at this
theorem mem_joinI {a b : List Int} {x : Int} : x ∈ joinI a b ↔ x ∈ a ∨ x ∈ b := by
  simp only [joinI, List.mem_append, List.mem_filter, decide_eq_true_eq]
  constructor
  · rintro (h | h)
    · exact .inl h
    · exact .inr h.1
  · rintro (h | h)
    · exact .inl h
    · by_cases hx : x ∈ a
      · exact .inl hx
      · exact .inr ⟨h, hx⟩
/-- Each row of labels is without repetition and of labels of the network. -/
def Sh.fine (s : Sh) : Prop := s.ok ∧ ∀ i, (s.lab i).Nodup ∧ ∀ x ∈ s.lab i, 0 ≤ x ∧ x ≤ 99
theorem few_labels {l : List Int} (h : l.Nodup) (h1 : ∀ x ∈ l, 0 ≤ x ∧ x ≤ 99) : l.length ≤ 100 := by
  have := pigeon (m := (List.range 100).map Int.ofNat) h (fun x hx => by
    have := h1 x hx; simp only [List.mem_map, List.mem_range]; exact ⟨x.toNat, by omega, show ((x.toNat : Nat) : Int) = x by omega⟩)
  simpa using this
theorem Sh.fine.few {s : Sh} (h : s.fine) (i : Nat) : (s.lab i).length ≤ 100 := few_labels (h.2 i).1 (h.2 i).2
theorem res_mem {op : List Int} {s : Sh} {a b : Nat} {x : Int} (h : x ∈ s.res op a b) : x ∈ s.lab a ∨ x ∈ s.lab b := mem_joinI.1 (List.mem_filter.1 h).1
theorem Sh.fine.step {s : Sh} (h : s.fine) (op : List Int) (a b : Nat) : (s.step op a b).fine := by
  refine ⟨Sh.step_ok h.1 a b, fun i => ?_⟩
  rcases Nat.lt_trichotomy i s.all.length with hi | hi | hi
  · rw [step_lab hi]; exact h.2 i
  · subst hi; rw [step_lab_new]; refine ⟨List.Pairwise.filter _ (joinI_nodup (h.2 a).1 (h.2 b).1), fun x hx => ?_⟩
    rcases res_mem hx with hx | hx
    · exact (h.2 a).2 x hx
    · exact (h.2 b).2 x hx
  · have : (s.step op a b).lab i = [] := by simp only [Sh.lab, Sh.step, List.getD]; rw [List.getElem?_eq_none (by simp; omega)]; rfl
    rw [this]; exact ⟨List.nodup_nil, fun x hx => by simp at hx⟩
theorem sh0_fine {ts : List Ten} (h : ∀ t ∈ ts, axesL t.l t.d) : (sh0 ts).fine := by
  refine ⟨sh0_ok ts, fun i => ?_⟩
  by_cases hi : i < ts.length
  · have : (sh0 ts).lab i = ts[i].l := by simp [Sh.lab, sh0, List.getD, hi]
    rw [this]; have hax := h ts[i] (List.getElem_mem hi); exact ⟨axes_nodup hax, fun x hx => by obtain ⟨j, hj, e⟩ := getD_of_mem hx; have := (hax.2.2 j hj).1; rw [e] at this; exact this⟩
  · have : (sh0 ts).lab i = [] := by simp [Sh.lab, sh0, List.getD, Nat.le_of_not_lt hi]
    rw [this]; exact ⟨List.nodup_nil, fun x hx => by simp at hx⟩
/-- The state behind some steps. -/
noncomputable def shTo (op : List Int) (s : Sh) (ss : List Stp) : Sh := ss.foldl (fun s x => s.step op x.a.toNat x.b.toNat) s
theorem shTo_step {op : List Int} {s : Sh} {ss : List Stp} {i : Nat} {x : Stp} (h : ss[i]? = some x) : shTo op s (ss.take (i + 1)) = (shTo op s (ss.take i)).step op x.a.toNat x.b.toNat := by
  obtain ⟨hi, e⟩ := List.getElem?_eq_some_iff.1 h; rw [List.take_succ_eq_append_getElem hi, e, shTo, List.foldl_append]; rfl
theorem shTo_fine {op : List Int} {s : Sh} (h : s.fine) : ∀ ss, (shTo op s ss).fine
  | [] => h
  | x :: r => shTo_fine (h.step op x.a.toNat x.b.toNat) r
theorem shTo_all {op : List Int} : ∀ {s : Sh} {ss : List Stp}, (shTo op s ss).all.length = s.all.length + ss.length
  | s, [] => by simp [shTo]
  | s, x :: r => by
    have := shTo_all (op := op) (s := s.step op x.a.toNat x.b.toNat) (ss := r)
    show (shTo op (s.step op x.a.toNat x.b.toNat) r).all.length = _
    rw [this]
    simp [Sh.step]; omega
def stepOk (s : Sh) (x : Stp) : Prop := s.live x.a ∧ s.live x.b ∧ x.a < x.b
def okSteps (op : List Int) (s : Sh) (ss : List Stp) : Prop := ∀ i, i < ss.length → ∀ x, ss[i]? = some x → stepOk (shTo op s (ss.take i)) x
def orderL (k p n : Int) (ts : List Ten) (op : List Int) (ss : List Stp) : Prop := netL k p n ts op ∧ ss.length = ts.length - 1 ∧ okSteps op (sh0 ts) ss
end Go.Proofs.YthlmjnihihbckaaGreat
namespace Go.Proofs.YthlmjnihihbckaaGreat
set_option maxRecDepth 100000
open Go.RowKit
/-- Of the numbers ds those whose label fits p. -/
def selP (p : Int → Bool) : List Int → List Int → List Int
  | l :: ls, d :: ds => if p l then d :: selP p ls ds else selP p ls ds
  | _, _ => []
theorem selP_append (p : Int → Bool) : ∀ {ls ds ls' ds' : List Int}, ls.length = ds.length → selP p (ls ++ ls') (ds ++ ds') = selP p ls ds ++ selP p ls' ds'
  | [], [], _, _, _ => rfl
  | [], d :: ds, _, _, h => by simp at h
  | l :: ls, [], _, _, h => by simp at h
  | l :: ls, d :: ds, ls', ds', h => by
    have ih := selP_append p (ls := ls) (ds := ds) (ls' := ls') (ds' := ds') (by simpa using h); simp only [List.cons_append, selP, ih]
    split <;> simp
theorem selP_map (p : Int → Bool) (f : Int → Int) : ∀ ls : List Int, selP p ls (ls.map f) = (ls.filter p).map f
  | [] => rfl
  | l :: ls => by
    have ih := selP_map p f ls; simp only [List.map_cons, selP, List.filter_cons, ih]
    split <;> simp
theorem selP_len (p : Int → Bool) : ∀ ls ds : List Int, (selP p ls ds).length ≤ ls.length
  | [], ds => by cases ds <;> simp [selP]
  | l :: ls, [] => by simp [selP]
  | l :: ls, d :: ds => by
    have := selP_len p ls ds; simp only [selP]
    split <;> simp <;> omega
theorem selP_eqlen (p : Int → Bool) : ∀ {ls ds : List Int}, ls.length = ds.length → (selP p ls ds).length = (ls.filter p).length
  | [], [], _ => rfl
  | [], d :: ds, h => by simp at h
  | l :: ls, [], h => by simp at h
  | l :: ls, d :: ds, h => by
    have := selP_eqlen p (ls := ls) (ds := ds) (by simpa using h); simp only [selP, List.filter_cons]
    split <;> simp [this]
theorem selP_yes {p : Int → Bool} {ls ds : List Int} {i : Nat} (hl : ls.length = ds.length) (h : i < ls.length) (hp : p (ls.getD i 0) = true) : selP p (ls.take (i + 1)) (ds.take (i + 1)) = selP p (ls.take i) (ds.take i) ++ [ds.getD i 0] := by
  rw [take_succ h, take_succ (xs := ds) (by omega), selP_append p (by simp; omega)]; simp only [selP, hp, if_true]
theorem selP_no {p : Int → Bool} {ls ds : List Int} {i : Nat} (hl : ls.length = ds.length) (h : i < ls.length) (hp : p (ls.getD i 0) = false) : selP p (ls.take (i + 1)) (ds.take (i + 1)) = selP p (ls.take i) (ds.take i) := by
  rw [take_succ h, take_succ (xs := ds) (by omega), selP_append p (by simp; omega)]; simp only [selP, hp, Bool.false_eq_true, if_false, List.append_nil]
def joinD (a b : Ten) : List Int := a.d ++ selP (fun x => decide (x ∉ a.l)) b.l b.d
/-- A label of both has two dimensions. -/
def mism (a b : Ten) : Prop := ∃ i, i < b.l.length ∧ b.l.getD i 0 ∈ a.l ∧ a.d.getD (findI a.l (b.l.getD i 0)).toNat 0 ≠ b.d.getD i 0
def JoinR (a b : Ten) (u : Value) (h : PH) : Prop :=
  (mism a b → u = .tuple [.slice none 0 0, .slice none 0 0, .bool false].toArray) ∧ (¬ mism a b → ∃ v1 v2, u = .tuple [v1, v2, .bool true].toArray ∧ IntsR (joinI a.l b.l) v1 h ∧ IntsR (joinD a b) v2 h)
theorem findI_app {xs ys : List Int} {x : Int} (h : x ∈ xs) : findI (xs ++ ys) x = findI xs x := by
  have hg := findI_get h; have hf : findI xs x = ((findI xs x).toNat : Nat) := by have := findI_ge.2 h; omega
  rw [hf]; refine idx_first (fun j hj => ?_) (by simp; omega) (by simp only [List.getD]; rw [List.getElem?_append_left hg.1]; exact hg.2); intro e; simp only [List.getD] at e; rw [List.getElem?_append_left (by omega)] at e; have h1 := idx_first (xs := xs) (n := x) (i := j); have hj' : j < xs.idxOf x := by
    have : (findI xs x).toNat = xs.idxOf x := by simp [findI, h]
    omega
  have := List.not_of_lt_findIdx (xs := xs) (p := fun a => a == x) (i := j) hj'; have hlt : j < xs.length := by omega
  simp only [List.getElem?_eq_getElem hlt, Option.getD_some] at e
  simp [e] at this
theorem nodup_not_take {xs : List Int} (h : xs.Nodup) {i : Nat} (hi : i < xs.length) : xs.getD i 0 ∉ xs.take i := by
  intro hm; obtain ⟨j, hj, e⟩ := getD_of_mem hm; simp only [List.length_take] at hj; have e2 : (xs.take i).getD j 0 = xs.getD j 0 := by simp only [List.getD, List.getElem?_take]; rw [if_pos (by omega)]
  rw [e2] at e; have h1 : j < xs.length := by omega
  simp only [List.getD, List.getElem?_eq_getElem h1, List.getElem?_eq_getElem hi, Option.getD_some] at e; have := (List.getElem_inj h).1 e
  omega
theorem ct_s_l08Join (t u : Ten) (a b c a' b' c' : Value) (w : World) (r1 : IntsR t.l a (hp w)) (r2 : IntsR t.d b (hp w)) (r3 : IntsR u.l a' (hp w)) (r4 : IntsR u.d b' (hp w)) (ht : t.l.length = t.d.length) (hu : u.l.length = u.d.length) (hn : u.l.Nodup) (hs : t.l.length + u.l.length ≤ 1000000) :
    Calls Tryz.prog 155 [tenV a b c, tenV a' b' c'].toArray w (Ret w emp (JoinR t u)) := by
  refine calls_in Tryz.func155 rfl Tryz.ntmps155 rfl (Sat.start w) ?_; have hle0 := r1.le; have hle1 := r2.le; have hle2 := r3.le; have hle3 := r4.le; refine wp_sc (wp_sq ?_); refine sq_x rfl (x_box rfl rfl) rfl ?_; rintro _ _ ⟨b2, rfl, rfl⟩; refine sq_x rfl (x_box rfl rfl) rfl ?_; rintro _ _ ⟨b3, rfl, rfl⟩; refine sq_v rfl (v_assign rfl) rfl (sq_v rfl (v_assign rfl) rfl (sq_v rfl (v_assign rfl) rfl (sq_end (qs_n (wp_sc (wp_sq (sq_v rfl (v_fieldAddr fd_34_0 ty_25 (by decide) rfl) rfl (sq_v rfl (v_loadB 1 ty_25 rfl rfl rfl) rfl ?_)))))))); refine sq_x rfl (x_call rfl en_112 (fun w s => ct_s_l05Ints _ _ w (r1.mono (s.get 2 rfl)) (by first | assumption | omega))) rfl ?_; rintro v14 h14 r14; refine sq_v rfl (v_assign rfl) rfl (sq_end (qs_n (wp_sc (wp_sq (sq_v rfl (v_fieldAddr fd_34_1 ty_25 (by decide) rfl) rfl (sq_v rfl (v_loadB 2 ty_25 rfl rfl rfl) rfl ?_)))))); refine sq_x rfl (x_call rfl en_112 (fun w s => ct_s_l05Ints _ _ w (r2.mono (s.get 3 rfl)) (by first | assumption | omega))) rfl ?_; rintro v17 h17 r17; refine sq_v rfl (v_assign rfl) rfl (sq_end (qs_n (wp_sc (wp_sc (wp_sq (sq_v rfl (v_fieldAddr fd_34_0 ty_25 (by decide) rfl) rfl (sq_v rfl (v_loadB 2 ty_25 rfl rfl rfl) rfl (sq_v rfl (v_len Tryz.underlying25 rfl r3.sl) rfl (sq_v rfl (v_move rfl) rfl (sq_end (qs_n (wp_bl ?_)))))))))))); refine wp_lp (σ := Nat × Value × PH × Value × PH) (fun z_ => [(3, .pointer (some ⟨b3, 0, none⟩)), (4, .slice none 0 0), (5, .slice none 0 0), (6, .bool false), (7, z_.2.1), (8, z_.2.2.2.1), (19, a'), (20, num u.l.length), (21, num z_.1)]) (fun z_ => [z_.2.2.1, z_.2.2.2.2, box b3 [a', b', c'] 34, box b2 [a, b, c] 34, hp w]) (fun z_ => z_.1 ≤ u.l.length ∧ (∀ j, j < z_.1 → ¬ (u.l.getD j 0 ∈ t.l ∧ t.d.getD (findI t.l (u.l.getD j 0)).toNat 0 ≠ u.d.getD j 0)) ∧ IntsO (t.l ++ (u.l.take z_.1).filter fun x => decide (x ∉ t.l)) z_.2.1 z_.2.2.1 ∧ IntsO (t.d ++ selP (fun x => decide (x ∉ t.l)) (u.l.take z_.1) (u.d.take z_.1)) z_.2.2.2.1 z_.2.2.2.2) (fun z_ => u.l.length - z_.1) (0, v14, h14, v17, h17) (⟨by (try dsimp only); omega, fun j hj => by omega, by (try dsimp only); simpa using r14, by (try dsimp only); simpa [selP] using r17⟩) ⟨rfl, rfl, rfl, rfl, rfl, rfl, rfl, rfl, rfl, trivial⟩ (fun _ s => s.pick [1, 0, 2, 3, 4] (by decide) rfl) ?_; rintro ⟨i, v1, h1, v2, h2⟩ ⟨hi, hm, q1, q2⟩; dsimp only at hi hm q1 q2 ⊢; have hle_q1 := q1.toR.le; have hle_q2 := q2.toR.le; have hfl := filter_take_len u.l (fun x => decide (x ∉ t.l)) i; have hsl := selP_len (fun x => decide (x ∉ t.l)) (u.l.take i) (u.d.take i); rw [List.length_take] at hsl; have hff : ∀ x ∈ (u.l.take i).filter (fun x => decide (x ∉ t.l)), x ∈ u.l.take i := fun x hx => (List.mem_filter.1 hx).1; have hse := selP_eqlen (fun x => decide (x ∉ t.l)) (ls := u.l.take i) (ds := u.d.take i) (by simp; omega); have hl1 : (t.l ++ (u.l.take i).filter fun x => decide (x ∉ t.l)).length = t.l.length + ((u.l.take i).filter fun x => decide (x ∉ t.l)).length := List.length_append; have hl2 : (t.d ++ selP (fun x => decide (x ∉ t.l)) (u.l.take i) (u.d.take i)).length = t.d.length + (selP (fun x => decide (x ∉ t.l)) (u.l.take i) (u.d.take i)).length := List.length_append; refine wp_sc (wp_sq (sq_v rfl (v_lss rfl rfl) rfl (sq_end (qs_n (wp_sc ?_))))); refine wp_cd rfl (fun c22 => ?_) (fun c22 => ?_)
  · refine wp_sk (qs_n (wp_sc (wp_bl (wp_sc (wp_sq (sq_v rfl (v_move rfl) rfl (sq_v rfl (v_idxI Tryz.underlying25 ty_3 rfl rfl r3 (by omega) (by omega)) rfl (sq_v rfl (v_loadI (k := i) 4 ty_3 rfl rfl r3 (by omega)) rfl (sq_v rfl (v_assign rfl) rfl (sq_v rfl (v_assign rfl) rfl (sq_end (qs_n (wp_sc (wp_sq (sq_v rfl (v_move rfl) rfl (sq_v rfl (v_move rfl) rfl (sq_u rfl (x_callv rfl en_191 (fun w s => ct_s_l05Find _ _ _ w (q1.toR.mono (s.get 0 rfl)))) rfl (sq_v rfl (v_assign rfl) rfl (sq_end ?_))))))))))))))))))); have hx := nodup_not_take hn (i := i) (by omega); have hfr := findI_range (t.l ++ (u.l.take i).filter fun x => decide (x ∉ t.l)) (u.l.getD i 0); have hmem : 0 ≤ findI (t.l ++ (u.l.take i).filter fun x => decide (x ∉ t.l)) (u.l.getD i 0) ↔ u.l.getD i 0 ∈ t.l := by rw [findI_ge, List.mem_append]; exact ⟨fun h => h.resolve_right (fun h => hx (hff _ h)), .inl⟩
    have hgt : u.l.getD i 0 ∈ t.l → (t.d ++ selP (fun x => decide (x ∉ t.l)) (u.l.take i) (u.d.take i)).getD (findI (t.l ++ (u.l.take i).filter fun x => decide (x ∉ t.l)) (u.l.getD i 0)).toNat 0 = t.d.getD (findI t.l (u.l.getD i 0)).toNat 0 := fun h => by rw [findI_app h]; have := (findI_get h).1; exact getD_append_left (by omega)
    refine qs_n (wp_sc (wp_sc (wp_rj 14 [(0, true), (1, true), (2, true), (3, true), (4, true), (5, true), (6, true), (7, true), (8, true), (9, true), (10, true), (11, true), (12, true), (13, true)] mixed_ok (by kernel_rfl) (rj_v rfl rfl (v_move rfl) rfl (rj_v rfl rfl (v_geq rfl rfl) rfl ?_))))); refine rj_bd 30 rfl (fun c30 => ?_) (fun c30 => ?_)
    · refine rj_v rfl rfl (v_move rfl) rfl (rj_v rfl rfl (v_move rfl) rfl (rj_v rfl rfl (v_move rfl) rfl (rj_v rfl rfl (v_idxI Tryz.underlying25 ty_3 rfl rfl q2.toR (by omega) (by omega)) rfl (rj_v rfl rfl (v_loadI  1 ty_3 rfl rfl q2.toR (by omega)) rfl (rj_v rfl rfl (v_fieldAddr fd_34_1 ty_25 (by decide) rfl) rfl (rj_v rfl rfl (v_loadB 2 ty_25 rfl rfl rfl) rfl (rj_v rfl rfl (v_move rfl) rfl (rj_v rfl rfl (v_idxI Tryz.underlying25 ty_3 rfl rfl r4 (by omega) (by omega)) rfl (rj_v rfl rfl (v_loadI (k := i) 4 ty_3 rfl rfl r4 (by omega)) rfl ?_))))))))); refine rj_v rfl rfl (v_neq rfl rfl) rfl (rj_v rfl rfl (v_pickt rfl rfl) rfl (rj_end (qs_n ?_))); refine wp_cd rfl (fun c42 => ?_) (fun c42 => ?_)
      · refine wp_sc (wp_sq (sq_v rfl (v_assign rfl) rfl (sq_v rfl (v_assign rfl) rfl (sq_v rfl (v_assign rfl) rfl (sq_end (qs_n (wp_rt (qs_r (qs_br (qs_r (qs_r (qs_br (qs_r ?_))))))))))))); exact qs_ret3 rfl rfl rfl rfl (fin_e (i := 4) rfl (⟨fun _ => rfl, fun h => absurd ⟨i, by omega, hmem.1 c30, by rw [← hgt (hmem.1 c30)]; exact c42⟩ h⟩))
      · refine wp_sk (qs_n (wp_sc (wp_sq (sq_v rfl (v_move rfl) rfl (sq_v rfl (v_lss rfl rfl) rfl (sq_end (qs_n ?_))))))); refine wp_cd rfl (fun c44 => ?_) (fun c44 => ?_)
        · refine wp_sc (wp_sq (sq_v rfl (v_move rfl) rfl (sq_v rfl (v_move rfl) rfl ?_))); refine sq_x rfl (x_buildS [num (u.l.getD i 0)] Tryz.underlying25 ty_3 (by decide) rfl rfl rfl (by decide) (by decide) (by intro v hv; simp at hv; rcases hv with rfl <;> rfl)) rfl ?_; intro v47 h47 (r47 : IntsO [u.l.getD i 0] v47 h47); refine sq_m 1 rfl rfl (m_appI 1 0 Tryz.underlying25 ty_3 rfl rfl rfl rfl q1 rfl r47.toR (by omega)) rfl ?_; intro v48 h_r48 r48; refine sq_v rfl (v_assign rfl) rfl (sq_end (qs_n (wp_sq (sq_v rfl (v_move rfl) rfl (sq_v rfl (v_fieldAddr fd_34_1 ty_25 (by decide) rfl) rfl (sq_v rfl (v_loadB 3 ty_25 rfl rfl rfl) rfl (sq_v rfl (v_move rfl) rfl (sq_v rfl (v_idxI Tryz.underlying25 ty_3 rfl rfl r4 (by omega) (by omega)) rfl (sq_v rfl (v_loadI (k := i) 5 ty_3 rfl rfl r4 (by omega)) rfl ?_))))))))); refine sq_x rfl (x_buildS [num (u.d.getD i 0)] Tryz.underlying25 ty_3 (by decide) rfl rfl rfl (by decide) (by decide) (by intro v hv; simp at hv; rcases hv with rfl <;> rfl)) rfl ?_; intro v55 h55 (r55 : IntsO [u.d.getD i 0] v55 h55); refine sq_m 3 rfl rfl (m_appI 3 0 Tryz.underlying25 ty_3 rfl rfl rfl rfl q2 rfl r55.toR (by omega)) rfl ?_; intro v56 h_r56 r56; refine sq_v rfl (v_assign rfl) rfl (sq_end (qs_bn (qs_n (wp_sq ?_)))); refine sq_v rfl (v_add rfl rfl ((by unfold I64; omega))) rfl ?_; refine sq_v rfl (v_move rfl) rfl (sq_end ?_)
          exfalso; omega
        · refine wp_sk (qs_bn (qs_n (wp_sq ?_))); refine sq_v rfl (v_add rfl rfl ((by unfold I64; omega))) rfl ?_; refine sq_v rfl (v_move rfl) rfl (sq_end ?_); exact qs_bk (i + 1, v1, h1, v2, h2) ⟨by (try dsimp only); omega, step_all hm (fun h => h.2 (by rw [← hgt h.1]; omega)), by (try dsimp only); rw [filter_no (by omega) (by simpa using hmem.1 c30)]; exact q1, by (try dsimp only); rw [selP_no hu (by omega) (by simpa using hmem.1 c30)]; exact q2⟩ (by simp only; omega) ⟨rfl, rfl, rfl, rfl, rfl, rfl, rfl, rfl, rfl, trivial⟩ (fun _ s => s)
    · refine rj_v rfl rfl (v_move rfl) rfl (rj_s rfl rfl rfl (rj_s rfl rfl rfl (rj_s rfl rfl rfl (rj_s rfl rfl rfl (rj_s rfl rfl rfl (rj_s rfl rfl rfl (rj_s rfl rfl rfl (rj_s rfl rfl rfl (rj_s rfl rfl rfl ?_))))))))); refine rj_s rfl rfl rfl (rj_v rfl rfl (v_pickf rfl rfl) rfl (rj_end (qs_n (wp_cf rfl (wp_sk (qs_n (wp_sc (wp_sq (sq_v rfl (v_move rfl) rfl (sq_v rfl (v_lss rfl rfl) rfl (sq_end (qs_n ?_)))))))))))); refine wp_cd rfl (fun c44 => ?_) (fun c44 => ?_)
      · refine wp_sc (wp_sq (sq_v rfl (v_move rfl) rfl (sq_v rfl (v_move rfl) rfl ?_))); refine sq_x rfl (x_buildS [num (u.l.getD i 0)] Tryz.underlying25 ty_3 (by decide) rfl rfl rfl (by decide) (by decide) (by intro v hv; simp at hv; rcases hv with rfl <;> rfl)) rfl ?_; intro v47 h47 (r47 : IntsO [u.l.getD i 0] v47 h47); refine sq_m 1 rfl rfl (m_appI 1 0 Tryz.underlying25 ty_3 rfl rfl rfl rfl q1 rfl r47.toR (by first | omega | (simp; omega) | (simp only [List.length_append, List.length_cons, List.length_nil]; omega) | (rw [List.length_set]; omega))) rfl ?_; intro v48 h_r48 r48; refine sq_v rfl (v_assign rfl) rfl (sq_end (qs_n (wp_sq (sq_v rfl (v_move rfl) rfl (sq_v rfl (v_fieldAddr fd_34_1 ty_25 (by decide) rfl) rfl (sq_v rfl (v_loadB 3 ty_25 rfl rfl rfl) rfl (sq_v rfl (v_move rfl) rfl (sq_v rfl (v_idxI Tryz.underlying25 ty_3 rfl rfl r4 (by omega) (by omega)) rfl (sq_v rfl (v_loadI (k := i) 5 ty_3 rfl rfl r4 (by omega)) rfl ?_))))))))); refine sq_x rfl (x_buildS [num (u.d.getD i 0)] Tryz.underlying25 ty_3 (by decide) rfl rfl rfl (by decide) (by decide) (by intro v hv; simp at hv; rcases hv with rfl <;> rfl)) rfl ?_; intro v55 h55 (r55 : IntsO [u.d.getD i 0] v55 h55); refine sq_m 3 rfl rfl (m_appI 3 0 Tryz.underlying25 ty_3 rfl rfl rfl rfl q2 rfl r55.toR (by first | omega | (simp; omega) | (simp only [List.length_append, List.length_cons, List.length_nil]; omega) | (rw [List.length_set]; omega))) rfl ?_; intro v56 h_r56 r56; refine sq_v rfl (v_assign rfl) rfl (sq_end (qs_bn (qs_n (wp_sq ?_)))); refine sq_v rfl (v_add rfl rfl ((by unfold I64; omega))) rfl ?_; refine sq_v rfl (v_move rfl) rfl (sq_end ?_); exact qs_bk (i + 1, v48, h_r48, v56, h_r56) ⟨by (try dsimp only); omega, step_all hm (fun h => c30 (hmem.2 h.1)), by (try dsimp only); rw [filter_yes (by omega) (by simpa using fun h => c30 (hmem.2 h)), ← List.append_assoc]; exact r48, by (try dsimp only); rw [selP_yes hu (by omega) (by simpa using fun h => c30 (hmem.2 h)), ← List.append_assoc]; exact r56⟩ (by simp only; omega) ⟨rfl, rfl, rfl, rfl, rfl, rfl, rfl, rfl, rfl, trivial⟩ (fun _ s => s.pick [2, 3, 4, 5, 6] (by decide) rfl)
      · refine wp_sk (qs_bn (qs_n (wp_sq ?_))); refine sq_v rfl (v_add rfl rfl ((by unfold I64; omega))) rfl ?_; refine sq_v rfl (v_move rfl) rfl (sq_end ?_)
        exfalso; omega
  · refine wp_ex (qs_x (qs_x (qs_bx (qs_n (wp_sc (wp_sq (sq_v rfl (v_move rfl) rfl (sq_v rfl (v_move rfl) rfl (sq_v rfl (v_assign rfl) rfl (sq_v rfl (v_assign rfl) rfl (sq_v rfl (v_assign rfl) rfl (sq_end (qs_n (wp_rt ?_)))))))))))))); refine qs_close [hp w] [h1, h2] (fun _ s => s.pick [4, 0, 1] (by decide) rfl) (fun md => ?_); rw [List.take_of_length_le (by omega)] at q1; rw [List.take_of_length_le (by omega), List.take_of_length_le (by omega)] at q2; exact qs_ret3 rfl rfl rfl rfl (fin_t 0 (i := 1) rfl rfl rfl ⟨fun ⟨j, hj, hh⟩ => absurd hh (hm j (by omega)), fun _ => ⟨v1, v2, rfl, q1.toR.mono (md.le h1 (by simp)), q2.toR.mono (md.le h2 (by simp))⟩⟩)
theorem joinD_map {t u : Ten} {f : Int → Int} (ht : t.d = t.l.map f) (hu : u.d = u.l.map f) : joinD t u = (joinI t.l u.l).map f := by
  rw [joinD, ht, hu, selP_map, joinI, List.map_append]
theorem mism_not {t u : Ten} {f : Int → Int} (ht : t.d = t.l.map f) (hu : u.d = u.l.map f) : ¬ mism t u := by
  rintro ⟨i, hi, hm, hne⟩; have hg := findI_get hm; rw [ht, hu, map_getD hg.1, map_getD hi, hg.2] at hne; exact hne rfl
/-- Labels and dimensions of which p holds, as a tensor without numbers. -/
def KeepR (ls ds : List Int) (u : Value) (h : PH) : Prop := ∃ a b h1 h2, u = tenV a b (.slice none 0 0) ∧ IntsO ls a h1 ∧ IntsO ds b h2 ∧ Made h [h1, h2]
theorem ct_s_l08Keep (ls ds ks : List Int) (a b c : Value) (w : World) (r1 : IntsR ls a (hp w)) (r2 : IntsR ds b (hp w)) (r3 : IntsR ks c (hp w)) (hl : ls.length = ds.length) (hs : ls.length ≤ 1000000) :
    Calls Tryz.prog 158 [a, b, c].toArray w (Ret w emp (KeepR (ls.filter fun x => decide (x ∈ ks)) (selP (fun x => decide (x ∈ ks)) ls ds))) := by
  refine calls_in Tryz.func158 rfl Tryz.ntmps158 rfl (Sat.start w) ?_; have hle0 := r1.le; have hle1 := r2.le; have hle2 := r3.le; refine wp_sc (wp_sq ?_); refine sq_x rfl (x_alloc ty_34 rfl) rfl ?_; rintro _ _ ⟨b6, rfl, rfl⟩; refine sq_end (qs_n (wp_sc (wp_sq (sq_v rfl (v_build [.slice none 0 0, .slice none 0 0, .slice none 0 0] rfl (by kernel_rfl)) rfl ?_)))); refine sq_x rfl (x_alloc ty_34 rfl) rfl ?_; rintro _ _ ⟨b7, rfl, rfl⟩; refine sq_m 0 rfl rfl (m_store 0 ty_34 rfl rfl rfl rfl (by simp [one_sl]) rfl (Nat.le_of_ble_eq_true rfl)) rfl ?_; rintro _ _ ⟨rfl, rfl⟩; refine sq_end (qs_n (wp_sc (wp_sc (wp_sq (sq_v rfl (v_move rfl) rfl (sq_v rfl (v_len Tryz.underlying25 rfl r1.sl) rfl (sq_v rfl (v_move rfl) rfl (sq_end (qs_n (wp_bl ?_)))))))))); refine wp_lp (σ := Nat × Value × PH × Value × PH) (fun z_ => [(1, b), (2, c), (6, .pointer (some ⟨b6, 0, none⟩)), (7, .pointer (some ⟨b7, 0, none⟩)), (11, a), (12, num ls.length), (13, num z_.1)]) (fun z_ => [z_.2.2.1, z_.2.2.2.2, box b7 [z_.2.1, z_.2.2.2.1, .slice none 0 0] 34, box b6 [.slice none 0 0, .slice none 0 0, .slice none 0 0] 34, hp w]) (fun z_ => z_.1 ≤ ls.length ∧ IntsO ((ls.take z_.1).filter fun x => decide (x ∈ ks)) z_.2.1 z_.2.2.1 ∧ IntsO (selP (fun x => decide (x ∈ ks)) (ls.take z_.1) (ds.take z_.1)) z_.2.2.2.1 z_.2.2.2.2) (fun z_ => ls.length - z_.1) (0, .slice none 0 0, emp, .slice none 0 0, emp) (⟨by (try dsimp only); omega, IntsO.nil, IntsO.nil⟩) ⟨rfl, rfl, rfl, rfl, rfl, rfl, rfl, trivial⟩ (fun _ s => (emp_sat (emp_sat s))) ?_; rintro ⟨i, v1, h1, v2, h2⟩ ⟨hi, q1, q2⟩; dsimp only at hi q1 q2 ⊢; have hle_q1 := q1.toR.le; have hle_q2 := q2.toR.le; have hfl := filter_take_len ls (fun x => decide (x ∈ ks)) i; have hsl := selP_len (fun x => decide (x ∈ ks)) (ls.take i) (ds.take i); rw [List.length_take] at hsl; have hmem := findI_ge (xs := ks) (n := ls.getD i 0); refine wp_sc (wp_sq (sq_v rfl (v_lss rfl rfl) rfl (sq_end (qs_n (wp_sc ?_))))); refine wp_cd rfl (fun c14 => ?_) (fun c14 => ?_)
  · refine wp_sk (qs_n (wp_sc (wp_bl (wp_sc (wp_sq (sq_v rfl (v_move rfl) rfl (sq_v rfl (v_idxI Tryz.underlying25 ty_3 rfl rfl r1 (by omega) (by omega)) rfl (sq_v rfl (v_loadI (k := i) 4 ty_3 rfl rfl r1 (by omega)) rfl (sq_v rfl (v_assign rfl) rfl (sq_v rfl (v_assign rfl) rfl (sq_end (qs_n (wp_sc (wp_sq (sq_v rfl (v_move rfl) rfl (sq_v rfl (v_move rfl) rfl (sq_u rfl (x_callv rfl en_191 (fun w s => ct_s_l05Find _ _ _ w (r3.mono (s.get 4 rfl)))) rfl (sq_v rfl (v_geq rfl rfl) rfl (sq_end (qs_n ?_)))))))))))))))))))); refine wp_cd rfl (fun c21 => ?_) (fun c21 => ?_)
    · refine wp_sc (wp_sq (sq_v rfl (v_fieldAddr fd_34_0 ty_25 (by decide) rfl) rfl (sq_v rfl (v_loadB 2 ty_25 rfl rfl rfl) rfl (sq_v rfl (v_move rfl) rfl ?_)))); refine sq_x rfl (x_buildS [num (ls.getD i 0)] Tryz.underlying25 ty_3 (by decide) rfl rfl rfl (by decide) (by decide) (by intro v hv; simp at hv; rcases hv with rfl <;> rfl)) rfl ?_; intro v25 h25 (r25 : IntsO [ls.getD i 0] v25 h25); refine sq_m 1 rfl rfl (m_appI 1 0 Tryz.underlying25 ty_3 rfl rfl rfl rfl q1 rfl r25.toR (by first | omega | (simp; omega) | (simp only [List.length_append, List.length_cons, List.length_nil]; omega) | (rw [List.length_set]; omega))) rfl ?_; intro v26 h_r26 r26; refine sq_v rfl (v_fieldAddr fd_34_0 ty_25 (by decide) rfl) rfl ?_; refine sq_m 3 rfl rfl (m_store1 3 ty_25 rfl rfl r26.toR.sl.one rfl (Nat.le_of_ble_eq_true rfl)) rfl ?_; rintro _ _ ⟨rfl, rfl⟩; refine sq_end (qs_n (wp_rj 7 [(0, true), (1, true), (2, true), (3, true), (4, true), (5, true), (6, false), (7, false), (8, false), (9, false)] mixed_ok (by kernel_rfl) (rj_v rfl rfl (v_fieldAddr fd_34_1 ty_25 (by decide) rfl) rfl (rj_v rfl rfl (v_loadB 3 ty_25 rfl rfl rfl) rfl (rj_v rfl rfl (v_move rfl) rfl (rj_v rfl rfl (v_move rfl) rfl (rj_v rfl rfl (v_idxI Tryz.underlying25 ty_3 rfl rfl r2 (by omega) (by omega)) rfl (rj_v rfl rfl (v_loadI (k := i) 5 ty_3 rfl rfl r2 (by omega)) rfl ?_)))))))); refine rj_x rfl rfl (x_buildS [num (ds.getD i 0)] Tryz.underlying25 ty_3 (by decide) rfl rfl rfl (by decide) (by decide) (by intro v hv; simp at hv; rcases hv with rfl <;> rfl)) rfl ?_; intro v34 h34 (r34 : IntsO [ds.getD i 0] v34 h34); refine rj_m 3 rfl rfl rfl rfl (m_appI 3 0 Tryz.underlying25 ty_3 rfl rfl rfl rfl q2 rfl r34.toR (by first | omega | (simp; omega) | (simp only [List.length_append, List.length_cons, List.length_nil]; omega) | (rw [List.length_set]; omega))) rfl ?_; intro v35 h_r35 r35; refine rj_fv rfl rfl (v_fieldAddr fd_34_1 ty_25 (by decide) rfl) rfl ?_; refine rj_m 4 rfl rfl rfl rfl (m_store1 4 ty_25 rfl rfl r35.toR.sl.one rfl (Nat.le_of_ble_eq_true rfl)) rfl ?_; rintro _ _ ⟨rfl, rfl⟩; refine rj_end (qs_bn (qs_n (wp_sq ?_))); refine sq_v rfl (v_add rfl rfl ((by unfold I64; omega))) rfl ?_; refine sq_v rfl (v_move rfl) rfl (sq_end ?_); exact qs_bk (i + 1, v26, h_r26, v35, h_r35) ⟨by (try dsimp only); omega, by (try dsimp only); rw [filter_yes (by omega) (by simpa using hmem.1 c21)]; exact r26, by (try dsimp only); rw [selP_yes hl (by omega) (by simpa using hmem.1 c21)]; exact r35⟩ (by simp only; omega) ⟨rfl, rfl, rfl, rfl, rfl, rfl, rfl, trivial⟩ (fun _ s => s.pick [2, 3, 4, 5, 6] (by decide) rfl)
    · refine wp_sk (qs_bn (qs_n (wp_sq ?_))); refine sq_v rfl (v_add rfl rfl ((by unfold I64; omega))) rfl ?_; refine sq_v rfl (v_move rfl) rfl (sq_end ?_); exact qs_bk (i + 1, v1, h1, v2, h2) ⟨by (try dsimp only); omega, by (try dsimp only); rw [filter_no (by omega) (by simpa using fun h => c21 (hmem.2 h))]; exact q1, by (try dsimp only); rw [selP_no hl (by omega) (by simpa using fun h => c21 (hmem.2 h))]; exact q2⟩ (by simp only; omega) ⟨rfl, rfl, rfl, rfl, rfl, rfl, rfl, trivial⟩ (fun _ s => s)
  · refine wp_ex (qs_x (qs_x (qs_bx (qs_n (wp_sc (wp_sq (sq_v rfl (v_loadNB 2 ty_34 rfl rfl rfl rfl) rfl ?_))))))); refine sq_m 3 rfl rfl (m_store 3 ty_34 rfl rfl rfl rfl (by simp [q1.toR.sl.one, q2.toR.sl.one, one_sl]) rfl (Nat.le_of_ble_eq_true rfl)) rfl ?_; rintro _ _ ⟨rfl, rfl⟩; refine sq_end (qs_n (wp_rt ?_)); refine qs_close [box b6 _ _, hp w] [h1, h2] (fun _ s => s.pick [3, 4, 0, 1] (by decide) rfl) (fun md => ?_); rw [List.take_of_length_le (by omega)] at q1; rw [List.take_of_length_le (by omega), List.take_of_length_le (by omega)] at q2; exact qs_retc 1 rfl ty_34 rfl rfl rfl (fin_t 0 (i := 2) rfl rfl rfl ⟨v1, v2, h1, h2, rfl, q1, q2, md⟩)
theorem ct_u_l08Join (f : Int → Int) (t u : Ten) (a b c a' b' c' : Value) (w : World) (r1 : IntsR t.l a (hp w)) (r2 : IntsR t.d b (hp w)) (r3 : IntsR u.l a' (hp w)) (r4 : IntsR u.d b' (hp w)) (ht : t.d = t.l.map f) (hu : u.d = u.l.map f) (hn : u.l.Nodup) (hs : t.l.length + u.l.length ≤ 1000000) :
    Calls Tryz.prog 155 [tenV a b c, tenV a' b' c'].toArray w (Ret w emp (fun v h => ∃ v1 v2, v = .tuple [v1, v2, .bool true].toArray ∧ IntsR (joinI t.l u.l) v1 h ∧ IntsR ((joinI t.l u.l).map f) v2 h)) :=
  (ct_s_l08Join t u a b c a' b' c' w r1 r2 r3 r4 (by rw [ht, List.length_map]) (by rw [hu, List.length_map]) hn hs).mono fun _ _ hh => by
    obtain ⟨v, h', h1, h2, h3⟩ := hh; have := h3.2 (mism_not ht hu); rw [joinD_map ht hu] at this; exact ⟨v, h', h1, h2, this⟩
theorem map_dims {f : Int → Int} {l : List Int} (h : ∀ x ∈ l, 1 ≤ f x ∧ f x ≤ 8) : dimsIn (l.map f) := fun j hj => by
  rw [List.length_map] at hj; rw [map_getD hj]; exact h _ (mem_getD hj)
end Go.Proofs.YthlmjnihihbckaaGreat
namespace Go.Proofs.YthlmjnihihbckaaGreat
set_option maxRecDepth 100000
open Go.RowKit
def TensL (ts : List Ten) (cs : List Value) (h : PH) : Prop := cs.length = ts.length * 3 ∧ ∀ (i : Nat) (t : Ten), ts[i]? = some t → TenR t ((cs.drop (i * 3)).take 3) h
theorem TensL.nil (h : PH) : TensL [] [] h := ⟨rfl, fun i x e => by simp at e⟩
theorem TensL.mono {ts : List Ten} {cs : List Value} {h h' : PH} (r : TensL ts cs h) (l : PLe h h') : TensL ts cs h' := ⟨r.1, fun i x e => (r.2 i x e).mono l⟩
theorem TensL.snoc {ts : List Ten} {cs : List Value} {h : PH} (r : TensL ts cs h) {t : Ten} {a b c : Value} (r1 : IntsR t.l a h) (r2 : IntsR t.d b h) (r3 : IntsR t.x c h) : TensL (ts ++ [t]) (cs ++ [a, b, c]) h := by
  refine ⟨by simp [r.1]; omega, fun i y e => ?_⟩
  by_cases hi : i < ts.length
  · rw [List.getElem?_append_left hi] at e; have := r.2 i y e; have e2 : ((cs ++ [a, b, c]).drop (i * 3)).take 3 = (cs.drop (i * 3)).take 3 := by
      rw [List.drop_append, List.take_append]; have hl : 3 - (cs.drop (i * 3)).length = 0 := by simp [r.1]; omega
      rw [hl, List.take_zero, List.append_nil]
    rw [e2]; exact this
  · have hlt := (List.getElem?_eq_some_iff.1 e).1
    simp at hlt
    have : i = ts.length := by omega
    subst this; rw [List.getElem?_append_right (by omega)] at e
    simp at e
    subst e; have e2 : ((cs ++ [a, b, c]).drop (ts.length * 3)).take 3 = [a, b, c] := by
      rw [← r.1, List.drop_left]; rfl
    rw [e2]; exact ⟨a, b, c, rfl, r1, r2, r3⟩
theorem TensL.tens {ts : List Ten} {cs : List Value} {v : Value} {h : PH} (r : TensL ts cs h) (rr : RowR cs ts.length 3 v h) : TensR ts v h := ⟨cs, rr, r.2⟩
theorem PUn.mono_l {a b q : PH} (l : PLe a b) (d : PDj b q) : PLe (PUn a q) (PUn b q) := fun k o e => by
  unfold PUn at *
  split at e
  · rename_i x hx; cases e; rw [l k _ hx]
  · rcases d k with h1 | h1
    · rw [h1]; exact e
    · rw [h1] at e; cases e
theorem PDj.rest {w : World} {h hs : PH} (l : PLe hs h) : PDj hs (restP w h) := fun k => by
  cases e : hs k with
  | none => exact .inl rfl
  | some o => right; simp [restP, l k o e]
theorem Sat.join {w0 w : World} {HS : List PH} {a b : PH} (s : Sat w0 (a :: b :: HS) w) : Sat w0 (PUn a b :: HS) w := s.merge
def shTens (f : Int → Int) (s : Sh) : List Ten := s.all.map fun l => ⟨l, l.map f, []⟩
theorem shTens_len (f : Int → Int) (s : Sh) : (shTens f s).length = s.all.length := by simp [shTens]
structure SpR (f : Int → Int) (s : Sh) (va vg : Value) (b : Nat) (h : PH) : Prop where
  ok : s.ok
  c0 : cellP h b 0 = some va
  c1 : cellP h b 1 = some vg
  all : TensR (shTens f s) va h
  gone : BoolsR s.gone vg h
def SpO (f : Int → Int) (s : Sh) (bb : Nat) (h q : PH) : Prop :=
  s.ok ∧ ∃ va vg ha hg hs cs, RowO 34 cs s.all.length 3 va ha ∧ BoolsO s.gone vg hg ∧ TensL (shTens f s) cs (PUn hs q) ∧ Made h [box bb [va, vg] 220, ha, hg, hs]
theorem SpR.of {f : Int → Int} {s : Sh} {va vg : Value} {bb : Nat} {h ha hg X : PH} {cs : List Value} (hok : s.ok) (hb : PLe (box bb [va, vg] 220) h) (ra : RowO 34 cs s.all.length 3 va ha) (la : PLe ha h) (rt : TensL (shTens f s) cs X) (lx : PLe X h) (rg : BoolsO s.gone vg hg) (lg : PLe hg h) : SpR f s va vg bb h :=
  ⟨hok, cellP.mono hb (by rw [cellP_box]; rfl), cellP.mono hb (by rw [cellP_box]; rfl), (rt.mono lx).tens (by rw [shTens_len]; exact ra.toR.mono la), rg.toR.mono lg⟩
end Go.Proofs.YthlmjnihihbckaaGreat
namespace Go.Proofs.YthlmjnihihbckaaGreat
set_option maxRecDepth 100000
open Go.RowKit
/-- The world's heap once more. -/
theorem Sat.whole {w0 w : World} {HS : List PH} {q : PH} (lq : PLe q (hp w0)) (s : Sat w0 (q :: restP w0 q :: HS) w) : Sat w0 (HS ++ [hp w0]) w := by
  have l : PLe (hp w0) (PUn q (restP w0 q)) := fun k o e => by
    unfold PUn restP
    cases hq : q k with
    | none => simp [e]
    | some o' => have := lq k o' hq; rw [e] at this; simp [this]
  have s1 := Sat.less (i := 0) s.merge rfl l; exact Sat.comm (A := [hp w0]) (B := HS) s1
theorem net_dmap {k p n : Int} {ts : List Ten} {op : List Int} (h : netL k p n ts op) : ∀ t ∈ ts, t.d = t.l.map (dimOf ts) := fun t ht => by
  have hax := net_axes h t ht; refine ext_getD (by rw [List.length_map, hax.2.1]) fun j hj => ?_; have hj' : j < t.l.length := by rw [hax.2.1]; exact hj
  rw [map_getD hj', net_dim h ht (mem_getD hj'), find_at hax hj', Int.toNat_natCast]
end Go.Proofs.YthlmjnihihbckaaGreat
namespace Go.Proofs.YthlmjnihihbckaaGreat
set_option maxRecDepth 100000
open Go.RowKit
theorem SpO.toR {f : Int → Int} {s : Sh} {bb : Nat} {h q H : PH} (r : SpO f s bb h q) (l : PLe h H) (lq : PLe q H) : ∃ va vg, SpR f s va vg bb H := by
  obtain ⟨hok, va, vg, ha, hg, hs, cs, ra, rg, rt, md⟩ := r; exact ⟨va, vg, SpR.of hok ((md.le _ (by simp)).trans l) ra ((md.le ha (by simp)).trans l) rt (PUn.le ((md.le hs (by simp)).trans l) lq) rg ((md.le hg (by simp)).trans l)⟩
theorem stepOk_at {op : List Int} {s : Sh} {ss : List Stp} (h : okSteps op s ss) {i : Nat} {x : Stp} (hx : ss[i]? = some x) : stepOk (shTo op s (ss.take i)) x := h i (List.getElem?_eq_some_iff.1 hx).1 x hx
theorem stepCells_take : ∀ (ss : List Stp) (n : Nat), stepCells (ss.take n) = (stepCells ss).take (n * 2)
  | [], n => by simp [stepCells]
  | s :: r, 0 => by simp [stepCells]
  | s :: r, n + 1 => by
    have := stepCells_take r n; rw [List.take_succ_cons, show (n + 1) * 2 = n * 2 + 1 + 1 by omega]
    show [num s.a, num s.b] ++ stepCells (r.take n) = ([num s.a, num s.b] ++ stepCells r).take (n * 2 + 1 + 1)
    rw [this]; rfl
theorem StepsR.subH {ss : List Stp} {v : Value} {h : PH} (r : StepsR ss v h) {hi : Nat} (h2 : hi ≤ ss.length) : StepsR (ss.take hi) (subV v 0 hi 2) h := by
  have := RowR.sub r (Nat.zero_le hi) h2
  unfold StepsR
  rw [stepCells_take, List.length_take, Nat.min_eq_left h2]
  simpa using this
end Go.Proofs.YthlmjnihihbckaaGreat
namespace Go.Proofs.YthlmjnihihbckaaGreat
set_option maxRecDepth 100000
open Go.ChangeShapes Go.WideShapes Go.ChangeAt Go.RowKit
section
variable {H : Type} {enc : TypeId × Value → H} {w : World} {base : Nat} {sp : Nat → Bool} {hd : Bool}
theorem rd_ring {fuel : Nat} {cs : List Value} {x : DataW H × List MemPlace} (h : DataW.trod enc Tryz.prog w base sp hd fuel 23 cs = some x) : ∃ k m p, cs = [num k, num m, num p] ∧ I64 k ∧ I64 m ∧ I64 p := by
  obtain ⟨hl, hf⟩ := rd_field Tryz.underlying23 h; rw [cellsOf_ty ty_23] at hl; obtain ⟨n0, y0, h0⟩ := hf 0 _ _ fd_23_0; obtain ⟨n1, y1, h1⟩ := hf 1 _ _ fd_23_1; obtain ⟨n2, y2, h2⟩ := hf 2 _ _ fd_23_2; rw [cellsOf_ty ty_3] at h0 h1 h2; obtain ⟨k, e0, i0⟩ := rd_int Tryz.underlying3 h0; obtain ⟨m, e1, i1⟩ := rd_int Tryz.underlying3 h1; obtain ⟨p, e2, i2⟩ := rd_int Tryz.underlying3 h2
  match cs, hl with
  | [a, b, c], _ =>
    simp at e0 e1 e2
    subst e0 e1 e2; exact ⟨k, m, p, rfl, i0, i1, i2⟩
end
end Go.Proofs.YthlmjnihihbckaaGreat
namespace Go.Proofs.YthlmjnihihbckaaGreat
set_option maxRecDepth 100000
open Go.ChangeShapes Go.WideShapes Go.ChangeAt Go.RowKit
section
variable {H : Type} {enc : TypeId × Value → H} {w : World} {base : Nat} {sp : Nat → Bool} {hd : Bool}
theorem rd_ten {fuel : Nat} {cs : List Value} {x : DataW H × List MemPlace} (h : DataW.trod enc Tryz.prog w base sp hd fuel 154 cs = some x) : ∃ t, TenR t cs (hp w) := by
  obtain ⟨hl, hf⟩ := rd_field Tryz.underlying154 h; rw [cellsOf_ty ty_154] at hl; obtain ⟨n0, y0, h0⟩ := hf 0 _ _ fd_154_0; obtain ⟨n1, y1, h1⟩ := hf 1 _ _ fd_154_1; obtain ⟨n2, y2, h2⟩ := hf 2 _ _ fd_154_2; rw [cellsOf_ty ty_25] at h0 h1 h2; obtain ⟨a, l, e0, r0, _⟩ := rd_ints Tryz.underlying25 Tryz.underlying3 (cellsOf_ty ty_3) h0; obtain ⟨b, d, e1, r1, _⟩ := rd_ints Tryz.underlying25 Tryz.underlying3 (cellsOf_ty ty_3) h1; obtain ⟨c, xs, e2, r2, _⟩ := rd_ints Tryz.underlying25 Tryz.underlying3 (cellsOf_ty ty_3) h2
  match cs, hl with
  | [a', b', c'], _ =>
    simp at e0 e1 e2
    subst e0 e1 e2; exact ⟨⟨l, d, xs⟩, _, _, _, rfl, r0, r1, r2⟩
theorem arg_network {v : Value} {d : DataW H} {p : List MemPlace} {r : Reach} {b : Nat} (hv : Value.okWide Tryz.prog w r b 27 v) (h : DataW.Trod enc Tryz.prog w base sp hd 27 v d p) : ∃ k m q ts op vt vo, v = netV k m q vt vo ∧ TensR ts vt (hp w) ∧ IntsR op vo (hp w) := by
  obtain ⟨cs, rfl, _⟩ := okWide_struct Tryz.underlying27 hv; obtain ⟨f, hf⟩ := h; obtain ⟨hl, hf⟩ := rd_field Tryz.underlying27 hf; rw [cellsOf_ty ty_27] at hl; obtain ⟨n0, y0, h0⟩ := hf 0 _ _ fd_27_0; obtain ⟨n1, y1, h1⟩ := hf 1 _ _ fd_27_1; obtain ⟨n2, y2, h2⟩ := hf 2 _ _ fd_27_2; rw [cellsOf_ty ty_23] at h0; rw [cellsOf_ty ty_24] at h1; rw [cellsOf_ty ty_25] at h2; obtain ⟨k, m, q, e0, _⟩ := rd_ring h0; obtain ⟨vt, ts, e1, rt⟩ := rd_rows (R := TenR) Tryz.underlying24 (cellsOf_ty ty_154) (by decide) (fun h => rd_ten h) h1; obtain ⟨vo, op, e2, ro, _⟩ := rd_ints Tryz.underlying25 Tryz.underlying3 (cellsOf_ty ty_3) h2; obtain ⟨l⟩ := cs; simp only [Value.cells] at hl e0 e1 e2
  match l, hl with
  | [a1, a2, a3, a4, a5], _ =>
    simp at e0 e1 e2
    obtain ⟨rfl, rfl, rfl⟩ := e0; subst e1 e2; exact ⟨k, m, q, ts, op, _, _, rfl, rt, ro⟩
end
end Go.Proofs.YthlmjnihihbckaaGreat
namespace Go.Proofs.YthlmjnihihbckaaGreat
set_option maxRecDepth 100000
open Go.RowKit
abbrev decV (a b : Value) : Value := .agg [a, b].toArray
def LR (l : List Int) (cs : List Value) (h : PH) : Prop := ∃ v, cs = [v] ∧ IntsR l v h
theorem LR.mono {l : List Int} {cs : List Value} {h h' : PH} (r : LR l cs h) (q : PLe h h') : LR l cs h' := by
  obtain ⟨v, e, r1⟩ := r; exact ⟨v, e, r1.mono q⟩
def LLR (bs : List (List Int)) (v : Value) (h : PH) : Prop := RowsR 1 LR bs v h
theorem LLR.mono {bs : List (List Int)} {v : Value} {h h' : PH} (r : LLR bs v h) (l : PLe h h') : LLR bs v h' := RowsR.mono (R := LR) LR.mono r l
theorem LLR.sl {bs : List (List Int)} {v : Value} {h : PH} (r : LLR bs v h) : SlL v bs.length := RowsR.sl r
theorem LLR.le {bs : List (List Int)} {v : Value} {h : PH} (r : LLR bs v h) : (bs.length : Int) ≤ 9223372036854775807 := RowsR.le r
theorem LLR.at {bs : List (List Int)} {v : Value} {h : PH} (r : LLR bs v h) : ∃ cells, RowR cells bs.length 1 v h ∧ ∀ i, i < bs.length → ∃ l a, bs[i]? = some l ∧ (cells.drop (i * 1)).take 1 = [a] ∧ IntsR l a h := by
  obtain ⟨cells, rr, hc⟩ := r; refine ⟨cells, rr, fun i hi => ?_⟩; have ht : bs[i]? = some bs[i] := List.getElem?_eq_getElem hi; obtain ⟨a, e, r1⟩ := hc i _ ht; exact ⟨_, a, ht, e, r1⟩
/-- Lists that own their parts. -/
def LLO (bs : List (List Int)) (v : Value) (h : PH) : Prop := ∃ vs h0 hs, RowO 25 vs bs.length 1 v h0 ∧ OwnL bs vs hs ∧ Made h (h0 :: hs)
theorem LLO.toR {bs : List (List Int)} {v : Value} {h : PH} (r : LLO bs v h) : LLR bs v h := by
  obtain ⟨vs, h0, hs, r0, o, m⟩ := r; refine ⟨vs, r0.toR.mono (m.le h0 (by simp)), fun i x hx => ?_⟩; obtain ⟨a, g, e1, e2, q⟩ := o.own i x hx; refine ⟨a, ?_, q.toR.mono (m.le g (by simp [List.mem_of_getElem? e2]))⟩
  apply List.ext_getElem?
  intro j; rw [List.getElem?_take]
  match j with
  | 0 => simpa using e1
  | j + 1 => rw [if_neg (by omega)]; simp
def DecO (bs : List (List Int)) (ps : List Int) (a b : Value) (h : PH) : Prop := ∃ h1 h2, LLO bs a h1 ∧ IntsO ps b h2 ∧ Made h [h1, h2]
theorem DecO.toR {bs : List (List Int)} {ps : List Int} {a b : Value} {h : PH} (r : DecO bs ps a b h) : LLR bs a h ∧ IntsR ps b h := by
  obtain ⟨h1, h2, r1, r2, m⟩ := r; exact ⟨r1.toR.mono (m.le h1 (by simp)), r2.toR.mono (m.le h2 (by simp))⟩
def DecT (bs : List (List Int)) (ps : List Int) (u : Value) (h : PH) : Prop := ∃ a b, u = decV a b ∧ DecO bs ps a b h
def llSize : List (List Int) → Int
  | [] => 0
  | l :: r => l.length + llSize r
theorem llSize_nn : ∀ bs, 0 ≤ llSize bs
  | [] => by simp [llSize]
  | l :: r => by have := llSize_nn r; simp only [llSize]; omega
theorem llSize_append : ∀ a b, llSize (a ++ b) = llSize a + llSize b
  | [], b => by simp [llSize]
  | l :: r, b => by simp only [List.cons_append, llSize, llSize_append r b]; omega
theorem llSize_take (bs : List (List Int)) (i : Nat) : llSize bs = llSize (bs.take i) + llSize (bs.drop i) := by
  rw [← llSize_append, List.take_append_drop]
theorem take_ll {bs : List (List Int)} {i : Nat} {l : List Int} (h : bs[i]? = some l) : bs.take (i + 1) = bs.take i ++ [l] := by
  obtain ⟨hi, e⟩ := List.getElem?_eq_some_iff.1 h; rw [List.take_succ_eq_append_getElem hi, e]
theorem llSize_step {bs : List (List Int)} {i : Nat} {l : List Int} (h : bs[i]? = some l) : llSize (bs.take (i + 1)) = llSize (bs.take i) + l.length := by
  rw [take_ll h, llSize_append]
  simp [llSize]
theorem ct_l_szIntSS (bs : List (List Int)) (v : Value) (left : Int) (w : World) (r : LLR bs v (hp w)) (hl : 0 ≤ left ∧ left ≤ 1048576) :
    Calls Tryz.prog 95 [v, num left].toArray w (RetV w (num (szV left (bs.length + llSize bs)))) := by
  have hx := r.le; have hnn := llSize_nn bs; refine calls_in Tryz.func95 rfl Tryz.ntmps95 rfl (Sat.start w) ?_; have hle0 := r.le; obtain ⟨cs_r, rr_r, hc_r⟩ := r.at; refine wp_sc (wp_sq (sq_v rfl (v_assign rfl) rfl (sq_end (qs_n (wp_sc (wp_sq (sq_v rfl (v_move rfl) rfl (sq_v rfl (v_move rfl) rfl (sq_v rfl (v_len Tryz.underlying55 rfl r.sl) rfl ?_))))))))); refine sq_v rfl (v_sub rfl rfl ((by unfold I64; omega))) rfl ?_; refine sq_v rfl (v_assign rfl) rfl (sq_end (qs_n (wp_sc (wp_sc (wp_sq (sq_v rfl (v_move rfl) rfl (sq_v rfl (v_lss rfl rfl) rfl (sq_end (qs_n ?_))))))))); refine wp_cd rfl (fun c11 => ?_) (fun c11 => ?_)
  · refine wp_sc (wp_sq (sq_v rfl (v_assign rfl) rfl (sq_end (qs_n (wp_rt (qs_r ?_)))))); exact qs_ret1 rfl rfl (fin_q (i := 0) rfl (by rw [szV, if_pos (by omega)]))
  · refine wp_sk (qs_n (wp_sc (wp_sc (wp_sq (sq_v rfl (v_assign rfl) rfl (sq_end (qs_n (wp_bl ?_)))))))); refine wp_lp (σ := Nat × Int) (fun z_ => [(0, v), (1, num z_.2), (4, num 0), (5, num z_.1)]) (fun z_ => [hp w]) (fun z_ => z_.1 ≤ bs.length ∧ z_.2 = left - bs.length - llSize (bs.take z_.1) ∧ 0 ≤ z_.2) (fun z_ => bs.length - z_.1) (0, left - bs.length) (⟨by (try dsimp only); omega, by (try dsimp only); simp [llSize], by (try dsimp only); omega⟩) ⟨rfl, (by first | rfl | exact ksub rfl (by first | omega | (simp; done) | (simp; omega))), rfl, (by first | rfl | exact ksub rfl (by first | omega | (simp; done) | (simp; omega))), trivial⟩ (fun _ s => s) ?_; rintro ⟨i, q⟩ ⟨hi, hq, hq0⟩; dsimp only at hi hq hq0 ⊢; refine wp_sc (wp_sc (wp_sq (sq_v rfl (v_move rfl) rfl (sq_v rfl (v_move rfl) rfl (sq_v rfl (v_len Tryz.underlying55 rfl r.sl) rfl (sq_v rfl (v_lss rfl rfl) rfl (sq_end (qs_n ?_)))))))); refine wp_cd rfl (fun c15 => ?_) (fun c15 => ?_)
    · refine wp_sk (qs_n (wp_sc (wp_bl (wp_sc (wp_sq (sq_v rfl (v_move rfl) rfl (sq_v rfl (v_move rfl) rfl ?_))))))); obtain ⟨l20, a20, hl20, hcs20, rl20⟩ := hc_r (i) (by first | omega | (rw [List.length_set]; omega)); refine sq_v rfl (v_indexAddr Tryz.underlying55 ty_25 rfl rfl rr_r (by decide) (by omega) (by omega)) rfl (sq_v rfl (v_loadE 0 ty_25 rfl rfl rr_r (sub_get hcs20 (j := 0) rfl)) rfl (sq_v rfl (v_move rfl) rfl ?_)); have hst := llSize_step hl20; have hn1 := llSize_nn (bs.take i); have htk := llSize_take bs (i + 1); have hnd := llSize_nn (bs.drop (i + 1)); refine sq_u rfl (x_callv rfl en_62 (fun w s => ct_l_szIntS _ _ _ w (rl20.mono (s.get 0 rfl)) (by first | assumption | exact iota_held _ _ | omega | rfl))) rfl (sq_v rfl (v_assign rfl) rfl (sq_end (qs_n (wp_sc (wp_sq (sq_v rfl (v_move rfl) rfl (sq_v rfl (v_lss rfl rfl) rfl (sq_end (qs_n ?_))))))))); refine wp_cd rfl (fun c25 => ?_) (fun c25 => ?_)
      · refine wp_sc (wp_sq (sq_v rfl (v_assign rfl) rfl (sq_end (qs_n (wp_rt (qs_br (qs_r (qs_r (qs_br (qs_r ?_)))))))))); exact qs_ret1 rfl rfl (fin_q (i := 0) rfl (by have := szV_lt c25; rw [szV, if_pos (by omega)]))
      · refine wp_sk (qs_bn (qs_n (wp_sq (sq_v rfl (v_move rfl) rfl ?_)))); refine sq_v rfl (v_add rfl rfl ((by unfold I64; omega))) rfl ?_; refine sq_v rfl (v_assign rfl) rfl (sq_end ?_); exact qs_bk (i + 1, szV q l20.length) ⟨by (try dsimp only); omega, by (try dsimp only); have hge := szV_ge c25; omega, by (try dsimp only); have hge := szV_ge c25; omega⟩ (by simp only; omega) ⟨rfl, (by first | rfl | exact ksub rfl (by first | omega | (simp; done) | (simp; omega))), rfl, (by first | rfl | exact ksub rfl (by first | omega | (simp; done) | (simp; omega))), trivial⟩ (fun _ s => s)
    · refine wp_ex (qs_x (qs_x (qs_bx (qs_n (wp_sc (wp_sq (sq_v rfl (v_move rfl) rfl (sq_v rfl (v_assign rfl) rfl (sq_end (qs_n (wp_rt ?_))))))))))); exact qs_ret1 rfl rfl (fin_q (i := 0) rfl (by rw [List.take_of_length_le (by omega)] at hq; rw [szV, if_neg (by omega)]; congr 1; omega))
theorem ct_l_szDecomposition (bs : List (List Int)) (ps : List Int) (a b : Value) (left : Int) (w : World) (r : LLR bs a (hp w)) (r' : IntsR ps b (hp w)) (hl : 0 ≤ left ∧ left ≤ 1048576) :
    Calls Tryz.prog 26 [decV a b, num left].toArray w (RetV w (num (szV left (bs.length + llSize bs + ps.length)))) := by
  have hnn := llSize_nn bs; refine calls_in Tryz.func26 rfl Tryz.ntmps26 rfl (Sat.start w) ?_; have hle0 := r.le; obtain ⟨cs_r, rr_r, hc_r⟩ := r.at; have hle1 := r'.le; refine wp_sc (wp_sq ?_); refine sq_x rfl (x_box rfl rfl) rfl ?_; rintro _ _ ⟨b2, rfl, rfl⟩; refine sq_v rfl (v_assign rfl) rfl (sq_end (qs_n (wp_sc (wp_sq (sq_v rfl (v_fieldAddr fd_57_0 ty_55 (by decide) rfl) rfl (sq_v rfl (v_loadB 0 ty_55 rfl rfl rfl) rfl (sq_v rfl (v_move rfl) rfl (sq_u rfl (x_callv rfl en_95 (fun w s => ct_l_szIntSS _ _ _ w (r.mono (s.get 1 rfl)) (by first | assumption | exact iota_held _ _ | omega | rfl))) rfl (sq_v rfl (v_assign rfl) rfl (sq_end (qs_n (wp_sc (wp_sc (wp_sq (sq_v rfl (v_move rfl) rfl (sq_v rfl (v_lss rfl rfl) rfl (sq_end (qs_n ?_)))))))))))))))))); refine wp_cd rfl (fun c10 => ?_) (fun c10 => ?_)
  · refine wp_sc (wp_sq (sq_v rfl (v_assign rfl) rfl (sq_end (qs_n (wp_rt (qs_r ?_)))))); exact qs_ret1 rfl rfl (fin_q (i := 1) rfl (by rw [szV_neg c10 (by omega)]))
  · refine wp_sk (qs_n (wp_sc (wp_sq (sq_v rfl (v_fieldAddr fd_57_1 ty_25 (by decide) rfl) rfl (sq_v rfl (v_loadB 0 ty_25 rfl rfl rfl) rfl (sq_v rfl (v_move rfl) rfl ?_)))))); have h1 := szV_ge c10; refine sq_u rfl (x_callv rfl en_62 (fun w s => ct_l_szIntS _ _ _ w (r'.mono (s.get 1 rfl)) (by first | assumption | exact iota_held _ _ | omega | rfl))) rfl (sq_v rfl (v_assign rfl) rfl (sq_end (qs_n (wp_sc (wp_sc (wp_sq (sq_v rfl (v_move rfl) rfl (sq_v rfl (v_lss rfl rfl) rfl (sq_end (qs_n ?_)))))))))); refine wp_cd rfl (fun c16 => ?_) (fun c16 => ?_)
    · refine wp_sc (wp_sq (sq_v rfl (v_assign rfl) rfl (sq_end (qs_n (wp_rt (qs_r ?_)))))); exact qs_ret1 rfl rfl (fin_q (i := 1) rfl (by rw [szV_add c10] at c16; have := szV_lt c16; rw [szV, if_pos this]))
    · refine wp_sk (qs_n (wp_sc (wp_sq (sq_v rfl (v_move rfl) rfl (sq_v rfl (v_assign rfl) rfl (sq_end (qs_n (wp_rt ?_)))))))); exact qs_ret1 rfl rfl (fin_q (i := 1) rfl (by rw [szV_add c10]))
theorem ll_step {vs : List Value} {i m : Nat} {a : Value} (hv : vs.length = i) : (vs ++ (List.replicate (m + 1) [Value.slice none 0 0]).flatten).take i ++ [a] ++ (vs ++ (List.replicate (m + 1) [Value.slice none 0 0]).flatten).drop (i + 1) = (vs ++ [a]) ++ (List.replicate m [Value.slice none 0 0]).flatten := by
  rw [← hv, List.take_left, List.drop_append, List.drop_of_length_le (by omega), List.nil_append, List.replicate_succ, List.flatten_cons]; have : vs.length + 1 - vs.length = [Value.slice none 0 0].length := by simp
  rw [this, List.drop_left]
theorem OwnL.one {l : List Int} {a : Value} {h : PH} (r : IntsO l a h) : OwnL [l] [a] [h] := by
  refine ⟨rfl, rfl, fun i xs e => ?_⟩
  match i, e with
  | 0, e => cases e; exact ⟨a, h, rfl, rfl, r⟩
  | i + 1, e => simp at e
theorem ct_l_toIntSS (bs : List (List Int)) (v : Value) (w : World) (r : LLR bs v (hp w)) (hs : bs.length + llSize bs ≤ 1048576) :
    Calls Tryz.prog 101 [v].toArray w (Ret w emp (LLO bs)) := by
  have hx := r.le; have hn := llSize_nn bs; obtain ⟨cells, rr, hc⟩ := r.at; refine calls_in Tryz.func101 rfl Tryz.ntmps101 rfl (Sat.start w) (wp_sc (wp_sq (sq_v rfl (v_assign rfl) rfl (sq_end (qs_n (wp_sc (wp_sq (sq_v rfl (v_move rfl) rfl (sq_v rfl (v_len Tryz.underlying55 rfl r.sl) rfl ?_))))))))); refine sq_x rfl (x_make Tryz.underlying55 ty_25 rfl rfl rfl rfl (by omega) (by omega) (by omega)) rfl ?_; intro v7 h7 r7; refine sq_v rfl (v_assign rfl) rfl (sq_end (qs_n (wp_sc (wp_sc (wp_sq (sq_v rfl (v_assign rfl) rfl (sq_end (qs_n (wp_bl (wp_lp (fun s : Nat × PH × List Value × List PH => [(0, v), (3, v7), (4, num s.1)]) (fun s => s.2.1 :: hp w :: s.2.2.2) (fun s => s.1 ≤ bs.length ∧ RowO 25 (s.2.2.1 ++ (List.replicate (bs.length - s.1) [Value.slice none 0 0]).flatten) bs.length 1 v7 s.2.1 ∧ OwnL (bs.take s.1) s.2.2.1 s.2.2.2) (fun s => bs.length - s.1) (0, h7, [], []) ⟨by omega, by simpa using r7, OwnL.nil⟩ ⟨rfl, rfl, rfl, trivial⟩ (fun _ s => s) ?_)))))))))); rintro ⟨i, h0, vs, hs'⟩ ⟨hi, r0, ow⟩; dsimp only at hi r0 ow ⊢; have hvl : vs.length = i := by rw [ow.l1, List.length_take, Nat.min_eq_left hi]
  refine wp_sc (wp_sc (wp_sq (sq_v rfl (v_move rfl) rfl (sq_v rfl (v_move rfl) rfl (sq_v rfl (v_len Tryz.underlying55 rfl r.sl) rfl (sq_v rfl (v_lss rfl rfl) rfl (sq_end (qs_n ?_)))))))); refine wp_cd rfl (fun c11 => ?_) (fun c11 => ?_)
  · refine wp_sk (qs_n (wp_sc (wp_bl (wp_sq (sq_v rfl (v_move rfl) rfl (sq_v rfl (v_move rfl) rfl (sq_v rfl (v_move rfl) rfl (sq_v rfl (v_move rfl) rfl ?_)))))))); obtain ⟨l, a, hl', hcs, r1⟩ := hc i (by omega); have hst := llSize_step hl'; have htk := llSize_take bs (i + 1); have hnd := llSize_nn (bs.drop (i + 1)); have hnn := llSize_nn (bs.take i); refine sq_v rfl (v_indexAddr Tryz.underlying55 ty_25 rfl rfl rr (by decide) (by omega) (by omega)) rfl (sq_v rfl (v_loadE 1 ty_25 rfl rfl rr (sub_get hcs (j := 0) rfl)) rfl ?_); refine sq_x rfl (x_call rfl en_70 (fun w s => ct_l_toIntS _ _ w (r1.mono (s.get 1 rfl)) (by omega))) rfl ?_; rintro a' h20 o1; refine sq_v rfl (v_indexAddr Tryz.underlying55 ty_25 rfl rfl r0.toR (by decide) (by omega) (by omega)) rfl ?_; refine sq_m 1 rfl rfl (m_storeE 1 ty_25 rfl rfl (us := [a']) (oneCell_cells o1.toR.sl.one) rfl (by simpa using o1.toR.sl.one) rfl r0 (by decide) (by have := r0.1; simp only [Int.toNat_natCast]; omega)) rfl ?_; rintro _ h8 ⟨rfl, r8⟩; refine sq_end (qs_bn (qs_n (wp_sq (sq_v rfl (v_move rfl) rfl ?_)))); refine sq_v rfl (v_add rfl rfl ((by unfold I64; omega))) rfl ?_; refine sq_v rfl (v_assign rfl) rfl (sq_end ?_); obtain ⟨m, hm⟩ : ∃ m, bs.length - i = m + 1 := ⟨bs.length - i - 1, by omega⟩
    have hm' : bs.length - (i + 1) = m := by omega
    simp only [Int.toNat_natCast, Nat.mul_one] at r8; rw [hm, ll_step hvl] at r8; exact qs_bk (i + 1, h8, vs ++ [a'], hs' ++ [h20]) ⟨by simp only; omega, by simp only [hm']; exact r8, by simp only; rw [take_ll hl']; exact ow.append (OwnL.one o1)⟩ (by simp only; omega) ⟨rfl, rfl, rfl, trivial⟩ (fun _ s => Sat.comm (A := [h20]) (B := h8 :: hp w :: hs') s)
  · refine wp_ex (qs_x (qs_x (qs_bx (qs_n (wp_sc (wp_sq (sq_v rfl (v_move rfl) rfl (sq_v rfl (v_assign rfl) rfl (sq_end (qs_n (wp_rt ?_))))))))))); have e : i = bs.length := by omega
    subst e; rw [Nat.sub_self, List.replicate_zero, List.flatten_nil, List.append_nil] at r0; rw [List.take_length] at ow; refine qs_close [hp w] (h0 :: hs') (fun _ s => Sat.pickT (A := [h0, hp w]) (A' := [hp w, h0]) s [1, 0] (by decide) rfl) (fun md => ?_); exact qs_ret1 rfl rfl (fin_t 0 (i := 1) rfl rfl rfl ⟨vs, h0, hs', r0, ow, md⟩)
theorem ct_l_toDecomposition (bs : List (List Int)) (ps : List Int) (a b : Value) (w : World) (r : LLR bs a (hp w)) (r' : IntsR ps b (hp w)) (hs : bs.length + llSize bs + ps.length ≤ 1048576) :
    Calls Tryz.prog 28 [decV a b].toArray w (Ret w emp (DecT bs ps)) := by
  have hnn := llSize_nn bs; refine calls_in Tryz.func28 rfl Tryz.ntmps28 rfl (Sat.start w) ?_; have hle0 := r.le; obtain ⟨cs_r, rr_r, hc_r⟩ := r.at; have hle1 := r'.le; refine wp_sc (wp_sq ?_); refine sq_x rfl (x_box rfl rfl) rfl ?_; rintro _ _ ⟨b1, rfl, rfl⟩; refine sq_x rfl (x_alloc ty_60 rfl) rfl ?_; rintro _ _ ⟨b2, rfl, rfl⟩; refine sq_end (qs_n (wp_sc (wp_sq ?_))); refine sq_x rfl (x_alloc ty_60 rfl) rfl ?_; rintro _ _ ⟨b3, rfl, rfl⟩; refine sq_end (qs_n (wp_sc (wp_sq (sq_v rfl (v_fieldAddr fd_57_0 ty_55 (by decide) rfl) rfl (sq_v rfl (v_loadB 2 ty_55 rfl rfl rfl) rfl ?_))))); refine sq_x rfl (x_call rfl en_101 (fun w s => ct_l_toIntSS _ _ w (r.mono (s.get 3 rfl)) (by first | assumption | exact iota_held _ _ | omega | rfl))) rfl ?_; rintro v6 h6 r6; obtain ⟨cs_L_6, rr_L_6, hc_L_6⟩ := r6.toR.at; refine sq_v rfl (v_fieldAddr fd_60_0 ty_55 (by decide) rfl) rfl ?_; refine sq_m 1 rfl rfl (m_store1 1 ty_55 rfl rfl r6.toR.sl.one rfl (Nat.le_of_ble_eq_true rfl)) rfl ?_; rintro _ _ ⟨rfl, rfl⟩; refine sq_end (qs_n (wp_sc (wp_sq (sq_v rfl (v_fieldAddr fd_57_1 ty_25 (by decide) rfl) rfl (sq_v rfl (v_loadB 3 ty_25 rfl rfl rfl) rfl ?_))))); refine sq_x rfl (x_call rfl en_70 (fun w s => ct_l_toIntS _ _ w (r'.mono (s.get 4 rfl)) (by first | assumption | exact iota_held _ _ | omega | rfl))) rfl ?_; rintro v10 h10 r10; refine sq_v rfl (v_fieldAddr fd_60_1 ty_25 (by decide) rfl) rfl ?_; refine sq_m 2 rfl rfl (m_store1 2 ty_25 rfl rfl r10.toR.sl.one rfl (Nat.le_of_ble_eq_true rfl)) rfl ?_; rintro _ _ ⟨rfl, rfl⟩; refine sq_end (qs_n (wp_sc (wp_sq (sq_v rfl (v_loadNB 2 ty_60 rfl rfl rfl rfl) rfl ?_)))); refine sq_m 3 rfl rfl (m_store 3 ty_60 rfl rfl rfl rfl (by simp [r6.toR.sl.one, r10.toR.sl.one]) rfl (Nat.le_of_ble_eq_true rfl)) rfl ?_; rintro _ _ ⟨rfl, rfl⟩; refine sq_end (qs_n (wp_rt ?_)); refine qs_close [box b2 _ _, hp w] [h6, h10] (fun _ s => s.pick [3, 5, 1, 0] (by decide) rfl) (fun md => ?_); exact qs_retc 1 rfl ty_60 rfl rfl rfl (fin_t 0 (i := 2) rfl rfl rfl ⟨_, _, rfl, h6, h10, r6, r10, md⟩)
theorem ct_l_eqIntSS (bs : List (List Int)) (v u : Value) (w : World) (r : LLR bs v (hp w)) (r' : LLR bs u (hp w)) : Calls Tryz.prog 106 [v, u].toArray w (RetV w (.bool true)) := by
  refine calls_in Tryz.func106 rfl Tryz.ntmps106 rfl (Sat.start w) ?_; have hle0 := r.le; obtain ⟨cs_r, rr_r, hc_r⟩ := r.at; have hle1 := r'.le; obtain ⟨cs_r_, rr_r_, hc_r_⟩ := r'.at; refine wp_sc (wp_sq (sq_v rfl (v_assign rfl) rfl (sq_end (qs_n (wp_sc (wp_sc (wp_sq (sq_v rfl (v_move rfl) rfl (sq_v rfl (v_len Tryz.underlying55 rfl r.sl) rfl (sq_v rfl (v_move rfl) rfl (sq_v rfl (v_len Tryz.underlying55 rfl r'.sl) rfl (sq_v rfl (v_neqs rfl rfl) rfl (sq_end (qs_n (wp_cf rfl (wp_sk (qs_n (wp_sc (wp_sc (wp_sq (sq_v rfl (v_assign rfl) rfl (sq_end (qs_n (wp_bl ?_)))))))))))))))))))))))); refine wp_lp (σ := Nat) (fun z_ => [(0, v), (1, u), (4, .bool false), (5, num z_)]) (fun z_ => [hp w]) (fun z_ => z_ ≤ bs.length) (fun z_ => bs.length - z_) 0 (by omega) ⟨rfl, rfl, rfl, (by first | rfl | exact ksub rfl (by first | omega | (simp; done) | (simp; omega))), trivial⟩ (fun _ s => s) ?_; rintro i hi; refine wp_sc (wp_sc (wp_sq (sq_v rfl (v_move rfl) rfl (sq_v rfl (v_move rfl) rfl (sq_v rfl (v_len Tryz.underlying55 rfl r.sl) rfl (sq_v rfl (v_lss rfl rfl) rfl (sq_end (qs_n ?_)))))))); refine wp_cd rfl (fun c14 => ?_) (fun c14 => ?_)
  · refine wp_sk (qs_n (wp_sc (wp_bl (wp_sc (wp_rj 10 [(0, true), (1, true), (2, true), (3, true), (4, true), (5, true), (6, true), (7, true), (8, false), (9, true)] mixed_ok (by kernel_rfl) (rj_v rfl rfl (v_move rfl) rfl (rj_v rfl rfl (v_move rfl) rfl ?_))))))); obtain ⟨l19, a19, hl19, hcs19, rl19⟩ := hc_r (i) (by first | omega | (rw [List.length_set]; omega)); refine rj_v rfl rfl (v_indexAddr Tryz.underlying55 ty_25 rfl rfl rr_r (by decide) (by omega) (by omega)) rfl (rj_v rfl rfl (v_loadE 0 ty_25 rfl rfl rr_r (sub_get hcs19 (j := 0) rfl)) rfl (rj_v rfl rfl (v_move rfl) rfl (rj_v rfl rfl (v_move rfl) rfl ?_))); obtain ⟨l23, a23, hl23, hcs23, rl23⟩ := hc_r_ (i) (by first | omega | (rw [List.length_set]; omega)); refine rj_v rfl rfl (v_indexAddr Tryz.underlying55 ty_25 rfl rfl rr_r_ (by decide) (by omega) (by omega)) rfl (rj_v rfl rfl (v_loadE 0 ty_25 rfl rfl rr_r_ (sub_get hcs23 (j := 0) rfl)) rfl ?_); obtain rfl : l19 = l23 := (by rw [hl19] at hl23; exact Option.some.inj hl23)
    refine rj_u rfl rfl (x_callv rfl en_75 (fun w s => ct_l_eqIntS _ _ _ _ w (rl19.mono (s.get 0 rfl)) (rl23.mono (s.get 0 rfl)) rfl)) rfl (rj_v rfl rfl (v_not rfl) rfl (rj_end (qs_n (wp_cf rfl (wp_sk (qs_bn (qs_n (wp_sq (sq_v rfl (v_move rfl) rfl ?_))))))))); refine sq_v rfl (v_add rfl rfl ((by unfold I64; omega))) rfl ?_; refine sq_v rfl (v_assign rfl) rfl (sq_end ?_); exact qs_bk (i + 1) (by omega) (by omega) ⟨rfl, rfl, rfl, (by first | rfl | exact ksub rfl (by first | omega | (simp; done) | (simp; omega))), trivial⟩ (fun _ s => s)
  · refine wp_ex (qs_x (qs_x (qs_bx (qs_n (wp_sc (wp_sq (sq_v rfl (v_assign rfl) rfl (sq_end (qs_n (wp_rt ?_)))))))))); exact qs_ret1 rfl rfl (fin_v (i := 0) rfl)
theorem ct_l_eqDecomposition (bs : List (List Int)) (ps : List Int) (a b a' b' : Value) (w : World) (r : LLR bs a (hp w)) (r' : IntsR ps b (hp w)) (q : LLR bs a' (hp w)) (q' : IntsR ps b' (hp w)) : Calls Tryz.prog 30 [decV a b, decV a' b'].toArray w (RetV w (.bool true)) := by
  refine calls_in Tryz.func30 rfl Tryz.ntmps30 rfl (Sat.start w) ?_; have hle0 := r.le; obtain ⟨cs_r, rr_r, hc_r⟩ := r.at; have hle1 := r'.le; have hle2 := q.le; obtain ⟨cs_q, rr_q, hc_q⟩ := q.at; have hle3 := q'.le; refine wp_sc (wp_sq ?_); refine sq_x rfl (x_box rfl rfl) rfl ?_; rintro _ _ ⟨b2, rfl, rfl⟩; refine sq_x rfl (x_box rfl rfl) rfl ?_; rintro _ _ ⟨b3, rfl, rfl⟩; refine sq_v rfl (v_assign rfl) rfl (sq_end (qs_n (wp_sc (wp_sc (wp_sq (sq_v rfl (v_fieldAddr fd_60_0 ty_55 (by decide) rfl) rfl (sq_v rfl (v_loadB 1 ty_55 rfl rfl rfl) rfl (sq_v rfl (v_fieldAddr fd_60_0 ty_55 (by decide) rfl) rfl (sq_v rfl (v_loadB 0 ty_55 rfl rfl rfl) rfl (sq_u rfl (x_callv rfl en_106 (fun w s => ct_l_eqIntSS _ _ _ w (r.mono (s.get 2 rfl)) (q.mono (s.get 2 rfl)))) rfl (sq_v rfl (v_not rfl) rfl (sq_end (qs_n (wp_cf rfl (wp_sk (qs_n (wp_sc (wp_sc (wp_sq (sq_v rfl (v_fieldAddr fd_60_1 ty_25 (by decide) rfl) rfl (sq_v rfl (v_loadB 1 ty_25 rfl rfl rfl) rfl ?_))))))))))))))))))))); refine sq_v rfl (v_fieldAddr fd_60_1 ty_25 (by decide) rfl) rfl (sq_v rfl (v_loadB 0 ty_25 rfl rfl rfl) rfl (sq_u rfl (x_callv rfl en_75 (fun w s => ct_l_eqIntS _ _ _ _ w (r'.mono (s.get 2 rfl)) (q'.mono (s.get 2 rfl)) (by first | assumption | exact iota_held _ _ | omega | rfl))) rfl (sq_v rfl (v_not rfl) rfl (sq_end (qs_n (wp_cf rfl (wp_sk (qs_n (wp_sc (wp_sq (sq_v rfl (v_assign rfl) rfl (sq_end (qs_n (wp_rt ?_)))))))))))))); exact qs_ret1 rfl rfl (fin_v (i := 2) rfl)
end Go.Proofs.YthlmjnihihbckaaGreat
namespace Go.Proofs.YthlmjnihihbckaaGreat
set_option maxRecDepth 100000
open Go.ChangeShapes Go.WideShapes Go.ChangeAt Go.RowKit
section
variable {H : Type} {enc : TypeId × Value → H} {w : World} {base : Nat} {sp : Nat → Bool} {hd : Bool}
theorem rd_lr {fuel : Nat} {cs : List Value} {x : DataW H × List MemPlace} (h : DataW.trod enc Tryz.prog w base sp hd fuel 25 cs = some x) : ∃ l, LR l cs (hp w) := by
  obtain ⟨v, l, e, r, _⟩ := rd_ints Tryz.underlying25 Tryz.underlying3 (cellsOf_ty ty_3) h; exact ⟨l, v, e, r⟩
theorem arg_dec {v : Value} {d : DataW H} {p : List MemPlace} {r : Reach} {b : Nat} (hv : Value.okWide Tryz.prog w r b 57 v) (h : DataW.Trod enc Tryz.prog w base sp hd 57 v d p) : ∃ bs ps a b', v = decV a b' ∧ LLR bs a (hp w) ∧ IntsR ps b' (hp w) := by
  obtain ⟨cs, rfl, _⟩ := okWide_struct Tryz.underlying57 hv; obtain ⟨f, hf⟩ := h; obtain ⟨hl, hf⟩ := rd_field Tryz.underlying57 hf; rw [cellsOf_ty ty_57] at hl; obtain ⟨n0, y0, h0⟩ := hf 0 _ _ fd_57_0; obtain ⟨n1, y1, h1⟩ := hf 1 _ _ fd_57_1; rw [cellsOf_ty ty_55] at h0; rw [cellsOf_ty ty_25] at h1; obtain ⟨a, bs, e0, r0⟩ := rd_rows (R := LR) Tryz.underlying55 (cellsOf_ty ty_25) (by decide) (fun h => rd_lr h) h0; obtain ⟨b', ps, e1, r1, _⟩ := rd_ints Tryz.underlying25 Tryz.underlying3 (cellsOf_ty ty_3) h1; obtain ⟨l⟩ := cs; simp only [Value.cells] at hl e0 e1
  match l, hl with
  | [a1, a2], _ =>
    simp at e0 e1
    subst e0 e1; exact ⟨bs, ps, _, _, rfl, r0, r1⟩
end
theorem set_mid {A B : List (List Int)} {l l' : List Int} {i : Nat} (hA : A.length = i) : (A ++ l :: B).set i l' = A ++ l' :: B := by
  rw [List.set_append_right _ _ (by omega), hA, Nat.sub_self]; rfl
theorem ct_l_markIntSS (bs : List (List Int)) (v : Value) (k : Int) (w : World) (h : PH) (hle : PLe h (hp w)) (r : LLO bs v h) (hk : 0 ≤ k ∧ k + llSize bs ≤ 4611686018427387904) :
    Calls Tryz.prog 107 [v, num k].toArray w (Ret w h (fun u h' => u = num (k + llSize bs) ∧ ∃ bs', LLO bs' v h')) := by
  obtain ⟨vs, h0, hs, r0, ow, md⟩ := r; have hx : (bs.length : Int) ≤ 9223372036854775807 := by obtain ⟨_, _, _, _, ⟨h, _⟩, _⟩ := r0.toR; unfold maxLen at h; omega
  refine calls_in Tryz.func107 rfl Tryz.ntmps107 rfl (Sat.start2 hle) (wp_sc (wp_sq (sq_v rfl (v_assign rfl) rfl (sq_end (qs_n (wp_sc (wp_sc (wp_sq (sq_v rfl (v_assign rfl) rfl (sq_end (qs_n (wp_bl ?_)))))))))))); refine wp_lp (fun s : Nat × List (List Int) × List PH => [(0, v), (1, num (k + llSize (bs.take s.1))), (5, num s.1)]) (fun s => restP w h :: h0 :: s.2.2) (fun s => s.1 ≤ bs.length ∧ s.2.1.length = s.1 ∧ OwnL (s.2.1 ++ bs.drop s.1) vs s.2.2) (fun s => bs.length - s.1) (0, [], hs) ⟨by omega, rfl, ow⟩ ⟨rfl, by show _ = some (num (k + 0)); rw [Int.add_zero]; rfl, rfl, trivial⟩ (fun _ s => Sat.open (A := [restP w h]) md s) ?_; rintro ⟨i, A, hs'⟩ ⟨hi, hA, ow'⟩; dsimp only at hi hA ow' ⊢; refine wp_sc (wp_sc (wp_sq (sq_v rfl (v_move rfl) rfl (sq_v rfl (v_move rfl) rfl (sq_v rfl (v_len Tryz.underlying55 rfl r0.toR.sl) rfl (sq_v rfl (v_lss rfl rfl) rfl (sq_end (qs_n ?_)))))))); refine wp_cd rfl (fun c9 => ?_) (fun c9 => ?_)
  · refine wp_sk (qs_n (wp_sc (wp_bl (wp_sq (sq_v rfl (v_move rfl) rfl (sq_v rfl (v_move rfl) rfl ?_)))))); obtain ⟨l, hl⟩ : ∃ l, bs[i]? = some l := ⟨_, List.getElem?_eq_getElem (by omega)⟩; rw [show bs.drop i = l :: bs.drop (i + 1) by rw [List.drop_eq_getElem_cons (by omega)]; congr 1; exact (List.getElem?_eq_some_iff.1 hl).2] at ow'; obtain ⟨a, h1, e1, g1, o1⟩ := ow'.own i l (by rw [← hA]; simp); have hst := llSize_step hl; have htk := llSize_take bs (i + 1); have hnd := llSize_nn (bs.drop (i + 1)); have hnn := llSize_nn (bs.take i); have hvl := r0.1; refine sq_v rfl (v_indexAddr Tryz.underlying55 ty_25 rfl rfl r0.toR (by decide) (by omega) (by omega)) rfl (sq_v rfl (v_loadE 1 ty_25 rfl rfl r0.toR (by simpa using e1)) rfl (sq_v rfl (v_move rfl) rfl ?_)); refine sq_mT (A := [restP w h, h0]) i (2 + i) rfl rfl g1 (fun hp' => x_call rfl en_80 (fun w' s => ct_l_markIntS _ _ _ w' _ (s.get _ hp') o1 (by omega))) rfl ?_; rintro _ h18 ⟨rfl, o18⟩; refine sq_v rfl (v_assign rfl) rfl (sq_end (qs_bn (qs_n (wp_sq (sq_v rfl (v_move rfl) rfl ?_))))); refine sq_v rfl (v_add rfl rfl ((by unfold I64; omega))) rfl ?_; refine sq_v rfl (v_assign rfl) rfl (sq_end ?_); have ow3 := ow'.set e1 o18; rw [set_mid hA] at ow3; exact qs_bk (i + 1, A ++ [_], hs'.set i h18) ⟨by simp only; omega, by simp [hA], by simp only; rw [List.append_assoc]; exact ow3⟩ (by simp only; omega) ⟨rfl, by rw [hst, ← Int.add_assoc]; rfl, rfl, trivial⟩ (fun _ s => s)
  · refine wp_ex (qs_x (qs_x (qs_bx (qs_n (wp_sc (wp_sq (sq_v rfl (v_move rfl) rfl (sq_v rfl (v_assign rfl) rfl (sq_end (qs_n (wp_rt ?_))))))))))); have e : i = bs.length := by omega
    subst e; rw [List.drop_length, List.append_nil] at ow'; refine qs_close [restP w h] (h0 :: hs') (fun _ s => s) (fun md' => ?_); exact qs_ret1 rfl rfl (fin_m (i := 1) 0 rfl rfl rfl ⟨by rw [List.take_length], A, ⟨vs, h0, hs', by rw [hA]; exact r0, ow', md'⟩⟩)
def DecM (a b : Value) (e : Int) (u : Value) (h : PH) : Prop := u = num e ∧ ∃ bs' ps', DecO bs' ps' a b h
theorem ct_l_markDecomposition (bs : List (List Int)) (ps : List Int) (a b : Value) (k : Int) (w : World) (h : PH) (hle : PLe h (hp w)) (r : DecO bs ps a b h) (hk : 0 ≤ k ∧ k + llSize bs + ps.length ≤ 4611686018427387904) :
    Calls Tryz.prog 31 [decV a b, num k].toArray w (Ret w h (DecM a b (k + llSize bs + ps.length))) := by
  obtain ⟨h1, h2, r1, r2, md⟩ := r; have hnn := llSize_nn bs; have hent : Sat w [h1, h2, restP w h] w := Sat.pick (HS' := [h1, h2, restP w h]) (Sat.open (A := [restP w h]) md (Sat.start2 hle)) [1, 2, 0] (by decide) rfl; refine calls_in Tryz.func31 rfl Tryz.ntmps31 rfl hent (wp_sc (wp_sq ?_)); refine sq_x rfl (x_box rfl rfl) rfl ?_; rintro _ _ ⟨b2, rfl, rfl⟩; refine sq_v rfl (v_assign rfl) rfl (sq_end (qs_n (wp_sc (wp_sq (sq_v rfl (v_fieldAddr fd_60_0 ty_55 (by decide) rfl) rfl (sq_v rfl (v_loadB 0 ty_55 rfl rfl rfl) rfl (sq_v rfl (v_move rfl) rfl ?_))))))); refine sq_m 1 rfl rfl (x_call rfl en_107 (fun w s => ct_l_markIntSS bs _ _ w _ (s.get 1 rfl) r1 (by omega))) rfl ?_; rintro _ h8 ⟨rfl, bs', r8⟩; refine sq_v rfl (v_assign rfl) rfl (sq_end (qs_n (wp_sc (wp_sq (sq_v rfl (v_fieldAddr fd_60_1 ty_25 (by decide) rfl) rfl (sq_v rfl (v_loadB 0 ty_25 rfl rfl rfl) rfl (sq_v rfl (v_move rfl) rfl ?_))))))); refine sq_m 2 rfl rfl (x_call rfl en_80 (fun w s => ct_l_markIntS ps _ _ w _ (s.get 2 rfl) r2 (by omega))) rfl ?_; rintro _ h12 ⟨rfl, r12⟩; refine sq_v rfl (v_assign rfl) rfl (sq_end (qs_n (wp_sc (wp_sq (sq_v rfl (v_move rfl) rfl (sq_v rfl (v_assign rfl) rfl (sq_end (qs_n (wp_rt ?_))))))))); refine qs_close [box b2 _ _, restP w h] [h8, h12] (fun _ s => s.pick [0, 3, 1, 2] (by decide) rfl) (fun md' => ?_); exact qs_ret1 rfl rfl (fin_m (i := 2) 0 rfl rfl rfl ⟨rfl, bs', _, h8, h12, r8, r12, md'⟩)
end Go.Proofs.YthlmjnihihbckaaGreat
namespace Go.Proofs.YthlmjnihihbckaaGreat
set_option maxRecDepth 100000
open Go.RowKit
def digI (ds : List Int) (n : Int) (i : Nat) : Int := n / prodI (ds.drop (i + 1)) % ds.getD i 0
def idxL (ds : List Int) (n : Int) : List Int := (List.range ds.length).map fun i => digI ds n i
theorem idxL_len (ds : List Int) (n : Int) : (idxL ds n).length = ds.length := by simp [idxL]
theorem idxL_get {ds : List Int} {n : Int} {i : Nat} (h : i < ds.length) : (idxL ds n).getD i 0 = digI ds n i := by simp [idxL, List.getD, h]
theorem idxL_zero (ds : List Int) : idxL ds 0 = List.replicate ds.length 0 := by
  apply ext_getD (by simp [idxL_len])
  intro j hj; rw [idxL_len] at hj; rw [idxL_get hj, rep_getD]
  simp [digI]
theorem idxL_in {ds : List Int} (hd : ∀ d ∈ ds, 1 ≤ d) (n : Int) : idxIn ds (idxL ds n) := ⟨idxL_len ds n, fun j hj => by
  rw [idxL_get hj]; have := hd _ (mem_getD hj); exact ⟨Int.emod_nonneg _ (by omega), Int.emod_lt_of_pos _ (by omega)⟩⟩
theorem prod_at {ds : List Int} {i : Nat} (h : i < ds.length) : prodI (ds.drop i) = prodI (ds.drop (i + 1)) * ds.getD i 0 := by
  rw [drop_cons h, prodI_cons, Int.mul_comm]
theorem div_at {ds : List Int} (hd : ∀ d ∈ ds, 1 ≤ d) (n : Int) {i : Nat} (h : i < ds.length) : n / prodI (ds.drop i) = n / prodI (ds.drop (i + 1)) / ds.getD i 0 := by
  rw [prod_at h, ← Int.ediv_ediv_of_nonneg (by have := (prodI_drop hd (i + 1)).1; omega)]
theorem horn_idx {ds : List Int} (hd : ∀ d ∈ ds, 1 ≤ d) {n : Int} (h0 : 0 ≤ n) (h1 : n < prodI ds) : ∀ m, m ≤ ds.length → hornTo ds (idxL ds n) m = n / prodI (ds.drop m)
  | 0, _ => by
    rw [hornTo, List.drop_zero, Int.ediv_eq_zero_of_lt h0 h1]
  | m + 1, hm => by
    rw [hornTo, horn_idx hd h0 h1 m (by omega), idxL_get (by omega), div_at hd n (by omega), digI]; have := Int.ediv_mul_add_emod (n / prodI (ds.drop (m + 1))) (ds.getD m 0)
    omega
theorem offL_idx {ds : List Int} (hd : ∀ d ∈ ds, 1 ≤ d) {n : Int} (h0 : 0 ≤ n) (h1 : n < prodI ds) : offL ds (idxL ds n) = n := by
  rw [offL_end (idxL_len ds n).symm, horn_idx hd h0 h1 _ (Nat.le_refl _), List.drop_length]
  simp [prodI]
theorem mix_down {A B : List Int} {k : Nat} (h : A.length = B.length) (hk : k < A.length) : (mixL A B (k + 1)).set k (B.getD k 0) = mixL A B k := by
  apply ext_getD
  · rw [List.length_set, mix_len h (by omega), mix_len h (by omega)]
  · intro j hj; rw [List.length_set, mix_len h (by omega)] at hj
    by_cases e : j = k
    · subst e; rw [mix_get (by omega) (Nat.le_refl _)]; simp only [List.getD]; rw [List.getElem?_set_self (by rw [mix_len h (by omega)]; omega)]; rfl
    · have hs : ((mixL A B (k + 1)).set k (B.getD k 0)).getD j 0 = (mixL A B (k + 1)).getD j 0 := by simp only [List.getD]; rw [List.getElem?_set_ne (by omega)]
      rw [hs]
      by_cases hj2 : k ≤ j
      · rw [mix_get (by omega) (by omega), mix_get (by omega) hj2]
      · simp only [mixL, List.getD]; rw [List.getElem?_append_left (by simp; omega), List.getElem?_append_left (by simp; omega), List.getElem?_take, List.getElem?_take, if_pos (by omega), if_pos (by omega)]
theorem mix_low {A B : List Int} {k j : Nat} (hk : k ≤ A.length) (hj : j < k) : (mixL A B k).getD j 0 = A.getD j 0 := by
  simp only [mixL, List.getD]; rw [List.getElem?_append_left (by simp; omega), List.getElem?_take, if_pos hj]
theorem mix_full {A B : List Int} {k : Nat} (h : A.length = B.length) (hk : k ≤ A.length) (e : ∀ j, j < k → A.getD j 0 = B.getD j 0) : mixL A B k = B := by
  apply ext_getD (by rw [mix_len h hk, h])
  intro j hj; rw [mix_len h hk] at hj
  by_cases hjk : j < k
  · rw [mix_low hk hjk, e j hjk]
  · rw [mix_get hk (by omega)]
set_option maxHeartbeats 1000000 in
theorem ct_s_l05Index (ds : List Int) (n : Int) (v : Value) (w : World) (r : IntsR ds v (hp w)) (hd : ∀ d ∈ ds, 1 ≤ d ∧ d ≤ 8) (hn : 0 ≤ n ∧ n ≤ 1000000000000) (hl : ds.length ≤ 1000000) :
    Calls Tryz.prog 225 [v, num n].toArray w (Ret w emp (IntsO (idxL ds n))) := by
  have hd1 : ∀ d ∈ ds, 1 ≤ d := fun d h => (hd d h).1; have hil := idxL_len ds n; refine calls_in Tryz.func225 rfl Tryz.ntmps225 rfl (Sat.start w) ?_; have hle0 := r.le; refine wp_sc (wp_sq (sq_v rfl (v_assign rfl) rfl (sq_end (qs_n (wp_sc (wp_sq (sq_v rfl (v_move rfl) rfl (sq_v rfl (v_len Tryz.underlying25 rfl r.sl) rfl ?_)))))))); refine sq_x rfl (x_makeI Tryz.underlying25 ty_3 rfl rfl (by omega) (by omega) (by omega)) rfl ?_; intro v9 h9 r9; refine sq_v rfl (v_assign rfl) rfl (sq_end (qs_n (wp_sc (wp_sc (wp_sq (sq_v rfl (v_move rfl) rfl (sq_v rfl (v_len Tryz.underlying25 rfl r.sl) rfl ?_))))))); refine sq_v rfl (v_sub rfl rfl ((by unfold I64; omega))) rfl ?_; refine sq_v rfl (v_assign rfl) rfl (sq_end (qs_n (wp_bl ?_))); refine wp_lp (σ := Nat × Int × PH) (fun z_ => [(0, v), (1, num z_.2.1), (4, .slice none 0 0), (5, v9), (6, num ((z_.1 : Int) - 1))]) (fun z_ => [z_.2.2, hp w]) (fun z_ => z_.1 ≤ ds.length ∧ z_.2.1 = n / prodI (ds.drop z_.1) ∧ IntsO (mixL (List.replicate ds.length 0) (idxL ds n) z_.1) v9 z_.2.2) (fun z_ => z_.1) (ds.length, n, h9) (⟨by (try dsimp only); omega, by (try dsimp only); simp [prodI], by (try dsimp only); rw [mix_end (by simp [idxL_len]) (by simp)]; simpa using r9⟩) ⟨rfl, rfl, rfl, rfl, rfl, trivial⟩ (fun _ s => s) ?_; rintro ⟨m, q, g⟩ ⟨hm, hq, q9⟩; dsimp only at hm hq q9 ⊢; have hle_q9 := q9.toR.le; have hpd := (prodI_drop hd1 m).1; have hq0 : 0 ≤ q ∧ q ≤ n := by rw [hq]; exact ⟨Int.ediv_nonneg hn.1 (by omega), Int.ediv_le_self _ hn.1⟩
  have hml : (mixL (List.replicate ds.length 0) (idxL ds n) m).length = ds.length := by rw [mix_len (by simp [idxL_len]) (by simp; omega)]; simp
  have em : ((m : Int) - 1).toNat = m - 1 := by omega
  refine wp_sc (wp_sc (wp_sq (sq_v rfl (v_move rfl) rfl (sq_v rfl (v_geq rfl rfl) rfl (sq_end (qs_n ?_)))))); refine wp_cd rfl (fun c14 => ?_) (fun c14 => ?_)
  · refine wp_sk (qs_n (wp_sc (wp_bl (wp_sc (wp_sq (sq_v rfl (v_move rfl) rfl (sq_v rfl (v_move rfl) rfl (sq_v rfl (v_move rfl) rfl (sq_v rfl (v_move rfl) rfl (sq_v rfl (v_move rfl) rfl (sq_v rfl (v_idxI Tryz.underlying25 ty_3 rfl rfl r (by omega) (by omega)) rfl (sq_v rfl (v_loadI  1 ty_3 rfl rfl r (by omega)) rfl ?_)))))))))))); have hdm := hd _ (mem_getD (show ((m : Int) - 1).toNat < ds.length by omega)); refine sq_v rfl (v_rem rfl rfl (by omega)) rfl (sq_v rfl (v_idxI Tryz.underlying25 ty_3 rfl rfl q9.toR (by omega) (by omega)) rfl ?_); refine sq_m 0 rfl rfl (m_storeI 0 ty_3 rfl rfl rfl q9 (by omega)) rfl ?_; rintro _ h_q5_9 ⟨rfl, q5_9⟩; refine sq_end (qs_n (wp_sq (sq_v rfl (v_move rfl) rfl (sq_v rfl (v_move rfl) rfl (sq_v rfl (v_move rfl) rfl (sq_v rfl (v_idxI Tryz.underlying25 ty_3 rfl rfl r (by omega) (by omega)) rfl (sq_v rfl (v_loadI  1 ty_3 rfl rfl r (by omega)) rfl ?_))))))); have hqq : q.tdiv (ds.getD ((m : Int) - 1).toNat 0) = n / prodI (ds.drop (m - 1)) := (by rw [em, Int.tdiv_eq_ediv_of_nonneg hq0.1, div_at hd1 n (show m - 1 < ds.length by omega), hq, show m - 1 + 1 = m by omega]); have hq1 := (prodI_drop hd1 (m - 1)).1; have hq2 : 0 ≤ n / prodI (ds.drop (m - 1)) ∧ n / prodI (ds.drop (m - 1)) ≤ n := ⟨Int.ediv_nonneg hn.1 (by omega), Int.ediv_le_self _ hn.1⟩
    refine sq_v rfl (v_quo rfl rfl (by omega) (by unfold I64; omega)) rfl ?_; refine sq_v rfl (v_assign rfl) rfl (sq_end ?_); have hrr : q.tmod (ds.getD (m - 1) 0) = (idxL ds n).getD (m - 1) 0 := by rw [Int.tmod_eq_emod_of_nonneg hq0.1, idxL_get (by omega), digI, hq, show m - 1 + 1 = m by omega]
    have e := mix_down (A := List.replicate ds.length 0) (B := idxL ds n) (k := m - 1) (by simp [idxL_len]) (by simp; omega); rw [show m - 1 + 1 = m by omega] at e; rw [em, hrr, e] at q5_9; refine qs_bn (qs_n (wp_sq (sq_v rfl (v_move rfl) rfl ?_))); refine sq_v rfl (v_sub rfl rfl ((by unfold I64; omega))) rfl ?_; refine sq_v rfl (v_assign rfl) rfl (sq_end ?_); exact qs_bk (m - 1, q.tdiv (ds.getD ((m : Int) - 1).toNat 0), h_q5_9) ⟨by (try dsimp only); omega, hqq, q5_9⟩ (by simp only; omega) ⟨rfl, rfl, rfl, rfl, (by first | rfl | exact ksub rfl (by first | omega | (simp; done) | (simp; omega))), trivial⟩ (fun _ s => s)
  · refine wp_ex (qs_x (qs_x (qs_bx (qs_n (wp_sc (wp_sq (sq_v rfl (v_move rfl) rfl (sq_v rfl (v_assign rfl) rfl (sq_end (qs_n (wp_rt ?_))))))))))); exact qs_ret1 rfl rfl (fin_t 0 (i := 1) rfl rfl rfl (by rw [show m = 0 by omega, mix_zero] at q9; exact q9))
theorem div_up {P n : Int} (hP : 1 ≤ P) (_hn : 0 ≤ n) (h : (n + 1) % P = 0) : (n + 1) / P = n / P + 1 := by
  have h1 := Int.ediv_mul_add_emod (n + 1) P; have e : n = (P - 1) + ((n + 1) / P - 1) * P := by rw [Int.sub_mul, Int.one_mul]; omega
  have h2 : n / P = (P - 1) / P + ((n + 1) / P - 1) := by
    conv => lhs; rw [e]
    exact Int.add_mul_ediv_right _ _ (by omega)
  rw [Int.ediv_eq_zero_of_lt (show 0 ≤ P - 1 by omega) (show P - 1 < P by omega)] at h2
  omega
theorem mod_up {x d : Int} (hd : 1 ≤ d) (h : x % d + 1 < d) : (x + 1) % d = x % d + 1 ∧ (x + 1) / d = x / d := by
  have h1 := Int.ediv_mul_add_emod x d; have h0 := Int.emod_nonneg x (show d ≠ 0 by omega); have e : x + 1 = (x % d + 1) + (x / d) * d := by omega
  constructor
  · conv => lhs; rw [e]
    rw [Int.add_mul_emod_self_right, Int.emod_eq_of_lt (by omega) h]
  · conv => lhs; rw [e]
    rw [Int.add_mul_ediv_right _ _ (by omega), Int.ediv_eq_zero_of_lt (by omega) h]
    omega
theorem mod_over {x d : Int} (hd : 1 ≤ d) (h : d ≤ x % d + 1) : (x + 1) % d = 0 := by
  have h1 := Int.ediv_mul_add_emod x d; have h0 := Int.emod_lt_of_pos x (show 0 < d by omega); have e : x + 1 = (x / d + 1) * d := by rw [Int.add_mul]; omega
  rw [e, Int.mul_emod_left]
theorem dig_yes {ds : List Int} (hd : ∀ d ∈ ds, 1 ≤ d) {n : Int} (hn : 0 ≤ n) {i : Nat} (hi : i < ds.length) (hP : (n + 1) % prodI (ds.drop (i + 1)) = 0) (h : digI ds n i + 1 < ds.getD i 0) :
    digI ds (n + 1) i = digI ds n i + 1 ∧ ∀ t, t ≤ i → (n + 1) / prodI (ds.drop (i - t)) = n / prodI (ds.drop (i - t)) := by
  have hp := (prodI_drop hd (i + 1)).1; have hdi := hd _ (mem_getD hi); have h1 := div_up hp hn hP; have h2 := mod_up hdi h; refine ⟨by unfold digI; rw [h1]; exact h2.1, fun t => ?_⟩
  induction t with
  | zero => intro _; rw [Nat.sub_zero, div_at hd _ hi, div_at hd _ hi, h1]; exact h2.2
  | succ t ih =>
    intro ht; rw [div_at hd (n + 1) (show i - (t + 1) < ds.length by omega), div_at hd n (show i - (t + 1) < ds.length by omega), show i - (t + 1) + 1 = i - t by omega, ih (by omega)]
theorem dig_same {ds : List Int} (hd : ∀ d ∈ ds, 1 ≤ d) {n : Int} (hn : 0 ≤ n) {i : Nat} (hi : i < ds.length) (hP : (n + 1) % prodI (ds.drop (i + 1)) = 0) (h : digI ds n i + 1 < ds.getD i 0) (j : Nat) (hj : j < i) : digI ds n j = digI ds (n + 1) j := by
  have := (dig_yes hd hn hi hP h).2 (i - (j + 1)) (by omega); rw [show i - (i - (j + 1)) = j + 1 by omega] at this
  unfold digI
  rw [this]
theorem dig_lt {ds : List Int} (hd : ∀ d ∈ ds, 1 ≤ d) {n : Int} (hn : 0 ≤ n) (h1 : n < prodI ds) {i : Nat} (hi : i < ds.length) (hP : (n + 1) % prodI (ds.drop (i + 1)) = 0) (h : digI ds n i + 1 < ds.getD i 0) : n + 1 < prodI ds := by
  have := (dig_yes hd hn hi hP h).2 i (Nat.le_refl i); rw [Nat.sub_self, List.drop_zero, Int.ediv_eq_zero_of_lt hn h1] at this; have hp := prodI_one hd
  by_cases e : n + 1 < prodI ds
  · exact e
  · have := (Int.le_ediv_iff_mul_le (show 0 < prodI ds by omega) (a := 1) (b := n + 1)).2 (by omega)
    omega
theorem dig_no {ds : List Int} (hd : ∀ d ∈ ds, 1 ≤ d) {n : Int} (hn : 0 ≤ n) {i : Nat} (hi : i < ds.length) (hP : (n + 1) % prodI (ds.drop (i + 1)) = 0) (h : ¬ digI ds n i + 1 < ds.getD i 0) :
    digI ds (n + 1) i = 0 ∧ (n + 1) % prodI (ds.drop i) = 0 := by
  have hp := (prodI_drop hd (i + 1)).1; have hdi := hd _ (mem_getD hi); have h1 := div_up hp hn hP; have h2 := mod_over hdi (x := n / prodI (ds.drop (i + 1))) (by unfold digI at h; omega); rw [← h1] at h2; refine ⟨h2, ?_⟩; have a := Int.dvd_of_emod_eq_zero h2; have e := Int.ediv_mul_add_emod (n + 1) (prodI (ds.drop (i + 1))); rw [hP] at e; have : prodI (ds.drop (i + 1)) * ds.getD i 0 ∣ prodI (ds.drop (i + 1)) * ((n + 1) / prodI (ds.drop (i + 1))) := Int.mul_dvd_mul_left _ a; rw [← prod_at hi, Int.mul_comm (prodI (ds.drop (i + 1))), show (n + 1) / prodI (ds.drop (i + 1)) * prodI (ds.drop (i + 1)) = n + 1 by omega] at this; exact Int.emod_eq_zero_of_dvd this
theorem idx_yes {ds : List Int} (hd : ∀ d ∈ ds, 1 ≤ d) {n : Int} (hn : 0 ≤ n) {m : Nat} (h1 : 1 ≤ m) (hm : m ≤ ds.length) (hP : (n + 1) % prodI (ds.drop m) = 0) (h : digI ds n (m - 1) + 1 < ds.getD (m - 1) 0) :
    (mixL (idxL ds n) (idxL ds (n + 1)) m).set (m - 1) (digI ds n (m - 1) + 1) = idxL ds (n + 1) := by
  obtain ⟨k, rfl⟩ : ∃ k, m = k + 1 := ⟨m - 1, by omega⟩
  rw [Nat.add_sub_cancel] at h ⊢; have hl1 := idxL_len ds n; have hl2 := idxL_len ds (n + 1); have hy := dig_yes hd hn (show k < ds.length by omega) hP h; rw [← hy.1, ← idxL_get (show k < ds.length by omega), mix_down (by omega) (by omega)]; refine mix_full (by omega) (by omega) fun j hj => ?_; rw [idxL_get (by omega), idxL_get (by omega)]; exact dig_same hd hn (show k < ds.length by omega) hP h j hj
theorem idx_no {ds : List Int} (hd : ∀ d ∈ ds, 1 ≤ d) {n : Int} (hn : 0 ≤ n) {m : Nat} (h1 : 1 ≤ m) (hm : m ≤ ds.length) (hP : (n + 1) % prodI (ds.drop m) = 0) (h : ¬ digI ds n (m - 1) + 1 < ds.getD (m - 1) 0) :
    (mixL (idxL ds n) (idxL ds (n + 1)) m).set (m - 1) 0 = mixL (idxL ds n) (idxL ds (n + 1)) (m - 1) ∧ (n + 1) % prodI (ds.drop (m - 1)) = 0 := by
  obtain ⟨k, rfl⟩ : ∃ k, m = k + 1 := ⟨m - 1, by omega⟩
  rw [Nat.add_sub_cancel] at h ⊢; have hl1 := idxL_len ds n; have hl2 := idxL_len ds (n + 1); have hy := dig_no hd hn (show k < ds.length by omega) hP h; refine ⟨?_, hy.2⟩; rw [← mix_down (A := idxL ds n) (B := idxL ds (n + 1)) (k := k) (by omega) (by omega), idxL_get (show k < ds.length by omega), hy.1]
theorem idx_end {P n : Int} (hn : 0 ≤ n) (_h1 : n < P) (h : (n + 1) % P = 0) : ¬ n + 1 < P := fun hlt => by
  rw [Int.emod_eq_of_lt (by omega) hlt] at h
  omega
set_option maxHeartbeats 1000000 in
theorem ct_i_nextIndex (ds : List Int) (n : Int) (u v : Value) (w : World) (h : PH) (hle : PLe h (hp w)) (r : IntsR ds u (restP w h)) (ri : IntsO (idxL ds n) v h) (hd : ∀ d ∈ ds, 1 ≤ d ∧ d ≤ 8) (hn : 0 ≤ n ∧ n < prodI ds) (hl : ds.length ≤ 1000000) :
    Calls Tryz.prog 180 [u, v].toArray w (Ret w h (fun x h' => x = .bool (decide (n + 1 < prodI ds)) ∧ IntsO (idxL ds (n + 1)) v h')) := by
  have hd1 : ∀ d ∈ ds, 1 ≤ d := fun d h => (hd d h).1; have hil := idxL_len ds n; have hil2 := idxL_len ds (n + 1); refine calls_in Tryz.func180 rfl Tryz.ntmps180 rfl (Sat.start2 hle) ?_; have hle0 := r.le; have hle1 := ri.toR.le; refine wp_sc (wp_sq (sq_v rfl (v_assign rfl) rfl (sq_end (qs_n (wp_sc (wp_sc (wp_sq (sq_v rfl (v_move rfl) rfl (sq_v rfl (v_len Tryz.underlying25 rfl r.sl) rfl ?_))))))))); refine sq_v rfl (v_sub rfl rfl ((by unfold I64; omega))) rfl ?_; refine sq_v rfl (v_assign rfl) rfl (sq_end (qs_n (wp_bl ?_))); refine wp_lp (σ := Nat × PH) (fun z_ => [(0, u), (1, v), (4, .bool false), (5, num ((z_.1 : Int) - 1))]) (fun z_ => [z_.2, (restP w h)]) (fun z_ => z_.1 ≤ ds.length ∧ (n + 1) % prodI (ds.drop z_.1) = 0 ∧ IntsO (mixL (idxL ds n) (idxL ds (n + 1)) z_.1) v z_.2) (fun z_ => z_.1) (ds.length, h) (⟨by (try dsimp only); omega, by (try dsimp only); simp [prodI, Int.emod_one], by (try dsimp only); rw [mix_end (by omega) (by omega)]; exact ri⟩) ⟨rfl, rfl, rfl, rfl, trivial⟩ (fun _ s => s) ?_; rintro ⟨m, g⟩ ⟨hm, hP, q⟩; dsimp only at hm hP q ⊢; have hle_q := q.toR.le; have hml := mix_len (A := idxL ds n) (B := idxL ds (n + 1)) (k := m) (by omega) (by omega); have em : ((m : Int) - 1).toNat = m - 1 := by omega
  refine wp_sc (wp_sc (wp_sq (sq_v rfl (v_move rfl) rfl (sq_v rfl (v_geq rfl rfl) rfl (sq_end (qs_n ?_)))))); refine wp_cd rfl (fun c10 => ?_) (fun c10 => ?_)
  · refine wp_sk (qs_n (wp_sc (wp_bl (wp_sc (wp_sq (sq_v rfl (v_move rfl) rfl (sq_v rfl (v_move rfl) rfl ?_))))))); have hk : m - 1 < ds.length := (by omega); have hdm := hd _ (mem_getD hk); have hlow : (mixL (idxL ds n) (idxL ds (n + 1)) m).getD ((m : Int) - 1).toNat 0 = digI ds n (m - 1) := (by rw [em, mix_low (by omega) (by omega), idxL_get hk]); have hdg := (idxL_in hd1 n).2 (m - 1) hk; rw [idxL_get hk] at hdg; refine sq_v rfl (v_idxI Tryz.underlying25 ty_3 rfl rfl q.toR (by omega) (by omega)) rfl (sq_v rfl (v_loadI  0 ty_3 rfl rfl q.toR (by omega)) rfl ?_); refine sq_v rfl (v_add rfl rfl ((by unfold I64; omega))) rfl ?_; refine sq_v rfl (v_idxI Tryz.underlying25 ty_3 rfl rfl q.toR (by omega) (by omega)) rfl ?_; refine sq_m 0 rfl rfl (m_storeI 0 ty_3 rfl rfl rfl q (by omega)) rfl ?_; rintro _ h_q4_6 ⟨rfl, q4_6⟩; refine sq_end ?_; rw [hlow, em] at q4_6; refine qs_n (wp_sc (wp_sc (wp_rj 9 [(0, true), (1, true), (2, true), (3, true), (4, true), (5, true), (6, true), (7, true), (8, true)] mixed_ok (by kernel_rfl) (rj_v rfl rfl (v_move rfl) rfl (rj_v rfl rfl (v_move rfl) rfl ?_))))); refine rj_v rfl rfl (v_idxI Tryz.underlying25 ty_3 rfl rfl q4_6.toR (by omega) (by first | omega | (simp; omega) | (simp only [List.length_append, List.length_cons, List.length_nil]; omega) | (rw [List.length_set]; omega))) rfl ?_; refine rj_v rfl rfl (v_loadI  0 ty_3 rfl rfl q4_6.toR (by first | omega | (simp; omega) | (simp only [List.length_append, List.length_cons, List.length_nil]; omega) | (rw [List.length_set]; omega))) rfl ?_; refine rj_v rfl rfl (v_move rfl) rfl (rj_v rfl rfl (v_move rfl) rfl (rj_v rfl rfl (v_idxI Tryz.underlying25 ty_3 rfl rfl r (by omega) (by omega)) rfl (rj_v rfl rfl (v_loadI  1 ty_3 rfl rfl r (by omega)) rfl (rj_v rfl rfl (v_lss rfl rfl) rfl (rj_end ?_))))); have hg4 : ((mixL (idxL ds n) (idxL ds (n + 1)) m).set (m - 1) (digI ds n (m - 1) + 1)).getD ((m : Int) - 1).toNat 0 = digI ds n (m - 1) + 1 := by rw [em]; simp only [List.getD]; rw [List.getElem?_set_self (by omega)]; rfl
    have hc : (((mixL (idxL ds n) (idxL ds (n + 1)) m).set (m - 1) (digI ds n (m - 1) + 1)).getD ((m : Int) - 1).toNat 0 < ds.getD ((m : Int) - 1).toNat 0) ↔ digI ds n (m - 1) + 1 < ds.getD (m - 1) 0 := by rw [hg4, em]
    refine qs_n ?_; refine wp_cd rfl (fun c27 => ?_) (fun c27 => ?_)
    · refine wp_sc (wp_sq (sq_v rfl (v_assign rfl) rfl (sq_end (qs_n (wp_rt (qs_r (qs_br (qs_r (qs_r (qs_br (qs_r ?_))))))))))); exact qs_ret1 rfl rfl (fin_m 0 (i := 1) rfl rfl rfl (⟨by rw [decide_eq_true (dig_lt hd1 hn.1 hn.2 hk (by rw [show m - 1 + 1 = m by omega]; exact hP) (hc.1 c27))], by rw [← idx_yes hd1 hn.1 (by omega) hm hP (hc.1 c27)]; exact q4_6⟩))
    · refine wp_sk (qs_n (wp_sq (sq_v rfl (v_move rfl) rfl (sq_v rfl (v_move rfl) rfl ?_)))); refine sq_v rfl (v_idxI Tryz.underlying25 ty_3 rfl rfl q4_6.toR (by omega) (by first | omega | (simp; omega) | (simp only [List.length_append, List.length_cons, List.length_nil]; omega) | (rw [List.length_set]; omega))) rfl ?_; refine sq_m 0 rfl rfl (m_storeI 0 ty_3 rfl rfl rfl q4_6 (by first | omega | (simp; omega) | (simp only [List.length_append, List.length_cons, List.length_nil]; omega) | (rw [List.length_set]; omega))) rfl ?_; rintro _ h_q7_3 ⟨rfl, q7_3⟩; refine sq_end ?_; have hno := idx_no hd1 hn.1 (show 1 ≤ m by omega) hm hP (fun h => c27 (hc.2 h)); rw [em, List.set_set, hno.1] at q7_3; refine qs_bn (qs_n (wp_sq (sq_v rfl (v_move rfl) rfl ?_))); refine sq_v rfl (v_sub rfl rfl ((by unfold I64; omega))) rfl ?_; refine sq_v rfl (v_assign rfl) rfl (sq_end ?_); exact qs_bk (m - 1, h_q7_3) ⟨by (try dsimp only); omega, hno.2, q7_3⟩ (by simp only; omega) ⟨rfl, rfl, rfl, (by first | rfl | exact ksub rfl (by first | omega | (simp; done) | (simp; omega))), trivial⟩ (fun _ s => s)
  · refine wp_ex (qs_x (qs_x (qs_bx (qs_n (wp_sc (wp_sq (sq_v rfl (v_assign rfl) rfl (sq_end (qs_n (wp_rt ?_)))))))))); exact qs_ret1 rfl rfl (fin_m 0 (i := 1) rfl rfl rfl (⟨by rw [show m = 0 by omega, List.drop_zero] at hP; rw [decide_eq_false (idx_end hn.1 hn.2 hP)], by rw [show m = 0 by omega, mix_zero] at q; exact q⟩))
end Go.Proofs.YthlmjnihihbckaaGreat
namespace Go.Proofs.YthlmjnihihbckaaGreat
set_option maxRecDepth 100000
open Go.RowKit
def setP (xs ys : List Int) (j : Nat) : Prop := ys.getD j 0 ∈ xs ∧ ys.getD j 0 ∉ ys.take j
def setL (xs ys : List Int) : Prop := xs.length = ys.length ∧ ∀ j, j < ys.length → setP xs ys j
open Classical in
noncomputable def setB (xs ys : List Int) : Bool := decide (setL xs ys)
theorem setB_no {xs ys : List Int} (h : ¬ setL xs ys) : Value.bool false = .bool (setB xs ys) := by simp [setB, h]
theorem setB_yes {xs ys : List Int} (h : setL xs ys) : Value.bool true = .bool (setB xs ys) := by simp [setB, h]
theorem setB_true {xs ys : List Int} : setB xs ys = true ↔ setL xs ys := by simp [setB]
theorem setB_false {xs ys : List Int} : setB xs ys = false ↔ ¬ setL xs ys := by simp [setB]
theorem ct_i_sameLabels (xs ys : List Int) (v u : Value) (w : World) (r : IntsR xs v (hp w)) (r' : IntsR ys u (hp w)) : Calls Tryz.prog 233 [v, u].toArray w (RetV w (.bool (setB xs ys))) := by
  refine calls_in Tryz.func233 rfl Tryz.ntmps233 rfl (Sat.start w) ?_; have hle0 := r.le; have hle1 := r'.le; refine wp_sc (wp_sq (sq_v rfl (v_assign rfl) rfl (sq_end (qs_n (wp_sc (wp_sc (wp_sq (sq_v rfl (v_move rfl) rfl (sq_v rfl (v_len Tryz.underlying25 rfl r'.sl) rfl (sq_v rfl (v_move rfl) rfl (sq_v rfl (v_len Tryz.underlying25 rfl r.sl) rfl (sq_v rfl (v_neq rfl rfl) rfl (sq_end (qs_n ?_)))))))))))))); refine wp_cd rfl (fun c11 => ?_) (fun c11 => ?_)
  · refine wp_sc (wp_sq (sq_v rfl (v_assign rfl) rfl (sq_end (qs_n (wp_rt (qs_r ?_)))))); exact qs_ret1 rfl rfl (fin_q (i := 0) rfl (setB_no (fun h => by have := h.1; omega)))
  · refine wp_sk (qs_n (wp_sc (wp_sc (wp_sq (sq_v rfl (v_move rfl) rfl (sq_v rfl (v_len Tryz.underlying25 rfl r'.sl) rfl (sq_v rfl (v_move rfl) rfl (sq_end (qs_n (wp_bl (wp_lp (σ := Nat) (fun z_ => [(0, v), (1, u), (4, .bool false), (12, u), (13, num ys.length), (14, num z_)]) (fun z_ => [hp w]) (fun z_ => z_ ≤ ys.length ∧ (∀ j, j < z_ → setP xs ys j)) (fun z_ => ys.length - z_) 0 (⟨by omega, fun j hj => by omega⟩) ⟨rfl, rfl, rfl, rfl, rfl, rfl, trivial⟩ (fun _ s => s) ?_))))))))))); rintro i ⟨hi, hv⟩; refine wp_sc (wp_sq (sq_v rfl (v_lss rfl rfl) rfl (sq_end (qs_n (wp_sc ?_))))); refine wp_cd rfl (fun c15 => ?_) (fun c15 => ?_)
    · refine wp_sk (qs_n (wp_sc (wp_bl (wp_sc (wp_sq (sq_v rfl (v_move rfl) rfl (sq_v rfl (v_idxI Tryz.underlying25 ty_3 rfl rfl r' (by omega) (by omega)) rfl (sq_v rfl (v_loadI (k := i) 0 ty_3 rfl rfl r' (by omega)) rfl (sq_v rfl (v_assign rfl) rfl (sq_v rfl (v_assign rfl) rfl (sq_end (qs_n (wp_sc (wp_sq (sq_v rfl (v_move rfl) rfl (sq_v rfl (v_move rfl) rfl (sq_v rfl (v_sliceH Tryz.underlying25 ty_3 rfl rfl  r' (by omega) (by omega)) rfl (sq_v rfl (v_move rfl) rfl (sq_u rfl (x_callv rfl en_146 (fun w s => ct_i_hasInt _ _ _ w ((r'.subH (hi := i) (by omega)).mono (s.get 0 rfl)))) rfl ?_))))))))))))))))))); refine sq_bd 23 rfl (fun c23 => ?_) (fun c23 => ?_)
      · refine sq_v rfl (v_move rfl) rfl (sq_s rfl rfl (sq_s rfl rfl (sq_s rfl rfl (sq_s rfl rfl (sq_v rfl (v_pickt rfl rfl) rfl (sq_end (qs_n (wp_ct rfl (wp_sc (wp_sq (sq_v rfl (v_assign rfl) rfl (sq_end (qs_n (wp_rt (qs_br (qs_r (qs_r (qs_br (qs_r ?_))))))))))))))))))); exact qs_ret1 rfl rfl (fin_q (i := 0) rfl (setB_no (fun h => by have h1 := h.2 i (by omega); first | exact h1.2 c23 | exact c29 h1.1)))
      · refine sq_v rfl (v_move rfl) rfl (sq_v rfl (v_move rfl) rfl (sq_v rfl (v_move rfl) rfl (sq_u rfl (x_callv rfl en_146 (fun w s => ct_i_hasInt _ _ _ w (r.mono (s.get 0 rfl)))) rfl (sq_v rfl (v_not rfl) rfl (sq_v rfl (v_pickf rfl rfl) rfl (sq_end (qs_n ?_))))))); refine wp_cnd rfl (fun c29 => ?_) (fun c29 => ?_)
        · refine wp_sc (wp_sq (sq_v rfl (v_assign rfl) rfl (sq_end (qs_n (wp_rt (qs_br (qs_r (qs_r (qs_br (qs_r ?_)))))))))); exact qs_ret1 rfl rfl (fin_q (i := 0) rfl (setB_no (fun h => by have h1 := h.2 i (by omega); first | exact h1.2 c23 | exact c29 h1.1)))
        · refine wp_sk (qs_bn (qs_n (wp_sq ?_))); refine sq_v rfl (v_add rfl rfl ((by unfold I64; omega))) rfl ?_; refine sq_v rfl (v_move rfl) rfl (sq_end ?_); exact qs_bk (i + 1) ⟨by omega, step_all hv ⟨c29, c23⟩⟩ (by omega) ⟨rfl, rfl, rfl, rfl, rfl, rfl, trivial⟩ (fun _ s => s)
    · refine wp_ex (qs_x (qs_x (qs_bx (qs_n (wp_sc (wp_sq (sq_v rfl (v_assign rfl) rfl (sq_end (qs_n (wp_rt ?_)))))))))); exact qs_ret1 rfl rfl (fin_q (i := 0) rfl (setB_yes ⟨by omega, fun j hj => hv j (by omega)⟩))
theorem nodup_of {ys : List Int} (h : ∀ j, j < ys.length → ys.getD j 0 ∉ ys.take j) : ys.Nodup := by
  rw [List.Nodup, List.pairwise_iff_getElem]; intro i j hi hj hij e; refine h j hj ?_; simp only [List.getD, List.getElem?_eq_getElem hj, Option.getD_some]; rw [← e]; exact List.mem_iff_getElem.2 ⟨i, by simp; omega, by simp⟩
theorem perm_of : ∀ {xs ys : List Int}, xs.Nodup → (∀ x ∈ xs, x ∈ ys) → ys.length ≤ xs.length → xs.Perm ys
  | [], ys, _, _, hl => by
    have : ys = [] := List.eq_nil_of_length_eq_zero (by simpa using hl); rw [this]
  | x :: xs, ys, hn, hs, hl => by
    have hx := hs x (by simp); have hp := List.perm_cons_erase hx; have hnx := List.nodup_cons.1 hn; refine (List.Perm.cons x (perm_of hnx.2 (fun y hy => ?_) ?_)).trans hp.symm
    · exact (List.mem_erase_of_ne (fun e => hnx.1 (by rw [← e]; exact hy))).2 (hs y (by simp [hy]))
    · have := List.length_erase_of_mem hx; simp only [List.length_cons] at hl
      omega
theorem setL_perm {xs ys : List Int} (h : setL xs ys) : ys.Perm xs :=
  perm_of (nodup_of fun j hj => (h.2 j hj).2) (fun y hy => by
    obtain ⟨j, hj, e⟩ := getD_of_mem hy; exact e ▸ (h.2 j hj).1) (by have := h.1; omega)
theorem prodI_perm {a b : List Int} (h : a.Perm b) : prodI a = prodI b := by
  induction h with
  | nil => rfl
  | cons x _ ih => rw [prodI_cons, prodI_cons, ih]
  | swap x y l => rw [prodI_cons, prodI_cons, prodI_cons, prodI_cons, Int.mul_left_comm]
  | trans _ _ h1 h2 => exact h1.trans h2
def permD (t : Ten) (ls : List Int) : List Int := idxAt t.l t.d ls
def permX (wd : Int) (t : Ten) (ls ds : List Int) (m : Nat) : List Int := (List.range m).flatMap fun (i : Nat) => elt t.x wd (offL t.d (idxAt ls (idxL ds i) t.l))
noncomputable def permT (k n : Int) (t : Ten) (ls : List Int) : Ten := ⟨ls, permD t ls, permX (widthI k n) t ls (permD t ls) (prodI (permD t ls)).toNat⟩
theorem permX_step (wd : Int) (t : Ten) (ls ds : List Int) (m : Nat) : permX wd t ls ds (m + 1) = permX wd t ls ds m ++ elt t.x wd (offL t.d (idxAt ls (idxL ds m) t.l)) := by
  simp [permX, List.range_succ]
theorem permD_len (t : Ten) (ls : List Int) : (permD t ls).length = ls.length := List.length_map _
structure PermOK (k p n : Int) (t : Ten) (ls : List Int) : Prop where
  ring : ringL k p n
  ten : tensorL k p n t.l t.d t.x
  perm : ls.Perm t.l
section
variable {k p n : Int} {t : Ten} {ls : List Int}
theorem PermOK.axes (h : PermOK k p n t ls) : axesL t.l t.d := tensor_axes h.ten
theorem PermOK.nodup (h : PermOK k p n t ls) : ls.Nodup := (List.Perm.nodup_iff h.perm).2 (axes_nodup h.axes)
theorem PermOK.len (h : PermOK k p n t ls) : ls.length = t.l.length ∧ t.l.length = t.d.length ∧ ls.length ≤ 12 := by
  have := h.perm.length_eq; have := h.axes; exact ⟨by omega, this.2.1, by have := this.1; omega⟩
theorem PermOK.find (h : PermOK k p n t ls) {j : Nat} (hj : j < ls.length) : 0 ≤ findI t.l (ls.getD j 0) ∧ findI t.l (ls.getD j 0) < t.d.length ∧ t.l.getD (findI t.l (ls.getD j 0)).toNat 0 = ls.getD j 0 := by
  have hm : ls.getD j 0 ∈ t.l := h.perm.mem_iff.1 (mem_getD hj); have h1 := findI_ge.2 hm; have h2 := findI_get hm; have := h.len; exact ⟨h1, by omega, h2.2⟩
theorem PermOK.dims (h : PermOK k p n t ls) : dimsIn (permD t ls) := fun j hj => by
  rw [permD_len] at hj; have hf := h.find hj; rw [permD, idxAt, map_getD hj]; exact axes_dims h.axes _ (by omega)
theorem PermOK.prod (h : PermOK k p n t ls) : prodI (permD t ls) = prodI t.d := by
  have e : t.d = idxAt t.l t.d t.l := by
    apply ext_getD (by simp [idxAt, h.axes.2.1])
    intro j hj; have hj' : j < t.l.length := by rw [h.axes.2.1]; exact hj
    rw [idxAt, map_getD hj', find_at h.axes hj', Int.toNat_natCast]
  conv => rhs; rw [e]
  exact prodI_perm (h.perm.map _)
theorem PermOK.small (h : PermOK k p n t ls) : 1 ≤ prodI (permD t ls) ∧ prodI (permD t ls) ≤ 4096 := by
  refine ⟨prodI_one fun d hd => (dims_mem h.dims d hd).1, ?_⟩; rw [h.prod]; exact (sizeI_ge.1 h.ten.2.1).2
theorem PermOK.back (h : PermOK k p n t ls) {j : Nat} (hj : j < t.l.length) : (findI ls (t.l.getD j 0)).toNat < ls.length ∧ ls.getD (findI ls (t.l.getD j 0)).toNat 0 = t.l.getD j 0 :=
  findI_get (h.perm.mem_iff.2 (mem_getD hj))
theorem PermOK.idx (h : PermOK k p n t ls) (i : Int) : idxIn t.d (idxAt ls (idxL (permD t ls) i) t.l) := by
  have hd : ∀ d ∈ permD t ls, 1 ≤ d := fun d hd => (dims_mem h.dims d hd).1; refine ⟨by simp [idxAt, h.axes.2.1], fun j hj => ?_⟩; have hj' : j < t.l.length := by rw [h.axes.2.1]; exact hj
  have hb := h.back hj'; have hv := (idxL_in hd i).2 (findI ls (t.l.getD j 0)).toNat (by rw [permD_len]; exact hb.1); rw [idxAt, map_getD hj']; rw [show (permD t ls).getD (findI ls (t.l.getD j 0)).toNat 0 = t.d.getD j 0 by
    rw [permD, idxAt, map_getD hb.1, hb.2, find_at h.axes hj', Int.toNat_natCast]] at hv
  exact hv
theorem PermOK.off (h : PermOK k p n t ls) (i : Int) : 0 ≤ offL t.d (idxAt ls (idxL (permD t ls) i) t.l) ∧ offL t.d (idxAt ls (idxL (permD t ls) i) t.l) < prodI t.d := by
  have := offL_in (fun d hd => (dims_mem (axes_dims h.axes) d hd).1) (h.idx i)
  omega
theorem PermOK.dot (h : PermOK k p n t ls) (i : Int) : dotL (stepsL ls t.l t.d) (idxL (permD t ls) i) = offL t.d (idxAt ls (idxL (permD t ls) i) t.l) := by
  rw [dotL, stepsL_len, dot_off h.nodup h.axes.2.1 (axes_nodup h.axes) (fun x hx => h.perm.mem_iff.2 hx)]
theorem PermOK.at_end (h : PermOK k p n t ls) {A idx : List Int} (hA : A.length = ls.length) (hq : ∀ q, q < ls.length → A.getD (findI t.l (ls.getD q 0)).toNat 0 = idx.getD q 0) : A = idxAt ls idx t.l := by
  have hl := h.len
  apply ext_getD (by simp [idxAt]; omega)
  intro j hj; have hj' : j < t.l.length := by omega
  have hb := h.back hj'; have := hq _ hb.1; rw [hb.2, find_at h.axes hj', Int.toNat_natCast] at this; rw [this, idxAt, map_getD hj']
theorem PermOK.at_step (h : PermOK k p n t ls) {A idx : List Int} {j : Nat} (hA : A.length = ls.length) (hj : j < ls.length) (hq : ∀ q, q < j → A.getD (findI t.l (ls.getD q 0)).toNat 0 = idx.getD q 0) (q : Nat) (hq2 : q < j + 1) :
    (A.set (findI t.l (ls.getD j 0)).toNat (idx.getD j 0)).getD (findI t.l (ls.getD q 0)).toNat 0 = idx.getD q 0 := by
  have hf := h.find hj; have hl := h.len
  by_cases e : q = j
  · subst e; simp only [List.getD]; rw [List.getElem?_set_self (by simp only [List.getD] at hf; omega)]; rfl
  · have hf2 := h.find (j := q) (by omega); have hne : (findI t.l (ls.getD j 0)).toNat ≠ (findI t.l (ls.getD q 0)).toNat := fun e2 => by
      have e3 : ls.getD j 0 = ls.getD q 0 := by rw [← hf.2.2, ← hf2.2.2, e2]
      have h1 := find_at' h.nodup hj; have h2 := find_at' h.nodup (show q < ls.length by omega); rw [e3, h2] at h1
      omega
    have : (A.set (findI t.l (ls.getD j 0)).toNat (idx.getD j 0)).getD (findI t.l (ls.getD q 0)).toNat 0 = A.getD (findI t.l (ls.getD q 0)).toNat 0 := by
      simp only [List.getD]; rw [List.getElem?_set_ne (by simpa only [List.getD] using hne)]
    rw [this]; exact hq q (by omega)
end
theorem permX_len {k p n : Int} {t : Ten} {ls : List Int} (h : PermOK k p n t ls) : ∀ m, (permX (widthI k n) t ls (permD t ls) m).length ≤ m * 6
  | 0 => by simp [permX]
  | m + 1 => by
    have := permX_len h m; have hw := width_range h.ring; rw [permX_step, List.length_append]; have : (elt t.x (widthI k n) (offL t.d (idxAt ls (idxL (permD t ls) m) t.l))).length ≤ 6 := by
      unfold elt
      rw [List.length_take]
      omega
    omega
end Go.Proofs.YthlmjnihihbckaaGreat
