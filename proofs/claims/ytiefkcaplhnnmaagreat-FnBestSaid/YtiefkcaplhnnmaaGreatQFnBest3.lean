/-
  Parts of the proof of FnBest: laws of heaps, contracts of functions.
  Conditions: none.
-/
import Derived.Test.YtiefkcaplhnnmaaGreatQFnBest2
namespace Go.Proofs.YtiefkcaplhnnmaaGreat
set_option maxRecDepth 100000
open Go.RowKit
/-- An element of a ring. -/
def InR (k p n : Int) (xs : List Int) : Prop := xs.length = (widthI k n).toNat ∧ ∀ a ∈ xs, 0 ≤ a ∧ a ≤ topI k p n
theorem InR.at {k p n : Int} {xs : List Int} (h : InR k p n xs) (_ : ringL k p n) (i : Nat) (hi : i < xs.length) : 0 ≤ xs.getD i 0 ∧ xs.getD i 0 ≤ topI k p n := h.2 _ (mem_getD hi)
theorem InR.len {k p n : Int} {xs : List Int} (h : InR k p n xs) (hr : ringL k p n) : 1 ≤ xs.length ∧ xs.length ≤ 6 ∧ (xs.length : Int) = widthI k n := by
  have := width_range hr; have := h.1
  omega
theorem top_poly {k p n : Int} (h : ringL k p n) (hk : k = 2 ∨ k = 7 ∨ k = 8) : topI k p n = p - 1 ∧ 2 ≤ p ∧ p ≤ 1000003 := by
  have hp2 : ∀ {m : Int}, primeB m = true → 2 ≤ m ∧ m ≤ 1000003 := fun h => ⟨(primeB_iff.1 h).1, (primeB_iff.1 h).2.1⟩
  unfold ringL at h
  refine ⟨?_, ?_⟩
  · unfold topI
    rw [if_neg (by omega), if_neg (by omega), if_neg (by omega)]
  · rcases h with h | h | h | h | h | h
    · omega
    · exact hp2 h.2.1
    · omega
    · omega
    · exact hp2 h.2.1
    · exact hp2 h.2.1
theorem top_cap {k p n : Int} (h : ringL k p n) (hk : k = 3 ∨ k = 4 ∨ k = 5) : topI k p n = p ∧ 1 ≤ p ∧ p ≤ 1000000 := by
  unfold ringL at h
  refine ⟨?_, by omega⟩
  unfold topI
  rw [if_neg (by omega), if_pos (by omega)]
theorem kind_rest {k p n : Int} (h : ringL k p n) (h1 : k ≠ 1) (h2 : k ≠ 2) (h3 : k ≠ 3) (h4 : k ≠ 4) (h5 : k ≠ 5) (h6 : k ≠ 6) : k = 7 ∨ k = 8 := by
  unfold ringL at h; omega
theorem kind_rest' {k p n : Int} (h : ringL k p n) (h1 : k ≠ 1) (h3 : k ≠ 3) (h4 : k ≠ 4) (h5 : k ≠ 5) (h6 : k ≠ 6) : k = 2 ∨ k = 7 ∨ k = 8 := by
  unfold ringL at h; omega
theorem mul_in {a b t u : Int} (ha : 0 ≤ a ∧ a ≤ t) (hb : 0 ≤ b ∧ b ≤ u) : 0 ≤ a * b ∧ a * b ≤ t * u :=
  ⟨Int.mul_nonneg ha.1 hb.1, Int.mul_le_mul ha.2 hb.2 hb.1 (by omega)⟩
theorem mul_in6 {a b t u : Int} (ha : 0 ≤ a ∧ a ≤ t) (hb : 0 ≤ b ∧ b ≤ u) (ht : t ≤ 1048576) (hu : u ≤ 1048576) : 0 ≤ a * b ∧ a * b ≤ 1099511627776 := by
  have h := mul_in ha hb; have : t * u ≤ 1048576 * 1048576 := Int.mul_le_mul ht hu (by omega) (by omega)
  omega
theorem tmod_in {a p : Int} (ha : 0 ≤ a) (hp : 1 ≤ p) : 0 ≤ a.tmod p ∧ a.tmod p ≤ p - 1 := by
  rw [Int.tmod_eq_emod_of_nonneg ha]; have h1 := Int.emod_nonneg a (show p ≠ 0 by omega); have h2 := Int.emod_lt_of_pos a (show 0 < p by omega)
  omega
def mulStep (k p : Int) (x y out : List Int) (i j : Nat) : List Int :=
  if i + j < out.length then out.set (i + j) ((out.getD (i + j) 0 + x.getD i 0 * y.getD j 0).tmod p)
  else if k = 8 then out.set (i + j - 4) ((out.getD (i + j - 4) 0 + (p - x.getD i 0) * y.getD j 0).tmod p) else out
def mulRow (k p : Int) (x y : List Int) (i : Nat) (out : List Int) (m : Nat) : List Int := (List.range m).foldl (fun o j => mulStep k p x y o i j) out
def mulTo (k p : Int) (x y out : List Int) (m : Nat) : List Int := (List.range m).foldl (fun o i => mulRow k p x y i o y.length) out
theorem mulRow_step (k p : Int) (x y : List Int) (i : Nat) (out : List Int) (m : Nat) : mulRow k p x y i out (m + 1) = mulStep k p x y (mulRow k p x y i out m) i m := by simp [mulRow, List.range_succ]
theorem mulTo_step (k p : Int) (x y out : List Int) (m : Nat) : mulTo k p x y out (m + 1) = mulRow k p x y m (mulTo k p x y out m) y.length := by simp [mulTo, List.range_succ]
/-- Numbers below p, as many as the width says. -/
def PolyIn (k p n : Int) (xs : List Int) : Prop := xs.length = (widthI k n).toNat ∧ ∀ a ∈ xs, 0 ≤ a ∧ a ≤ p - 1
theorem PolyIn.set {k p n : Int} {xs : List Int} (h : PolyIn k p n xs) (i : Nat) {a : Int} (ha : 0 ≤ a ∧ a ≤ p - 1) : PolyIn k p n (xs.set i a) :=
  ⟨by rw [List.length_set]; exact h.1, fun b hb => by
    rcases List.mem_or_eq_of_mem_set hb with hb | rfl
    · exact h.2 b hb
    · exact ha⟩
theorem PolyIn.at {k p n : Int} {xs : List Int} (h : PolyIn k p n xs) (hp : 1 ≤ p) (i : Nat) : 0 ≤ xs.getD i 0 ∧ xs.getD i 0 ≤ p - 1 := by
  by_cases hi : i < xs.length
  · exact h.2 _ (mem_getD hi)
  · simp only [List.getD, List.getElem?_eq_none (Nat.le_of_not_lt hi)]
    show (0:Int) ≤ 0 ∧ (0:Int) ≤ p - 1
    omega
theorem InR.poly {k p n : Int} {xs : List Int} (h : InR k p n xs) (hr : ringL k p n) (hk : k = 2 ∨ k = 7 ∨ k = 8) : PolyIn k p n xs := by
  have := (top_poly hr hk).1; refine ⟨h.1, fun a ha => ?_⟩; rw [← this]; exact h.2 a ha
theorem PolyIn.inR {k p n : Int} {xs : List Int} (h : PolyIn k p n xs) (hr : ringL k p n) (hk : k = 2 ∨ k = 7 ∨ k = 8) : InR k p n xs := by
  have := (top_poly hr hk).1; refine ⟨h.1, fun a ha => ?_⟩; rw [this]; exact h.2 a ha
theorem poly_zero {k p n : Int} (hp : 1 ≤ p) (m : Nat) (hm : m = (widthI k n).toNat) : PolyIn k p n (List.replicate m 0) := by
  subst hm; refine ⟨by simp, fun a ha => ?_⟩; have := List.eq_of_mem_replicate ha
  omega
theorem mulStep_in {k p n : Int} {x y out : List Int} {i j : Nat} (hp : 1 ≤ p) (hx : PolyIn k p n x) (hy : PolyIn k p n y) (ho : PolyIn k p n out) : PolyIn k p n (mulStep k p x y out i j) := by
  have hxi := hx.at hp i; have hyj := hy.at hp j
  unfold mulStep
  split
  · refine ho.set _ (tmod_in ?_ hp); have := (mul_in hxi hyj).1; have := (ho.at hp (i + j)).1
    omega
  · split
    · refine ho.set _ (tmod_in ?_ hp); have := (mul_in (a := p - x.getD i 0) (t := p) ⟨by omega, by omega⟩ hyj).1; have := (ho.at hp (i + j - 4)).1
      omega
    · exact ho
theorem mulRow_in {k p n : Int} {x y out : List Int} {i : Nat} (hp : 1 ≤ p) (hx : PolyIn k p n x) (hy : PolyIn k p n y) (ho : PolyIn k p n out) : ∀ m, PolyIn k p n (mulRow k p x y i out m)
  | 0 => by simpa [mulRow] using ho
  | m + 1 => by rw [mulRow_step]; exact mulStep_in hp hx hy (mulRow_in hp hx hy ho m)
theorem mulTo_in {k p n : Int} {x y out : List Int} (hp : 1 ≤ p) (hx : PolyIn k p n x) (hy : PolyIn k p n y) (ho : PolyIn k p n out) : ∀ m, PolyIn k p n (mulTo k p x y out m)
  | 0 => by simpa [mulTo] using ho
  | m + 1 => by rw [mulTo_step]; exact mulRow_in hp hx hy (mulTo_in hp hx hy ho m) _
open Classical in
noncomputable def mulL (k p n : Int) (x y : List Int) : List Int :=
  if k = 1 ∨ k = 5 then [min (x.getD 0 0) (y.getD 0 0)]
  else if k = 2 then [(x.getD 0 0 * y.getD 0 0).tmod p]
  else if k = 3 then [min (x.getD 0 0 * y.getD 0 0) p]
  else if k = 4 then [min (x.getD 0 0 + y.getD 0 0) p]
  else if k = 6 then [(((x.getD 0 0).toNat &&& (y.getD 0 0).toNat : Nat) : Int)]
  else mulTo k p x y (List.replicate (widthI k n).toNat 0) x.length
theorem one_R {k p n a : Int} (h7 : k ≠ 7) (h8 : k ≠ 8) (h : 0 ≤ a ∧ a ≤ topI k p n) : InR k p n [a] := ⟨by rw [width_1 h7 h8]; rfl, fun b hb => by simp at hb; subst hb; exact h⟩
theorem and_le (a b : Int) (ha : 0 ≤ a) : 0 ≤ ((a.toNat &&& b.toNat : Nat) : Int) ∧ ((a.toNat &&& b.toNat : Nat) : Int) ≤ a := by
  have : a.toNat &&& b.toNat ≤ a.toNat := Nat.and_le_left
  omega
theorem mulL_in {k p n : Int} {x y : List Int} (hr : ringL k p n) (hx : InR k p n x) (hy : InR k p n y) : InR k p n (mulL k p n x y) := by
  have h1 := hx.len hr; have h2 := hy.len hr; have hx0 := hx.at hr 0 (by omega); have hy0 := hy.at hr 0 (by omega); have hw := width_range hr; have hm := (mul_in hx0 hy0).1
  unfold mulL
  split
  · exact one_R (by omega) (by omega) (by omega)
  · split
    · have ht := top_poly hr (by omega); refine one_R (by omega) (by omega) ?_; have := tmod_in hm (show 1 ≤ p by omega)
      omega
    · split
      · have ht := top_cap hr (by omega); exact one_R (by omega) (by omega) (by omega)
      · split
        · have ht := top_cap hr (by omega); exact one_R (by omega) (by omega) (by omega)
        · split
          · have := and_le (x.getD 0 0) (y.getD 0 0) hx0.1; exact one_R (by omega) (by omega) (by omega)
          · have hk := kind_rest hr (by omega) (by omega) (by omega) (by omega) (by omega) (by omega); have ht := top_poly hr (by omega); exact (mulTo_in (by omega) (hx.poly hr (by omega)) (hy.poly hr (by omega)) (poly_zero (by omega) _ rfl) _).inR hr (by omega)
theorem top_1 {k p n : Int} (h : k = 1) : topI k p n = 1 := by simp [topI, h]
theorem mulL_poly {k p n : Int} {x y : List Int} (hk : k = 7 ∨ k = 8) : mulL k p n x y = mulTo k p x y (List.replicate (widthI k n).toNat 0) x.length := by
  unfold mulL
  rw [if_neg (by omega), if_neg (by omega), if_neg (by omega), if_neg (by omega), if_neg (by omega)]
theorem mulStep_same {p a b o : Int} (hp : 1 ≤ p) (ha : 0 ≤ a ∧ a ≤ p - 1) (hb : 0 ≤ b ∧ b ≤ p - 1) (ho : 0 ≤ o) : (o + (a * b).tmod p).tmod p = (o + a * b).tmod p := by
  have hm := (mul_in ha hb).1; have ht := tmod_in hm hp; rw [Int.tmod_eq_emod_of_nonneg (a := o + (a * b).tmod p) (by omega), Int.tmod_eq_emod_of_nonneg (a := o + a * b) (by omega), Int.tmod_eq_emod_of_nonneg hm]
  simp [Int.add_emod]
theorem mulStep_neg {p a b o : Int} (hp : 1 ≤ p) (ha : 0 ≤ a ∧ a ≤ p - 1) (hb : 0 ≤ b ∧ b ≤ p - 1) (ho : 0 ≤ o) : (o + p - (a * b).tmod p).tmod p = (o + (p - a) * b).tmod p := by
  have hm := (mul_in ha hb).1; have ht := tmod_in hm hp; have hm2 := (mul_in (a := p - a) (t := p) ⟨by omega, by omega⟩ hb).1; rw [Int.tmod_eq_emod_of_nonneg (a := o + p - (a * b).tmod p) (by omega), Int.tmod_eq_emod_of_nonneg (a := o + (p - a) * b) (by omega), Int.tmod_eq_emod_of_nonneg hm]; have e1 := Int.emod_add_mul_ediv (a * b) p; have e2 : o + (p - a) * b = (o + p - a * b % p) + p * (b - 1 - a * b / p) := by
    rw [Int.sub_mul, Int.mul_sub, Int.mul_sub]
    omega
  rw [e2, Int.add_mul_emod_self_left]
theorem ct_i_mulCoefficients (k p n : Int) (z x y : List Int) (zv v u : Value) (w : World) (h : PH) (hr : ringL k p n) (hk : k = 7 ∨ k = 8) (hle : PLe h (hp w)) (rz : IntsO z zv h) (r : IntsR x v (restP w h)) (r' : IntsR y u (restP w h)) (hz : z.length = (widthI k n).toNat) (hx : InR k p n x) (hy : InR k p n y) :
    Calls Tryz.prog 123 [ringV k p n, zv, v, u].toArray w (Ret w h (fun _ h' => IntsO (mulL k p n x y) zv h')) := by
  have ht := top_poly hr (by omega); have hw := width_range hr; have px := hx.poly hr (by omega); have py := hy.poly hr (by omega); have pz := poly_zero (k := k) (n := n) (p := p) (by omega) _ rfl; have hxl := hx.1; have hyl := hy.1; refine calls_in Tryz.func123 rfl Tryz.ntmps123 rfl (Sat.start2 hle) ?_; have hle0 := rz.toR.le; have hle1 := r.le; have hle2 := r'.le; refine wp_sc (wp_sq ?_); refine sq_x rfl (x_box rfl rfl) rfl ?_; rintro _ _ ⟨b4, rfl, rfl⟩; refine sq_end (qs_n (wp_sc (wp_sq (sq_v rfl (v_move rfl) rfl ?_)))); refine sq_m 1 rfl rfl (m_clearI 1 Tryz.underlying27 ty_3 rfl rfl rz) rfl ?_; intro _ h_q1_1 q1_1; refine sq_end (qs_n (wp_sc (wp_sq (sq_v rfl (v_move rfl) rfl (sq_v rfl (v_len Tryz.underlying27 rfl r.sl) rfl (sq_v rfl (v_move rfl) rfl (sq_end (qs_n (wp_bl ?_))))))))); refine wp_lp (σ := Nat × PH) (fun z_ => [(1, zv), (2, v), (3, u), (4, .pointer (some ⟨b4, 0, none⟩)), (14, num x.length), (15, num z_.1)]) (fun z_ => [box b4 [num k, num p, num n] 24, z_.2, (restP w h)]) (fun z_ => z_.1 ≤ x.length ∧ IntsO (mulTo k p x y (List.replicate (widthI k n).toNat 0) z_.1) zv z_.2) (fun z_ => x.length - z_.1) (0, h_q1_1) (⟨by (try dsimp only); omega, by (try dsimp only); rw [hz] at q1_1; simpa [mulTo] using q1_1⟩) ⟨rfl, rfl, rfl, rfl, rfl, (by first | rfl | exact ksub rfl (by first | omega | (simp; done) | (simp; omega))), trivial⟩ (fun _ s => s) ?_; rintro ⟨i, g⟩ ⟨hi, q⟩; dsimp only at hi q ⊢; have hle_q := q.toR.le; have po := mulTo_in (by omega) px py pz i; refine wp_sc (wp_sq (sq_v rfl (v_lss rfl rfl) rfl (sq_end (qs_n (wp_sc ?_))))); refine wp_cd rfl (fun c16 => ?_) (fun c16 => ?_)
  · refine wp_sk (qs_n (wp_sc (wp_bl (wp_sc (wp_sq (sq_v rfl (v_move rfl) rfl (sq_v rfl (v_assign rfl) rfl (sq_end (qs_n (wp_sc (wp_sq (sq_v rfl (v_move rfl) rfl (sq_v rfl (v_len Tryz.underlying27 rfl r'.sl) rfl (sq_v rfl (v_move rfl) rfl (sq_end (qs_n (wp_bl ?_))))))))))))))))); refine wp_lp (σ := Nat × PH) (fun z_ => [(1, zv), (2, v), (3, u), (4, .pointer (some ⟨b4, 0, none⟩)), (8, num i), (14, num x.length), (15, num i), (16, .bool (decide ((i : Int) < x.length))), (17, num i), (18, u), (19, num y.length), (20, num z_.1)]) (fun z_ => [box b4 [num k, num p, num n] 24, z_.2, (restP w h)]) (fun z_ => z_.1 ≤ y.length ∧ IntsO (mulRow k p x y i (mulTo k p x y (List.replicate (widthI k n).toNat 0) i) z_.1) zv z_.2) (fun z_ => y.length - z_.1) (0, g) (⟨by (try dsimp only); omega, by (try dsimp only); simpa [mulRow] using q⟩) ⟨rfl, rfl, rfl, rfl, rfl, rfl, rfl, rfl, rfl, rfl, rfl, (by first | rfl | exact ksub rfl (by first | omega | (simp; done) | (simp; omega))), trivial⟩ (fun _ s => s) ?_; rintro ⟨j, g⟩ ⟨hj, q⟩; dsimp only at hj q ⊢; have hle_q := q.toR.le; have pr := mulRow_in (by omega) px py po (i := i) j; have pl := pr.1; have hxi := px.at (by omega) i; have hyj := py.at (by omega) j; have hm2 := mul_in6 hxi hyj (by omega) (by omega); have htm := tmod_in hm2.1 (show 1 ≤ p by omega); have hoij := pr.at (by omega) (i + j); have hoij4 := pr.at (by omega) ((i : Int) + j - 4).toNat; have hw7 : k = 8 → widthI k n = 4 := fun e => by simp [widthI, e]
    refine wp_sc (wp_sq (sq_v rfl (v_lss rfl rfl) rfl (sq_end (qs_n (wp_sc ?_))))); refine wp_cd rfl (fun c21 => ?_) (fun c21 => ?_)
    · refine wp_sk (qs_n (wp_sc (wp_bl (wp_sc (wp_sq (sq_v rfl (v_move rfl) rfl (sq_v rfl (v_assign rfl) rfl (sq_end (qs_n (wp_sc (wp_rj 13 [(0, true), (1, true), (2, true), (3, true), (4, true), (5, true), (6, true), (7, true), (8, true), (9, true), (10, true), (11, true), (12, true)] mixed_ok (by kernel_rfl) (rj_v rfl rfl (v_move rfl) rfl (rj_v rfl rfl (v_move rfl) rfl ?_))))))))))))); refine rj_v rfl rfl (v_idxI Tryz.underlying27 ty_3 rfl rfl r (by first | omega | (simp; omega) | (simp only [List.length_append, List.length_cons, List.length_nil]; omega) | (rw [List.length_set]; omega)) (by first | omega | (simp; omega) | (simp only [List.length_append, List.length_cons, List.length_nil]; omega) | (rw [List.length_set]; omega))) rfl ?_; refine rj_v rfl rfl (v_loadI (k := i) 2 ty_3 rfl rfl r (by first | omega | (simp; omega) | (simp only [List.length_append, List.length_cons, List.length_nil]; omega) | (rw [List.length_set]; omega))) rfl ?_; refine rj_v rfl rfl (v_move rfl) rfl (rj_v rfl rfl (v_move rfl) rfl ?_); refine rj_v rfl rfl (v_idxI Tryz.underlying27 ty_3 rfl rfl r' (by first | omega | (simp; omega) | (simp only [List.length_append, List.length_cons, List.length_nil]; omega) | (rw [List.length_set]; omega)) (by first | omega | (simp; omega) | (simp only [List.length_append, List.length_cons, List.length_nil]; omega) | (rw [List.length_set]; omega))) rfl ?_; refine rj_v rfl rfl (v_loadI (k := j) 2 ty_3 rfl rfl r' (by first | omega | (simp; omega) | (simp only [List.length_append, List.length_cons, List.length_nil]; omega) | (rw [List.length_set]; omega))) rfl ?_; refine rj_v rfl rfl (v_mul rfl rfl ((by unfold I64; omega))) rfl ?_; refine rj_v rfl rfl (v_fieldAddr fd_24_1 ty_3 (by decide) rfl) rfl (rj_v rfl rfl (v_loadB 0 ty_3 rfl rfl rfl) rfl (rj_v rfl rfl (v_rem rfl rfl (by omega)) rfl (rj_v rfl rfl (v_assign rfl) rfl (rj_end (qs_n (wp_sc (wp_sq (sq_v rfl (v_move rfl) rfl (sq_v rfl (v_move rfl) rfl ?_))))))))); refine sq_v rfl (v_add rfl rfl ((by unfold I64; omega))) rfl ?_; refine sq_v rfl (v_assign rfl) rfl (sq_end (qs_n (wp_sc (wp_sq (sq_v rfl (v_move rfl) rfl (sq_v rfl (v_move rfl) rfl (sq_v rfl (v_len Tryz.underlying27 rfl q.toR.sl) rfl (sq_v rfl (v_lss rfl rfl) rfl (sq_end (qs_n ?_)))))))))); refine wp_cd rfl (fun c41 => ?_) (fun c41 => ?_)
      · refine wp_rj 12 [(0, true), (1, true), (2, true), (3, true), (4, true), (5, true), (6, true), (7, true), (8, true), (9, true), (10, true), (11, true), (12, false)] mixed_ok (by kernel_rfl) (rj_v rfl rfl (v_move rfl) rfl (rj_v rfl rfl (v_move rfl) rfl (rj_v rfl rfl (v_move rfl) rfl (rj_v rfl rfl (v_move rfl) rfl ?_)))); refine rj_v rfl rfl (v_idxI Tryz.underlying27 ty_3 rfl rfl q.toR (by first | omega | (simp; omega) | (simp only [List.length_append, List.length_cons, List.length_nil]; omega) | (rw [List.length_set]; omega)) (by first | omega | (simp; omega) | (simp only [List.length_append, List.length_cons, List.length_nil]; omega) | (rw [List.length_set]; omega))) rfl ?_; refine rj_v rfl rfl (v_loadI (k := (i + j)) 1 ty_3 rfl rfl q.toR (by first | omega | (simp; omega) | (simp only [List.length_append, List.length_cons, List.length_nil]; omega) | (rw [List.length_set]; omega))) rfl ?_; refine rj_v rfl rfl (v_move rfl) rfl ?_; refine rj_v rfl rfl (v_add rfl rfl ((by unfold I64; omega))) rfl ?_; refine rj_v rfl rfl (v_fieldAddr fd_24_1 ty_3 (by decide) rfl) rfl (rj_v rfl rfl (v_loadB 0 ty_3 rfl rfl rfl) rfl (rj_v rfl rfl (v_rem rfl rfl (by omega)) rfl ?_)); refine rj_v rfl rfl (v_idxI Tryz.underlying27 ty_3 rfl rfl q.toR (by first | omega | (simp; omega) | (simp only [List.length_append, List.length_cons, List.length_nil]; omega) | (rw [List.length_set]; omega)) (by first | omega | (simp; omega) | (simp only [List.length_append, List.length_cons, List.length_nil]; omega) | (rw [List.length_set]; omega))) rfl ?_; refine rj_m 1 rfl rfl rfl rfl (m_storeI (k := (i + j)) 1 ty_3 rfl rfl rfl q (by first | omega | (simp; omega) | (simp only [List.length_append, List.length_cons, List.length_nil]; omega) | (rw [List.length_set]; omega))) rfl ?_; rintro _ h_q11_12 ⟨rfl, q11_12⟩; refine rj_end (qs_bn (qs_n (wp_sq ?_))); refine sq_v rfl (v_add rfl rfl ((by unfold I64; omega))) rfl ?_; refine sq_v rfl (v_move rfl) rfl (sq_end ?_); exact qs_bk (j + 1, h_q11_12) ⟨by (try dsimp only); omega, by (try dsimp only); rw [mulRow_step, mulStep, if_pos (by omega), ← mulStep_same (by omega) hxi hyj hoij.1]; exact q11_12⟩ (by simp only; omega) ⟨rfl, rfl, rfl, rfl, rfl, rfl, rfl, rfl, rfl, rfl, rfl, (by first | rfl | exact ksub rfl (by first | omega | (simp; done) | (simp; omega))), trivial⟩ (fun _ s => s)
      · refine wp_sc (wp_sq (sq_v rfl (v_fieldAddr fd_24_0 ty_3 (by decide) rfl) rfl (sq_v rfl (v_loadB 0 ty_3 rfl rfl rfl) rfl (sq_v rfl (v_eql rfl rfl) rfl (sq_end (qs_n ?_)))))); refine wp_cd rfl (fun c56 => ?_) (fun c56 => ?_)
        · refine wp_rj 17 [(0, true), (1, true), (2, true), (3, true), (4, true), (5, true), (6, true), (7, true), (8, true), (9, true), (10, true), (11, true), (12, true), (13, true), (14, true), (15, true), (16, true), (17, false)] mixed_ok (by kernel_rfl) (rj_v rfl rfl (v_move rfl) rfl (rj_v rfl rfl (v_move rfl) rfl ?_)); refine rj_v rfl rfl (v_sub rfl rfl ((by unfold I64; omega))) rfl ?_; refine rj_v rfl rfl (v_move rfl) rfl (rj_v rfl rfl (v_move rfl) rfl ?_); refine rj_v rfl rfl (v_sub rfl rfl ((by unfold I64; omega))) rfl ?_; refine rj_v rfl rfl (v_idxI Tryz.underlying27 ty_3 rfl rfl q.toR (by first | omega | (simp; omega) | (simp only [List.length_append, List.length_cons, List.length_nil]; omega) | (rw [List.length_set]; omega)) (by first | omega | (simp; omega) | (simp only [List.length_append, List.length_cons, List.length_nil]; omega) | (rw [List.length_set]; omega))) rfl ?_; refine rj_v rfl rfl (v_loadI  1 ty_3 rfl rfl q.toR (by first | omega | (simp; omega) | (simp only [List.length_append, List.length_cons, List.length_nil]; omega) | (rw [List.length_set]; omega))) rfl ?_; refine rj_v rfl rfl (v_fieldAddr fd_24_1 ty_3 (by decide) rfl) rfl (rj_v rfl rfl (v_loadB 0 ty_3 rfl rfl rfl) rfl ?_); refine rj_v rfl rfl (v_add rfl rfl ((by unfold I64; omega))) rfl ?_; refine rj_v rfl rfl (v_move rfl) rfl ?_; refine rj_v rfl rfl (v_sub rfl rfl ((by unfold I64; omega))) rfl ?_; refine rj_v rfl rfl (v_fieldAddr fd_24_1 ty_3 (by decide) rfl) rfl (rj_v rfl rfl (v_loadB 0 ty_3 rfl rfl rfl) rfl (rj_v rfl rfl (v_rem rfl rfl (by omega)) rfl ?_)); refine rj_v rfl rfl (v_idxI Tryz.underlying27 ty_3 rfl rfl q.toR (by first | omega | (simp; omega) | (simp only [List.length_append, List.length_cons, List.length_nil]; omega) | (rw [List.length_set]; omega)) (by first | omega | (simp; omega) | (simp only [List.length_append, List.length_cons, List.length_nil]; omega) | (rw [List.length_set]; omega))) rfl ?_; refine rj_m 1 rfl rfl rfl rfl (m_storeI 1 ty_3 rfl rfl rfl q (by first | omega | (simp; omega) | (simp only [List.length_append, List.length_cons, List.length_nil]; omega) | (rw [List.length_set]; omega))) rfl ?_; rintro _ h_q13_17 ⟨rfl, q13_17⟩; refine rj_end (qs_bn (qs_n (wp_sq ?_))); refine sq_v rfl (v_add rfl rfl ((by unfold I64; omega))) rfl ?_; refine sq_v rfl (v_move rfl) rfl (sq_end ?_); exact qs_bk (j + 1, h_q13_17) ⟨by (try dsimp only); omega, by (try dsimp only); rw [mulRow_step, mulStep, if_neg (by omega), if_pos c56]; rw [show ((i : Int) + j - 4).toNat = i + j - 4 by omega] at q13_17 hoij4; rw [← mulStep_neg (by omega) hxi hyj hoij4.1]; exact q13_17⟩ (by simp only; omega) ⟨rfl, rfl, rfl, rfl, rfl, rfl, rfl, rfl, rfl, rfl, rfl, (by first | rfl | exact ksub rfl (by first | omega | (simp; done) | (simp; omega))), trivial⟩ (fun _ s => s)
        · refine wp_sk (qs_bn (qs_n (wp_sq ?_))); refine sq_v rfl (v_add rfl rfl ((by unfold I64; omega))) rfl ?_; refine sq_v rfl (v_move rfl) rfl (sq_end ?_); exact qs_bk (j + 1, g) ⟨by (try dsimp only); omega, by (try dsimp only); rw [mulRow_step, mulStep, if_neg (by omega), if_neg c56]; exact q⟩ (by simp only; omega) ⟨rfl, rfl, rfl, rfl, rfl, rfl, rfl, rfl, rfl, rfl, rfl, (by first | rfl | exact ksub rfl (by first | omega | (simp; done) | (simp; omega))), trivial⟩ (fun _ s => s)
    · refine wp_ex (qs_x (qs_x (qs_bx (qs_bn (qs_n (wp_sq ?_)))))); refine sq_v rfl (v_add rfl rfl ((by unfold I64; omega))) rfl ?_; refine sq_v rfl (v_move rfl) rfl (sq_end ?_); exact qs_bk (i + 1, g) ⟨by (try dsimp only); omega, by (try dsimp only); rw [mulTo_step, show y.length = j by omega]; exact q⟩ (by simp only; omega) ⟨rfl, rfl, rfl, rfl, rfl, (by first | rfl | exact ksub rfl (by first | omega | (simp; done) | (simp; omega))), trivial⟩ (fun _ s => s)
  · refine wp_ex (qs_x (qs_x (qs_bx ?_))); exact qs_ret0 rfl (fin_m 1 (i := 2) rfl rfl rfl (by rw [mulL_poly hk, show x.length = i by omega]; exact q))
theorem fin1' {k p n a : Int} {x y z : List Int} {v : Value} {h : PH} (q : IntsO (z.set 0 a) v h) (hm : z.length = 1) (e : mulL k p n x y = [a]) : IntsO (mulL k p n x y) v h := by
  rw [e]
  match z, hm with
  | [b], _ => exact q
set_option maxHeartbeats 1000000 in
theorem ct_i_mulInto (k p n : Int) (z x y : List Int) (zv v u : Value) (w : World) (h : PH) (hr : ringL k p n) (hle : PLe h (hp w)) (rz : IntsO z zv h) (r : IntsR x v (restP w h)) (r' : IntsR y u (restP w h)) (hz : z.length = (widthI k n).toNat) (hx : InR k p n x) (hy : InR k p n y) :
    Calls Tryz.prog 95 [ringV k p n, zv, v, u].toArray w (Ret w h (fun _ h' => IntsO (mulL k p n x y) zv h')) := by
  have h1 := hx.len hr; have h2 := hy.len hr; have hx0 := hx.at hr 0 (by omega); have hy0 := hy.at hr 0 (by omega); have hw := width_range hr; have htr := top_range hr; have hrp := ring_p hr; have hm := mul_in6 hx0 hy0 htr.2 htr.2; refine calls_in Tryz.func95 rfl Tryz.ntmps95 rfl (Sat.start2 hle) ?_; have hle0 := rz.toR.le; have hle1 := r.le; have hle2 := r'.le; refine wp_sc (wp_sq ?_); refine sq_x rfl (x_box rfl rfl) rfl ?_; rintro _ _ ⟨b4, rfl, rfl⟩; refine sq_end (qs_n (wp_sc (wp_sq (sq_v rfl (v_fieldAddr fd_24_0 ty_3 (by decide) rfl) rfl (sq_v rfl (v_loadB 0 ty_3 rfl rfl rfl) rfl (sq_end (qs_n (wp_bl (wp_sc (wp_sc (wp_sq (sq_v rfl (v_eql rfl rfl) rfl (sq_v rfl (v_assign rfl) rfl (sq_end (qs_n ?_))))))))))))))); refine wp_cSd rfl (fun c15 => ?_) (fun c15 => ?_)
  · refine wp_sk (qs_n (wp_ct rfl (wp_rj 9 [(0, true), (1, true), (2, true), (3, true), (4, true), (5, true), (6, true), (7, true), (8, true), (9, false)] mixed_ok (by kernel_rfl) (rj_v rfl rfl (v_move rfl) rfl (rj_v rfl rfl (v_move rfl) rfl ?_))))); refine rj_v rfl rfl (v_idxI Tryz.underlying27 ty_3 rfl rfl r (by first | omega | (simp; omega) | (simp only [List.length_append, List.length_cons, List.length_nil]; omega) | (rw [List.length_set]; omega)) (by first | omega | (simp; omega) | (simp only [List.length_append, List.length_cons, List.length_nil]; omega) | (rw [List.length_set]; omega))) rfl ?_; refine rj_v rfl rfl (v_loadI (k := 0) 2 ty_3 rfl rfl r (by first | omega | (simp; omega) | (simp only [List.length_append, List.length_cons, List.length_nil]; omega) | (rw [List.length_set]; omega))) rfl ?_; refine rj_v rfl rfl (v_move rfl) rfl ?_; refine rj_v rfl rfl (v_idxI Tryz.underlying27 ty_3 rfl rfl r' (by first | omega | (simp; omega) | (simp only [List.length_append, List.length_cons, List.length_nil]; omega) | (rw [List.length_set]; omega)) (by first | omega | (simp; omega) | (simp only [List.length_append, List.length_cons, List.length_nil]; omega) | (rw [List.length_set]; omega))) rfl ?_; refine rj_v rfl rfl (v_loadI (k := 0) 2 ty_3 rfl rfl r' (by first | omega | (simp; omega) | (simp only [List.length_append, List.length_cons, List.length_nil]; omega) | (rw [List.length_set]; omega))) rfl ?_; refine rj_v rfl rfl (v_min rfl rfl) rfl ?_; refine rj_v rfl rfl (v_idxI Tryz.underlying27 ty_3 rfl rfl rz.toR (by first | omega | (simp; omega) | (simp only [List.length_append, List.length_cons, List.length_nil]; omega) | (rw [List.length_set]; omega)) (by first | omega | (simp; omega) | (simp only [List.length_append, List.length_cons, List.length_nil]; omega) | (rw [List.length_set]; omega))) rfl ?_; refine rj_m 1 rfl rfl rfl rfl (m_storeI (k := 0) 1 ty_3 rfl rfl rfl rz (by first | omega | (simp; omega) | (simp only [List.length_append, List.length_cons, List.length_nil]; omega) | (rw [List.length_set]; omega))) rfl ?_; rintro _ h_q5_9 ⟨rfl, q5_9⟩; refine rj_end (qs_bn ?_); exact qs_ret0 rfl (fin_m 1 (i := 2) rfl rfl rfl (fin1' q5_9 (by have := width_1 (k := k) (n := n) (by omega) (by omega); omega) (by simp [mulL, c15])))
  · refine wp_sq (sq_v rfl (v_eql rfl rfl) rfl (sq_v rfl (v_assign rfl) rfl (sq_end (qs_n ?_)))); refine wp_cSd rfl (fun c15 => ?_) (fun c15 => ?_)
    · refine wp_rj 9 [(0, true), (1, true), (2, true), (3, true), (4, true), (5, true), (6, true), (7, true), (8, true), (9, false)] mixed_ok (by kernel_rfl) (rj_v rfl rfl (v_move rfl) rfl (rj_v rfl rfl (v_move rfl) rfl ?_)); refine rj_v rfl rfl (v_idxI Tryz.underlying27 ty_3 rfl rfl r (by first | omega | (simp; omega) | (simp only [List.length_append, List.length_cons, List.length_nil]; omega) | (rw [List.length_set]; omega)) (by first | omega | (simp; omega) | (simp only [List.length_append, List.length_cons, List.length_nil]; omega) | (rw [List.length_set]; omega))) rfl ?_; refine rj_v rfl rfl (v_loadI (k := 0) 2 ty_3 rfl rfl r (by first | omega | (simp; omega) | (simp only [List.length_append, List.length_cons, List.length_nil]; omega) | (rw [List.length_set]; omega))) rfl ?_; refine rj_v rfl rfl (v_move rfl) rfl ?_; refine rj_v rfl rfl (v_idxI Tryz.underlying27 ty_3 rfl rfl r' (by first | omega | (simp; omega) | (simp only [List.length_append, List.length_cons, List.length_nil]; omega) | (rw [List.length_set]; omega)) (by first | omega | (simp; omega) | (simp only [List.length_append, List.length_cons, List.length_nil]; omega) | (rw [List.length_set]; omega))) rfl ?_; refine rj_v rfl rfl (v_loadI (k := 0) 2 ty_3 rfl rfl r' (by first | omega | (simp; omega) | (simp only [List.length_append, List.length_cons, List.length_nil]; omega) | (rw [List.length_set]; omega))) rfl ?_; refine rj_v rfl rfl (v_min rfl rfl) rfl ?_; refine rj_v rfl rfl (v_idxI Tryz.underlying27 ty_3 rfl rfl rz.toR (by first | omega | (simp; omega) | (simp only [List.length_append, List.length_cons, List.length_nil]; omega) | (rw [List.length_set]; omega)) (by first | omega | (simp; omega) | (simp only [List.length_append, List.length_cons, List.length_nil]; omega) | (rw [List.length_set]; omega))) rfl ?_; refine rj_m 1 rfl rfl rfl rfl (m_storeI (k := 0) 1 ty_3 rfl rfl rfl rz (by first | omega | (simp; omega) | (simp only [List.length_append, List.length_cons, List.length_nil]; omega) | (rw [List.length_set]; omega))) rfl ?_; rintro _ h_q5_9 ⟨rfl, q5_9⟩; refine rj_end (qs_bn ?_); exact qs_ret0 rfl (fin_m 1 (i := 2) rfl rfl rfl (fin1' q5_9 (by have := width_1 (k := k) (n := n) (by omega) (by omega); omega) (by simp [mulL, c15])))
    · refine wp_sc (wp_sq (sq_v rfl (v_eql rfl rfl) rfl (sq_v rfl (v_assign rfl) rfl (sq_end (qs_n ?_))))); refine wp_cd rfl (fun c27 => ?_) (fun c27 => ?_)
      · refine wp_rj 12 [(0, true), (1, true), (2, true), (3, true), (4, true), (5, true), (6, true), (7, true), (8, true), (9, true), (10, true), (11, true), (12, false)] mixed_ok (by kernel_rfl) (rj_v rfl rfl (v_move rfl) rfl (rj_v rfl rfl (v_move rfl) rfl ?_)); refine rj_v rfl rfl (v_idxI Tryz.underlying27 ty_3 rfl rfl r (by first | omega | (simp; omega) | (simp only [List.length_append, List.length_cons, List.length_nil]; omega) | (rw [List.length_set]; omega)) (by first | omega | (simp; omega) | (simp only [List.length_append, List.length_cons, List.length_nil]; omega) | (rw [List.length_set]; omega))) rfl ?_; refine rj_v rfl rfl (v_loadI (k := 0) 2 ty_3 rfl rfl r (by first | omega | (simp; omega) | (simp only [List.length_append, List.length_cons, List.length_nil]; omega) | (rw [List.length_set]; omega))) rfl ?_; refine rj_v rfl rfl (v_move rfl) rfl ?_; refine rj_v rfl rfl (v_idxI Tryz.underlying27 ty_3 rfl rfl r' (by first | omega | (simp; omega) | (simp only [List.length_append, List.length_cons, List.length_nil]; omega) | (rw [List.length_set]; omega)) (by first | omega | (simp; omega) | (simp only [List.length_append, List.length_cons, List.length_nil]; omega) | (rw [List.length_set]; omega))) rfl ?_; refine rj_v rfl rfl (v_loadI (k := 0) 2 ty_3 rfl rfl r' (by first | omega | (simp; omega) | (simp only [List.length_append, List.length_cons, List.length_nil]; omega) | (rw [List.length_set]; omega))) rfl ?_; refine rj_v rfl rfl (v_mul rfl rfl ((by unfold I64; omega))) rfl ?_; refine rj_v rfl rfl (v_fieldAddr fd_24_1 ty_3 (by decide) rfl) rfl (rj_v rfl rfl (v_loadB 0 ty_3 rfl rfl rfl) rfl ?_); refine rj_v rfl rfl (v_rem rfl rfl (by have := top_poly hr (.inl c27); omega)) rfl ?_; refine rj_v rfl rfl (v_idxI Tryz.underlying27 ty_3 rfl rfl rz.toR (by first | omega | (simp; omega) | (simp only [List.length_append, List.length_cons, List.length_nil]; omega) | (rw [List.length_set]; omega)) (by first | omega | (simp; omega) | (simp only [List.length_append, List.length_cons, List.length_nil]; omega) | (rw [List.length_set]; omega))) rfl ?_; refine rj_m 1 rfl rfl rfl rfl (m_storeI (k := 0) 1 ty_3 rfl rfl rfl rz (by first | omega | (simp; omega) | (simp only [List.length_append, List.length_cons, List.length_nil]; omega) | (rw [List.length_set]; omega))) rfl ?_; rintro _ h_q7_12 ⟨rfl, q7_12⟩; refine rj_end (qs_bn ?_); exact qs_ret0 rfl (fin_m 1 (i := 2) rfl rfl rfl (fin1' q7_12 (by have := width_1 (k := k) (n := n) (by omega) (by omega); omega) (by simp [mulL, c27])))
      · refine wp_sc (wp_sq (sq_v rfl (v_eql rfl rfl) rfl (sq_v rfl (v_assign rfl) rfl (sq_end (qs_n ?_))))); refine wp_cd rfl (fun c41 => ?_) (fun c41 => ?_)
        · refine wp_rj 12 [(0, true), (1, true), (2, true), (3, true), (4, true), (5, true), (6, true), (7, true), (8, true), (9, true), (10, true), (11, true), (12, false)] mixed_ok (by kernel_rfl) (rj_v rfl rfl (v_move rfl) rfl (rj_v rfl rfl (v_move rfl) rfl ?_)); refine rj_v rfl rfl (v_idxI Tryz.underlying27 ty_3 rfl rfl r (by first | omega | (simp; omega) | (simp only [List.length_append, List.length_cons, List.length_nil]; omega) | (rw [List.length_set]; omega)) (by first | omega | (simp; omega) | (simp only [List.length_append, List.length_cons, List.length_nil]; omega) | (rw [List.length_set]; omega))) rfl ?_; refine rj_v rfl rfl (v_loadI (k := 0) 2 ty_3 rfl rfl r (by first | omega | (simp; omega) | (simp only [List.length_append, List.length_cons, List.length_nil]; omega) | (rw [List.length_set]; omega))) rfl ?_; refine rj_v rfl rfl (v_move rfl) rfl ?_; refine rj_v rfl rfl (v_idxI Tryz.underlying27 ty_3 rfl rfl r' (by first | omega | (simp; omega) | (simp only [List.length_append, List.length_cons, List.length_nil]; omega) | (rw [List.length_set]; omega)) (by first | omega | (simp; omega) | (simp only [List.length_append, List.length_cons, List.length_nil]; omega) | (rw [List.length_set]; omega))) rfl ?_; refine rj_v rfl rfl (v_loadI (k := 0) 2 ty_3 rfl rfl r' (by first | omega | (simp; omega) | (simp only [List.length_append, List.length_cons, List.length_nil]; omega) | (rw [List.length_set]; omega))) rfl ?_; refine rj_v rfl rfl (v_mul rfl rfl ((by unfold I64; omega))) rfl ?_; refine rj_v rfl rfl (v_fieldAddr fd_24_1 ty_3 (by decide) rfl) rfl (rj_v rfl rfl (v_loadB 0 ty_3 rfl rfl rfl) rfl (rj_v rfl rfl (v_min rfl rfl) rfl ?_)); refine rj_v rfl rfl (v_idxI Tryz.underlying27 ty_3 rfl rfl rz.toR (by first | omega | (simp; omega) | (simp only [List.length_append, List.length_cons, List.length_nil]; omega) | (rw [List.length_set]; omega)) (by first | omega | (simp; omega) | (simp only [List.length_append, List.length_cons, List.length_nil]; omega) | (rw [List.length_set]; omega))) rfl ?_; refine rj_m 1 rfl rfl rfl rfl (m_storeI (k := 0) 1 ty_3 rfl rfl rfl rz (by first | omega | (simp; omega) | (simp only [List.length_append, List.length_cons, List.length_nil]; omega) | (rw [List.length_set]; omega))) rfl ?_; rintro _ h_q9_12 ⟨rfl, q9_12⟩; refine rj_end (qs_bn ?_); exact qs_ret0 rfl (fin_m 1 (i := 2) rfl rfl rfl (fin1' q9_12 (by have := width_1 (k := k) (n := n) (by omega) (by omega); omega) (by simp [mulL, c41])))
        · refine wp_sc (wp_sq (sq_v rfl (v_eql rfl rfl) rfl (sq_v rfl (v_assign rfl) rfl (sq_end (qs_n ?_))))); refine wp_cd rfl (fun c55 => ?_) (fun c55 => ?_)
          · refine wp_rj 12 [(0, true), (1, true), (2, true), (3, true), (4, true), (5, true), (6, true), (7, true), (8, true), (9, true), (10, true), (11, true), (12, false)] mixed_ok (by kernel_rfl) (rj_v rfl rfl (v_move rfl) rfl (rj_v rfl rfl (v_move rfl) rfl ?_)); refine rj_v rfl rfl (v_idxI Tryz.underlying27 ty_3 rfl rfl r (by first | omega | (simp; omega) | (simp only [List.length_append, List.length_cons, List.length_nil]; omega) | (rw [List.length_set]; omega)) (by first | omega | (simp; omega) | (simp only [List.length_append, List.length_cons, List.length_nil]; omega) | (rw [List.length_set]; omega))) rfl ?_; refine rj_v rfl rfl (v_loadI (k := 0) 2 ty_3 rfl rfl r (by first | omega | (simp; omega) | (simp only [List.length_append, List.length_cons, List.length_nil]; omega) | (rw [List.length_set]; omega))) rfl ?_; refine rj_v rfl rfl (v_move rfl) rfl ?_; refine rj_v rfl rfl (v_idxI Tryz.underlying27 ty_3 rfl rfl r' (by first | omega | (simp; omega) | (simp only [List.length_append, List.length_cons, List.length_nil]; omega) | (rw [List.length_set]; omega)) (by first | omega | (simp; omega) | (simp only [List.length_append, List.length_cons, List.length_nil]; omega) | (rw [List.length_set]; omega))) rfl ?_; refine rj_v rfl rfl (v_loadI (k := 0) 2 ty_3 rfl rfl r' (by first | omega | (simp; omega) | (simp only [List.length_append, List.length_cons, List.length_nil]; omega) | (rw [List.length_set]; omega))) rfl ?_; refine rj_v rfl rfl (v_add rfl rfl ((by unfold I64; omega))) rfl ?_; refine rj_v rfl rfl (v_fieldAddr fd_24_1 ty_3 (by decide) rfl) rfl (rj_v rfl rfl (v_loadB 0 ty_3 rfl rfl rfl) rfl (rj_v rfl rfl (v_min rfl rfl) rfl ?_)); refine rj_v rfl rfl (v_idxI Tryz.underlying27 ty_3 rfl rfl rz.toR (by first | omega | (simp; omega) | (simp only [List.length_append, List.length_cons, List.length_nil]; omega) | (rw [List.length_set]; omega)) (by first | omega | (simp; omega) | (simp only [List.length_append, List.length_cons, List.length_nil]; omega) | (rw [List.length_set]; omega))) rfl ?_; refine rj_m 1 rfl rfl rfl rfl (m_storeI (k := 0) 1 ty_3 rfl rfl rfl rz (by first | omega | (simp; omega) | (simp only [List.length_append, List.length_cons, List.length_nil]; omega) | (rw [List.length_set]; omega))) rfl ?_; rintro _ h_q11_12 ⟨rfl, q11_12⟩; refine rj_end (qs_bn ?_); exact qs_ret0 rfl (fin_m 1 (i := 2) rfl rfl rfl (fin1' q11_12 (by have := width_1 (k := k) (n := n) (by omega) (by omega); omega) (by simp [mulL, c55])))
          · refine wp_sc (wp_sq (sq_v rfl (v_eql rfl rfl) rfl (sq_v rfl (v_assign rfl) rfl (sq_end (qs_n ?_))))); refine wp_cd rfl (fun c69 => ?_) (fun c69 => ?_)
            · refine wp_rj 9 [(0, true), (1, true), (2, true), (3, true), (4, true), (5, true), (6, true), (7, true), (8, true), (9, false)] mixed_ok (by kernel_rfl) (rj_v rfl rfl (v_move rfl) rfl (rj_v rfl rfl (v_move rfl) rfl ?_)); refine rj_v rfl rfl (v_idxI Tryz.underlying27 ty_3 rfl rfl r (by first | omega | (simp; omega) | (simp only [List.length_append, List.length_cons, List.length_nil]; omega) | (rw [List.length_set]; omega)) (by first | omega | (simp; omega) | (simp only [List.length_append, List.length_cons, List.length_nil]; omega) | (rw [List.length_set]; omega))) rfl ?_; refine rj_v rfl rfl (v_loadI (k := 0) 2 ty_3 rfl rfl r (by first | omega | (simp; omega) | (simp only [List.length_append, List.length_cons, List.length_nil]; omega) | (rw [List.length_set]; omega))) rfl ?_; refine rj_v rfl rfl (v_move rfl) rfl ?_; refine rj_v rfl rfl (v_idxI Tryz.underlying27 ty_3 rfl rfl r' (by first | omega | (simp; omega) | (simp only [List.length_append, List.length_cons, List.length_nil]; omega) | (rw [List.length_set]; omega)) (by first | omega | (simp; omega) | (simp only [List.length_append, List.length_cons, List.length_nil]; omega) | (rw [List.length_set]; omega))) rfl ?_; refine rj_v rfl rfl (v_loadI (k := 0) 2 ty_3 rfl rfl r' (by first | omega | (simp; omega) | (simp only [List.length_append, List.length_cons, List.length_nil]; omega) | (rw [List.length_set]; omega))) rfl ?_; refine rj_v rfl rfl (v_and rfl rfl ⟨by omega, by omega⟩ ⟨by omega, by omega⟩) rfl ?_; refine rj_v rfl rfl (v_idxI Tryz.underlying27 ty_3 rfl rfl rz.toR (by first | omega | (simp; omega) | (simp only [List.length_append, List.length_cons, List.length_nil]; omega) | (rw [List.length_set]; omega)) (by first | omega | (simp; omega) | (simp only [List.length_append, List.length_cons, List.length_nil]; omega) | (rw [List.length_set]; omega))) rfl ?_; refine rj_m 1 rfl rfl rfl rfl (m_storeI (k := 0) 1 ty_3 rfl rfl rfl rz (by first | omega | (simp; omega) | (simp only [List.length_append, List.length_cons, List.length_nil]; omega) | (rw [List.length_set]; omega))) rfl ?_; rintro _ h_q13_9 ⟨rfl, q13_9⟩; refine rj_end (qs_bn ?_); exact qs_ret0 rfl (fin_m 1 (i := 2) rfl rfl rfl (fin1' q13_9 (by have := width_1 (k := k) (n := n) (by omega) (by omega); omega) (by simp [mulL, c69])))
            · refine wp_sq (sq_v rfl (v_loadNB 0 ty_24 rfl rfl rfl rfl) rfl (sq_v rfl (v_move rfl) rfl (sq_v rfl (v_move rfl) rfl (sq_v rfl (v_move rfl) rfl ?_)))); have hk := kind_rest hr (by omega) (by omega) (by omega) (by omega) (by omega) (by omega); refine sq_m 1 rfl rfl (x_call rfl en_123 (fun w s => ct_i_mulCoefficients _ _ _ _ _ _ _ _ _ w _ (by first | assumption | omega) (by first | assumption | omega) (s.get 1 rfl) rz (r.mono (s.getR 1 2 rfl rfl (by decide))) (r'.mono (s.getR 1 2 rfl rfl (by decide))) (by first | assumption | omega) (by first | assumption | omega) (by first | assumption | omega))) rfl ?_; rintro _ h14 r14; refine sq_end (qs_bn ?_); exact qs_ret0 rfl (fin_m 1 (i := 2) rfl rfl rfl (r14))
theorem ct_i_rawMul (k p n : Int) (x y : List Int) (v u : Value) (w : World) (hr : ringL k p n) (r : IntsR x v (hp w)) (r' : IntsR y u (hp w)) (hx : InR k p n x) (hy : InR k p n y) :
    Calls Tryz.prog 65 [ringV k p n, v, u].toArray w (Ret w emp (IntsO (mulL k p n x y))) := by
  have hw := width_range hr; refine calls_in Tryz.func65 rfl Tryz.ntmps65 rfl (Sat.start w) ?_; have hle0 := r.le; have hle1 := r'.le; refine wp_sc (wp_sq ?_); refine sq_x rfl (x_box rfl rfl) rfl ?_; rintro _ _ ⟨b3, rfl, rfl⟩; refine sq_v rfl (v_assign rfl) rfl (sq_end (qs_n (wp_sc (wp_sq (sq_v rfl (v_loadNB 0 ty_24 rfl rfl rfl rfl) rfl (sq_u rfl (x_callv rfl en_86 (fun w s => ct_i_rawWidth _ _ _ w)) rfl ?_)))))); refine sq_x rfl (x_makeI Tryz.underlying27 ty_3 rfl rfl (by first | omega | (simp; omega) | (simp only [List.length_append, List.length_cons, List.length_nil]; omega) | (rw [List.length_set]; omega)) (by first | omega | (simp; omega) | (simp only [List.length_append, List.length_cons, List.length_nil]; omega) | (rw [List.length_set]; omega)) (by first | omega | (simp; omega) | (simp only [List.length_append, List.length_cons, List.length_nil]; omega) | (rw [List.length_set]; omega))) rfl ?_; intro v10 h10 r10; refine sq_v rfl (v_assign rfl) rfl (sq_end (qs_n (wp_sc (wp_sq (sq_v rfl (v_loadNB 1 ty_24 rfl rfl rfl rfl) rfl (sq_v rfl (v_move rfl) rfl (sq_v rfl (v_move rfl) rfl (sq_v rfl (v_move rfl) rfl ?_)))))))); refine sq_m 0 rfl rfl (x_call rfl en_95 (fun w s => ct_i_mulInto _ _ _ _ _ _ _ _ _ w _ (by first | assumption | omega) (s.get 0 rfl) r10 (r.mono (s.getR 0 2 rfl rfl (by decide))) (r'.mono (s.getR 0 2 rfl rfl (by decide))) (by simp) (by first | assumption | omega) (by first | assumption | omega))) rfl ?_; rintro _ h15 r15; refine sq_end (qs_n (wp_sc (wp_sq (sq_v rfl (v_move rfl) rfl (sq_v rfl (v_assign rfl) rfl (sq_end (qs_n (wp_rt ?_)))))))); exact qs_ret1 rfl rfl (fin_t 0 (i := 2) rfl rfl rfl (r15))
open Classical in
noncomputable def add1 (k p : Int) (a b : Int) : Int :=
  if k = 1 ∨ k = 5 then max a b else if k = 3 then min (a + b) p else if k = 4 then min a b else if k = 6 then ((a.toNat ||| b.toNat : Nat) : Int) else (a + b).tmod p
noncomputable def addL (k p : Int) (x y : List Int) : List Int := (List.range x.length).map fun i => add1 k p (x.getD i 0) (y.getD i 0)
theorem addL_len (k p : Int) (x y : List Int) : (addL k p x y).length = x.length := by simp [addL]
theorem addL_get {k p : Int} {x y : List Int} {i : Nat} (h : i < x.length) : (addL k p x y).getD i 0 = add1 k p (x.getD i 0) (y.getD i 0) := by simp [addL, List.getD, h]
theorem or_in {a b n : Int} (ha : 0 ≤ a ∧ a ≤ 2 ^ n.toNat - 1) (hb : 0 ≤ b ∧ b ≤ 2 ^ n.toNat - 1) : 0 ≤ ((a.toNat ||| b.toNat : Nat) : Int) ∧ ((a.toNat ||| b.toNat : Nat) : Int) ≤ 2 ^ n.toNat - 1 := by
  have e : ((2 ^ n.toNat : Nat) : Int) = (2 : Int) ^ n.toNat := by simp
  have h1 : a.toNat ||| b.toNat < 2 ^ n.toNat := Nat.or_lt_two_pow (by omega) (by omega)
  omega
theorem add1_in {k p n a b : Int} (hr : ringL k p n) (ha : 0 ≤ a ∧ a ≤ topI k p n) (hb : 0 ≤ b ∧ b ≤ topI k p n) : 0 ≤ add1 k p a b ∧ add1 k p a b ≤ topI k p n := by
  unfold add1
  split
  · omega
  · split
    · have := top_cap hr (by omega); omega
    · split
      · omega
      · split
        · rename_i h6
          have ht : topI k p n = 2 ^ n.toNat - 1 := by simp [topI, h6]
          rw [ht] at ha hb ⊢; exact or_in ha hb
        · have ht := top_poly hr (kind_rest' hr (by omega) (by omega) (by omega) (by omega) (by omega)); have := tmod_in (a := a + b) (p := p) (by omega) (by omega)
          omega
theorem addL_in {k p n : Int} {x y : List Int} (hr : ringL k p n) (hx : InR k p n x) (hy : InR k p n y) : InR k p n (addL k p x y) := by
  refine ⟨by rw [addL_len]; exact hx.1, fun a ha => ?_⟩; simp only [addL, List.mem_map, List.mem_range] at ha; obtain ⟨i, hi, rfl⟩ := ha; exact add1_in hr (hx.at hr i hi) (hy.at hr i (by have := hx.1; have := hy.1; omega))
/-- The first i sums. -/
noncomputable def addTo (k p : Int) (x y o : List Int) (i : Nat) : List Int := (addL k p x y).take i ++ o.drop i
theorem addTo_step {k p : Int} {x y o : List Int} {i : Nat} (hi : i < x.length) (ho : o.length = x.length) : (addTo k p x y o i).set i (add1 k p (x.getD i 0) (y.getD i 0)) = addTo k p x y o (i + 1) := by
  have hl := addL_len k p x y
  unfold addTo
  apply List.ext_getElem
  · simp; omega
  · intro j h1 h2; rw [List.getElem_set]
    split
    · rename_i e; subst e
      rw [List.getElem_append_left (by simp; omega), List.getElem_take, ← addL_get hi]
      simp [List.getD, hl, hi]
    · rename_i e
      rcases Nat.lt_or_ge j i with hj | hj
      · rw [List.getElem_append_left (by simp; omega), List.getElem_append_left (by simp; omega), List.getElem_take, List.getElem_take]
      · rw [List.getElem_append_right (by simp; omega), List.getElem_append_right (by simp; omega), List.getElem_drop, List.getElem_drop]
        congr 1
        simp only [List.length_take, hl]
        omega
theorem addTo_len {k p : Int} {x y o : List Int} {i : Nat} (hi : i ≤ x.length) (ho : o.length = x.length) : (addTo k p x y o i).length = x.length := by
  simp [addTo, addL_len]; omega
theorem addTo_get {k p : Int} {x y o : List Int} {i j : Nat} (hj : i ≤ j) (hi : i ≤ x.length) : (addTo k p x y o i).getD j 0 = o.getD j 0 := by
  have : (List.take i (addL k p x y)).length = i := by simp [addL_len]; omega
  simp only [addTo, List.getD]; rw [List.getElem?_append_right (by omega), List.getElem?_drop]
  congr 2
  omega
/-- Numbers put in the place of others, from lo on. -/
def putL (xs : List Int) (lo : Nat) (ys : List Int) : List Int := xs.take lo ++ ys ++ xs.drop (lo + ys.length)
theorem putL_len {xs ys : List Int} {lo : Nat} (h : lo + ys.length ≤ xs.length) : (putL xs lo ys).length = xs.length := by simp [putL]; omega
theorem putL_set {xs ys : List Int} {lo i : Nat} (h : lo + ys.length ≤ xs.length) (hi : i < ys.length) (a : Int) : (putL xs lo ys).set (lo + i) a = putL xs lo (ys.set i a) := by
  unfold putL
  rw [List.append_assoc, List.set_append_right _ _ (by simp; omega), List.set_append_left _ _ (by simp; omega), List.length_set, List.append_assoc]
  congr 3
  simp; omega
theorem putL_win {xs ys : List Int} {lo : Nat} (h : lo + ys.length ≤ xs.length) : ((putL xs lo ys).drop lo).take ys.length = ys := by
  have : (xs.take lo).length = lo := by simp; omega
  unfold putL
  rw [List.append_assoc, List.drop_append, this, Nat.sub_self, List.drop_zero, List.drop_of_length_le (by omega), List.nil_append, List.take_left]
theorem putL_self {xs : List Int} {lo m : Nat} (h : lo + m ≤ xs.length) : putL xs lo ((xs.drop lo).take m) = xs := by
  unfold putL
  have : ((xs.drop lo).take m).length = m := by simp; omega
  rw [this, List.append_assoc, ← List.drop_drop]; rw [List.take_append_drop, List.take_append_drop]
theorem IntsO.win {xs ys : List Int} {lo hi : Nat} {v : Value} {g : PH} (q : IntsO (putL xs lo ys) v g) (h : lo + ys.length ≤ xs.length) (hh : hi = lo + ys.length) : IntsR ys (subV v lo hi 1) g := by
  subst hh; have := q.toR.sub (lo := lo) (hi := lo + ys.length) (by omega) (by rw [putL_len h]; exact h)
  rwa [Nat.add_sub_cancel_left, putL_win h] at this
set_option maxHeartbeats 1000000 in
theorem ct_i_addInto (k p n : Int) (xs y : List Int) (lo hi : Nat) (sv u : Value) (w : World) (h : PH) (hr : ringL k p n) (hle : PLe h (hp w)) (rz : IntsO xs sv h) (r' : IntsR y u (restP w h)) (hh : hi = lo + y.length) (hxs : hi ≤ xs.length) (hx : InR k p n ((xs.drop lo).take y.length)) (hy : InR k p n y) :
    Calls Tryz.prog 57 [ringV k p n, subV sv lo hi 1, u].toArray w (Ret w h (fun _ h' => IntsO (putL xs lo (addL k p ((xs.drop lo).take y.length) y)) sv h')) := by
  have h1 := hx.len hr; have h2 := hy.len hr; have htr := top_range hr; have hrp := ring_p hr; have hx0 := hx.at hr 0 (by omega); have hy0 := hy.at hr 0 (by omega); have hwl : ((xs.drop lo).take y.length).length = y.length := by simp; omega
  rw [← putL_self (xs := xs) (lo := lo) (m := y.length) (by omega)] at rz
  generalize ((xs.drop lo).take y.length) = x at *
  have rs := rz.win (hi := hi) (by omega) (by omega); have hone : ∀ a q1 h', IntsO ((putL xs lo x).set (lo + 0) a) sv h' → x.length = 1 → add1 k p (x.getD 0 0) (y.getD 0 0) = a → q1 = h' → IntsO (putL xs lo (addL k p x y)) sv h' := fun a q1 h' q hl1 he _ => by
    rw [putL_set (by omega) (by omega)] at q; have e : addL k p x y = x.set 0 a := by
      match x, hl1 with
      | [b], _ => simp [addL, ← he]
    rw [e]; exact q
  refine calls_in Tryz.func57 rfl Tryz.ntmps57 rfl (Sat.start2 hle) ?_; have hle0 := rz.toR.le; have hle1 := r'.le; have hle2 := rs.le; refine wp_sc (wp_sq ?_); refine sq_x rfl (x_box rfl rfl) rfl ?_; rintro _ _ ⟨b3, rfl, rfl⟩; refine sq_end (qs_n (wp_sc (wp_sq (sq_v rfl (v_fieldAddr fd_24_0 ty_3 (by decide) rfl) rfl (sq_v rfl (v_loadB 0 ty_3 rfl rfl rfl) rfl (sq_end (qs_n (wp_bl (wp_sc (wp_sc (wp_sq (sq_v rfl (v_eql rfl rfl) rfl (sq_v rfl (v_assign rfl) rfl (sq_end (qs_n ?_))))))))))))))); refine wp_cSd rfl (fun c30 => ?_) (fun c30 => ?_)
  · refine wp_sk (qs_n (wp_ct rfl (wp_rj 9 [(0, true), (1, true), (2, true), (3, true), (4, true), (5, true), (6, true), (7, true), (8, true), (9, false)] mixed_ok (by kernel_rfl) (rj_v rfl rfl (v_move rfl) rfl (rj_v rfl rfl (v_move rfl) rfl ?_))))); refine rj_v rfl rfl (v_idxI Tryz.underlying27 ty_3 rfl rfl rs (by first | omega | (simp; omega) | (simp only [List.length_append, List.length_cons, List.length_nil]; omega) | (rw [List.length_set]; omega)) (by first | omega | (simp; omega) | (simp only [List.length_append, List.length_cons, List.length_nil]; omega) | (rw [List.length_set]; omega))) rfl ?_; refine rj_v rfl rfl (v_loadI (k := 0) 1 ty_3 rfl rfl rs (by first | omega | (simp; omega) | (simp only [List.length_append, List.length_cons, List.length_nil]; omega) | (rw [List.length_set]; omega))) rfl ?_; refine rj_v rfl rfl (v_move rfl) rfl ?_; refine rj_v rfl rfl (v_idxI Tryz.underlying27 ty_3 rfl rfl r' (by first | omega | (simp; omega) | (simp only [List.length_append, List.length_cons, List.length_nil]; omega) | (rw [List.length_set]; omega)) (by first | omega | (simp; omega) | (simp only [List.length_append, List.length_cons, List.length_nil]; omega) | (rw [List.length_set]; omega))) rfl ?_; refine rj_v rfl rfl (v_loadI (k := 0) 2 ty_3 rfl rfl r' (by first | omega | (simp; omega) | (simp only [List.length_append, List.length_cons, List.length_nil]; omega) | (rw [List.length_set]; omega))) rfl ?_; refine rj_v rfl rfl (v_max rfl rfl) rfl ?_; refine rj_v rfl rfl (v_idxI Tryz.underlying27 ty_3 rfl rfl rs (by first | omega | (simp; omega) | (simp only [List.length_append, List.length_cons, List.length_nil]; omega) | (rw [List.length_set]; omega)) (by first | omega | (simp; omega) | (simp only [List.length_append, List.length_cons, List.length_nil]; omega) | (rw [List.length_set]; omega))) rfl ?_; refine rj_m 1 rfl rfl rfl rfl (m_storeSub 1 ty_3 rfl rfl rfl rz (by omega) (by rw [putL_len (by omega)]; omega)) rfl ?_; rintro _ h_q9 ⟨rfl, q9⟩; refine rj_end (qs_bn ?_); exact qs_ret0 rfl (fin_m 1 (i := 2) rfl rfl rfl (hone _ _ _ q9 (by have := width_1 (k := k) (n := n) (by omega) (by omega); omega) (by simp [add1, c30]) rfl))
  · refine wp_sq (sq_v rfl (v_eql rfl rfl) rfl (sq_v rfl (v_assign rfl) rfl (sq_end (qs_n ?_)))); refine wp_cSd rfl (fun c30 => ?_) (fun c30 => ?_)
    · refine wp_rj 9 [(0, true), (1, true), (2, true), (3, true), (4, true), (5, true), (6, true), (7, true), (8, true), (9, false)] mixed_ok (by kernel_rfl) (rj_v rfl rfl (v_move rfl) rfl (rj_v rfl rfl (v_move rfl) rfl ?_)); refine rj_v rfl rfl (v_idxI Tryz.underlying27 ty_3 rfl rfl rs (by first | omega | (simp; omega) | (simp only [List.length_append, List.length_cons, List.length_nil]; omega) | (rw [List.length_set]; omega)) (by first | omega | (simp; omega) | (simp only [List.length_append, List.length_cons, List.length_nil]; omega) | (rw [List.length_set]; omega))) rfl ?_; refine rj_v rfl rfl (v_loadI (k := 0) 1 ty_3 rfl rfl rs (by first | omega | (simp; omega) | (simp only [List.length_append, List.length_cons, List.length_nil]; omega) | (rw [List.length_set]; omega))) rfl ?_; refine rj_v rfl rfl (v_move rfl) rfl ?_; refine rj_v rfl rfl (v_idxI Tryz.underlying27 ty_3 rfl rfl r' (by first | omega | (simp; omega) | (simp only [List.length_append, List.length_cons, List.length_nil]; omega) | (rw [List.length_set]; omega)) (by first | omega | (simp; omega) | (simp only [List.length_append, List.length_cons, List.length_nil]; omega) | (rw [List.length_set]; omega))) rfl ?_; refine rj_v rfl rfl (v_loadI (k := 0) 2 ty_3 rfl rfl r' (by first | omega | (simp; omega) | (simp only [List.length_append, List.length_cons, List.length_nil]; omega) | (rw [List.length_set]; omega))) rfl ?_; refine rj_v rfl rfl (v_max rfl rfl) rfl ?_; refine rj_v rfl rfl (v_idxI Tryz.underlying27 ty_3 rfl rfl rs (by first | omega | (simp; omega) | (simp only [List.length_append, List.length_cons, List.length_nil]; omega) | (rw [List.length_set]; omega)) (by first | omega | (simp; omega) | (simp only [List.length_append, List.length_cons, List.length_nil]; omega) | (rw [List.length_set]; omega))) rfl ?_; refine rj_m 1 rfl rfl rfl rfl (m_storeSub 1 ty_3 rfl rfl rfl rz (by omega) (by rw [putL_len (by omega)]; omega)) rfl ?_; rintro _ h_q9 ⟨rfl, q9⟩; refine rj_end (qs_bn ?_); exact qs_ret0 rfl (fin_m 1 (i := 2) rfl rfl rfl (hone _ _ _ q9 (by have := width_1 (k := k) (n := n) (by omega) (by omega); omega) (by simp [add1, c30]) rfl))
    · refine wp_sc (wp_sq (sq_v rfl (v_eql rfl rfl) rfl (sq_v rfl (v_assign rfl) rfl (sq_end (qs_n ?_))))); refine wp_cd rfl (fun c42 => ?_) (fun c42 => ?_)
      · refine wp_rj 12 [(0, true), (1, true), (2, true), (3, true), (4, true), (5, true), (6, true), (7, true), (8, true), (9, true), (10, true), (11, true), (12, false)] mixed_ok (by kernel_rfl) (rj_v rfl rfl (v_move rfl) rfl (rj_v rfl rfl (v_move rfl) rfl ?_)); refine rj_v rfl rfl (v_idxI Tryz.underlying27 ty_3 rfl rfl rs (by first | omega | (simp; omega) | (simp only [List.length_append, List.length_cons, List.length_nil]; omega) | (rw [List.length_set]; omega)) (by first | omega | (simp; omega) | (simp only [List.length_append, List.length_cons, List.length_nil]; omega) | (rw [List.length_set]; omega))) rfl ?_; refine rj_v rfl rfl (v_loadI (k := 0) 1 ty_3 rfl rfl rs (by first | omega | (simp; omega) | (simp only [List.length_append, List.length_cons, List.length_nil]; omega) | (rw [List.length_set]; omega))) rfl ?_; refine rj_v rfl rfl (v_move rfl) rfl ?_; refine rj_v rfl rfl (v_idxI Tryz.underlying27 ty_3 rfl rfl r' (by first | omega | (simp; omega) | (simp only [List.length_append, List.length_cons, List.length_nil]; omega) | (rw [List.length_set]; omega)) (by first | omega | (simp; omega) | (simp only [List.length_append, List.length_cons, List.length_nil]; omega) | (rw [List.length_set]; omega))) rfl ?_; refine rj_v rfl rfl (v_loadI (k := 0) 2 ty_3 rfl rfl r' (by first | omega | (simp; omega) | (simp only [List.length_append, List.length_cons, List.length_nil]; omega) | (rw [List.length_set]; omega))) rfl ?_; refine rj_v rfl rfl (v_add rfl rfl ((by unfold I64; omega))) rfl ?_; refine rj_v rfl rfl (v_fieldAddr fd_24_1 ty_3 (by decide) rfl) rfl (rj_v rfl rfl (v_loadB 0 ty_3 rfl rfl rfl) rfl (rj_v rfl rfl (v_min rfl rfl) rfl ?_)); refine rj_v rfl rfl (v_idxI Tryz.underlying27 ty_3 rfl rfl rs (by first | omega | (simp; omega) | (simp only [List.length_append, List.length_cons, List.length_nil]; omega) | (rw [List.length_set]; omega)) (by first | omega | (simp; omega) | (simp only [List.length_append, List.length_cons, List.length_nil]; omega) | (rw [List.length_set]; omega))) rfl ?_; refine rj_m 1 rfl rfl rfl rfl (m_storeSub 1 ty_3 rfl rfl rfl rz (by omega) (by rw [putL_len (by omega)]; omega)) rfl ?_; rintro _ h_q11 ⟨rfl, q11⟩; refine rj_end (qs_bn ?_); exact qs_ret0 rfl (fin_m 1 (i := 2) rfl rfl rfl (hone _ _ _ q11 (by have := width_1 (k := k) (n := n) (by omega) (by omega); omega) (by simp [add1, c42]) rfl))
      · refine wp_sc (wp_sq (sq_v rfl (v_eql rfl rfl) rfl (sq_v rfl (v_assign rfl) rfl (sq_end (qs_n ?_))))); refine wp_cd rfl (fun c56 => ?_) (fun c56 => ?_)
        · refine wp_rj 9 [(0, true), (1, true), (2, true), (3, true), (4, true), (5, true), (6, true), (7, true), (8, true), (9, false)] mixed_ok (by kernel_rfl) (rj_v rfl rfl (v_move rfl) rfl (rj_v rfl rfl (v_move rfl) rfl ?_)); refine rj_v rfl rfl (v_idxI Tryz.underlying27 ty_3 rfl rfl rs (by first | omega | (simp; omega) | (simp only [List.length_append, List.length_cons, List.length_nil]; omega) | (rw [List.length_set]; omega)) (by first | omega | (simp; omega) | (simp only [List.length_append, List.length_cons, List.length_nil]; omega) | (rw [List.length_set]; omega))) rfl ?_; refine rj_v rfl rfl (v_loadI (k := 0) 1 ty_3 rfl rfl rs (by first | omega | (simp; omega) | (simp only [List.length_append, List.length_cons, List.length_nil]; omega) | (rw [List.length_set]; omega))) rfl ?_; refine rj_v rfl rfl (v_move rfl) rfl ?_; refine rj_v rfl rfl (v_idxI Tryz.underlying27 ty_3 rfl rfl r' (by first | omega | (simp; omega) | (simp only [List.length_append, List.length_cons, List.length_nil]; omega) | (rw [List.length_set]; omega)) (by first | omega | (simp; omega) | (simp only [List.length_append, List.length_cons, List.length_nil]; omega) | (rw [List.length_set]; omega))) rfl ?_; refine rj_v rfl rfl (v_loadI (k := 0) 2 ty_3 rfl rfl r' (by first | omega | (simp; omega) | (simp only [List.length_append, List.length_cons, List.length_nil]; omega) | (rw [List.length_set]; omega))) rfl ?_; refine rj_v rfl rfl (v_min rfl rfl) rfl ?_; refine rj_v rfl rfl (v_idxI Tryz.underlying27 ty_3 rfl rfl rs (by first | omega | (simp; omega) | (simp only [List.length_append, List.length_cons, List.length_nil]; omega) | (rw [List.length_set]; omega)) (by first | omega | (simp; omega) | (simp only [List.length_append, List.length_cons, List.length_nil]; omega) | (rw [List.length_set]; omega))) rfl ?_; refine rj_m 1 rfl rfl rfl rfl (m_storeSub 1 ty_3 rfl rfl rfl rz (by omega) (by rw [putL_len (by omega)]; omega)) rfl ?_; rintro _ h_q13 ⟨rfl, q13⟩; refine rj_end (qs_bn ?_); exact qs_ret0 rfl (fin_m 1 (i := 2) rfl rfl rfl (hone _ _ _ q13 (by have := width_1 (k := k) (n := n) (by omega) (by omega); omega) (by simp [add1, c56]) rfl))
        · refine wp_sc (wp_sq (sq_v rfl (v_eql rfl rfl) rfl (sq_v rfl (v_assign rfl) rfl (sq_end (qs_n ?_))))); refine wp_cd rfl (fun c67 => ?_) (fun c67 => ?_)
          · refine wp_rj 8 [(0, true), (1, true), (2, true), (3, true), (4, true), (5, true), (6, true), (7, true), (8, false)] mixed_ok (by kernel_rfl) (rj_v rfl rfl (v_move rfl) rfl ?_); refine rj_v rfl rfl (v_idxI Tryz.underlying27 ty_3 rfl rfl rs (by first | omega | (simp; omega) | (simp only [List.length_append, List.length_cons, List.length_nil]; omega) | (rw [List.length_set]; omega)) (by first | omega | (simp; omega) | (simp only [List.length_append, List.length_cons, List.length_nil]; omega) | (rw [List.length_set]; omega))) rfl ?_; refine rj_v rfl rfl (v_loadI (k := 0) 1 ty_3 rfl rfl rs (by first | omega | (simp; omega) | (simp only [List.length_append, List.length_cons, List.length_nil]; omega) | (rw [List.length_set]; omega))) rfl ?_; refine rj_v rfl rfl (v_move rfl) rfl ?_; refine rj_v rfl rfl (v_idxI Tryz.underlying27 ty_3 rfl rfl r' (by first | omega | (simp; omega) | (simp only [List.length_append, List.length_cons, List.length_nil]; omega) | (rw [List.length_set]; omega)) (by first | omega | (simp; omega) | (simp only [List.length_append, List.length_cons, List.length_nil]; omega) | (rw [List.length_set]; omega))) rfl ?_; refine rj_v rfl rfl (v_loadI (k := 0) 2 ty_3 rfl rfl r' (by first | omega | (simp; omega) | (simp only [List.length_append, List.length_cons, List.length_nil]; omega) | (rw [List.length_set]; omega))) rfl ?_; refine rj_v rfl rfl (v_or rfl rfl ⟨by omega, by omega⟩ ⟨by omega, by omega⟩) rfl ?_; refine rj_v rfl rfl (v_idxI Tryz.underlying27 ty_3 rfl rfl rs (by first | omega | (simp; omega) | (simp only [List.length_append, List.length_cons, List.length_nil]; omega) | (rw [List.length_set]; omega)) (by first | omega | (simp; omega) | (simp only [List.length_append, List.length_cons, List.length_nil]; omega) | (rw [List.length_set]; omega))) rfl ?_; refine rj_m 1 rfl rfl rfl rfl (m_storeSub 1 ty_3 rfl rfl rfl rz (by omega) (by rw [putL_len (by omega)]; omega)) rfl ?_; rintro _ h_q15 ⟨rfl, q15⟩; refine rj_end (qs_bn ?_); exact qs_ret0 rfl (fin_m 1 (i := 2) rfl rfl rfl (hone _ _ _ q15 (by have := width_1 (k := k) (n := n) (by omega) (by omega); omega) (by simp [add1, c67]) rfl))
          · refine wp_sc (wp_sq (sq_v rfl (v_move rfl) rfl (sq_v rfl (v_len Tryz.underlying27 rfl rs.sl) rfl (sq_v rfl (v_move rfl) rfl (sq_end (qs_n (wp_bl ?_))))))); refine wp_lp (σ := Nat × PH) (fun z_ => [(1, subV sv lo hi 1), (2, u), (3, .pointer (some ⟨b3, 0, none⟩)), (10, num x.length), (11, num z_.1)]) (fun z_ => [box b3 [num k, num p, num n] 24, z_.2, (restP w h)]) (fun z_ => z_.1 ≤ x.length ∧ IntsO (putL xs lo (addTo k p x y x z_.1)) sv z_.2) (fun z_ => x.length - z_.1) (0, h) (⟨by (try dsimp only); omega, by (try dsimp only); simpa [addTo] using rz⟩) ⟨rfl, rfl, rfl, rfl, (by first | rfl | exact ksub rfl (by first | omega | (simp; done) | (simp; omega))), trivial⟩ (fun _ s => s) ?_; rintro ⟨i, g⟩ ⟨hi', q⟩; dsimp only at hi' q ⊢; have hle_q := q.toR.le; have hl := addTo_len (k := k) (p := p) (y := y) (o := x) hi' rfl; have hst : i < x.length → _ := fun h => addTo_step (k := k) (p := p) (y := y) (o := x) h rfl; have rs' := q.win (hi := hi) (by omega) (by omega); have hgi := addTo_get (k := k) (p := p) (x := x) (y := y) (o := x) (Nat.le_refl i) hi'; refine wp_sc (wp_sq (sq_v rfl (v_lss rfl rfl) rfl (sq_end (qs_n (wp_sc ?_))))); refine wp_cd rfl (fun c12 => ?_) (fun c12 => ?_)
            · refine wp_sk (qs_n (wp_sc (wp_bl (wp_sc (wp_sq (sq_v rfl (v_move rfl) rfl (sq_v rfl (v_assign rfl) rfl (sq_end ?_)))))))); have hxi := hx.at hr i (by omega); have hyi := hy.at hr i (by omega); refine qs_n (wp_rj 15 [(0, true), (1, true), (2, true), (3, true), (4, true), (5, true), (6, true), (7, true), (8, true), (9, true), (10, true), (11, true), (12, true), (13, true), (14, true), (15, false)] mixed_ok (by kernel_rfl) (rj_v rfl rfl (v_move rfl) rfl (rj_v rfl rfl (v_move rfl) rfl (rj_v rfl rfl (v_move rfl) rfl (rj_v rfl rfl (v_move rfl) rfl ?_))))); refine rj_v rfl rfl (v_idxI Tryz.underlying27 ty_3 rfl rfl rs' (by first | omega | (simp; omega) | (simp only [List.length_append, List.length_cons, List.length_nil]; omega) | (rw [List.length_set]; omega)) (by first | omega | (simp; omega) | (simp only [List.length_append, List.length_cons, List.length_nil]; omega) | (rw [List.length_set]; omega))) rfl ?_; refine rj_v rfl rfl (v_loadI (k := i) 1 ty_3 rfl rfl rs' (by first | omega | (simp; omega) | (simp only [List.length_append, List.length_cons, List.length_nil]; omega) | (rw [List.length_set]; omega))) rfl ?_; refine rj_v rfl rfl (v_move rfl) rfl (rj_v rfl rfl (v_move rfl) rfl ?_); refine rj_v rfl rfl (v_idxI Tryz.underlying27 ty_3 rfl rfl r' (by first | omega | (simp; omega) | (simp only [List.length_append, List.length_cons, List.length_nil]; omega) | (rw [List.length_set]; omega)) (by first | omega | (simp; omega) | (simp only [List.length_append, List.length_cons, List.length_nil]; omega) | (rw [List.length_set]; omega))) rfl ?_; refine rj_v rfl rfl (v_loadI (k := i) 2 ty_3 rfl rfl r' (by first | omega | (simp; omega) | (simp only [List.length_append, List.length_cons, List.length_nil]; omega) | (rw [List.length_set]; omega))) rfl ?_; refine rj_v rfl rfl (v_add rfl rfl ((by unfold I64; omega))) rfl ?_; refine rj_v rfl rfl (v_fieldAddr fd_24_1 ty_3 (by decide) rfl) rfl (rj_v rfl rfl (v_loadB 0 ty_3 rfl rfl rfl) rfl ?_); refine rj_v rfl rfl (v_rem rfl rfl (by have := top_poly hr (kind_rest' hr (by omega) (by omega) (by omega) (by omega) (by omega)); omega)) rfl ?_; refine rj_v rfl rfl (v_idxI Tryz.underlying27 ty_3 rfl rfl rs' (by first | omega | (simp; omega) | (simp only [List.length_append, List.length_cons, List.length_nil]; omega) | (rw [List.length_set]; omega)) (by first | omega | (simp; omega) | (simp only [List.length_append, List.length_cons, List.length_nil]; omega) | (rw [List.length_set]; omega))) rfl ?_; refine rj_m 1 rfl rfl rfl rfl (m_storeSub 1 ty_3 rfl rfl rfl q (by omega) (by rw [putL_len (by omega)]; omega)) rfl ?_; rintro _ h_q5 ⟨rfl, q5⟩; refine rj_end (qs_bn (qs_n (wp_sq ?_))); refine sq_v rfl (v_add rfl rfl ((by unfold I64; omega))) rfl ?_; refine sq_v rfl (v_move rfl) rfl (sq_end ?_); exact qs_bk (i + 1, h_q5) ⟨by (try dsimp only); omega, by (try dsimp only); rw [← hst (by omega), ← putL_set (by omega) (by omega), add1, if_neg (by omega), if_neg (by omega), if_neg (by omega), if_neg (by omega)]; rw [hgi] at q5; exact q5⟩ (by simp only; omega) ⟨rfl, rfl, rfl, rfl, (by first | rfl | exact ksub rfl (by first | omega | (simp; done) | (simp; omega))), trivial⟩ (fun _ s => s)
            · refine wp_ex (qs_x (qs_x (qs_bx (qs_bn ?_)))); exact qs_ret0 rfl (fin_m 1 (i := 2) rfl rfl rfl (by rw [addTo, List.drop_of_length_le (by omega), List.append_nil, List.take_of_length_le (by rw [addL_len]; omega)] at q; exact q))
end Go.Proofs.YtiefkcaplhnnmaaGreat
namespace Go.Proofs.YtiefkcaplhnnmaaGreat
set_option maxRecDepth 100000
open Go.RowKit
def mixL (A B : List Int) (k : Nat) : List Int := A.take k ++ B.drop k
theorem mix_len {A B : List Int} {k : Nat} (h : A.length = B.length) (hk : k ≤ A.length) : (mixL A B k).length = A.length := by simp [mixL]; omega
theorem mix_zero (A B : List Int) : mixL A B 0 = B := by simp [mixL]
theorem mix_end {A B : List Int} (h : A.length = B.length) {k : Nat} (hk : A.length ≤ k) : mixL A B k = A := by
  simp only [mixL]; rw [List.take_of_length_le hk, List.drop_of_length_le (by omega), List.append_nil]
theorem mix_set {A B : List Int} {k : Nat} (h : A.length = B.length) (hk : k < A.length) : (mixL A B k).set k (A.getD k 0) = mixL A B (k + 1) := by
  unfold mixL
  apply List.ext_getElem
  · simp; omega
  · intro j h1 h2; rw [List.getElem_set]
    split
    · rename_i e; subst e
      rw [List.getElem_append_left (by simp; omega), List.getElem_take]
      simp [List.getD, hk]
    · rename_i e
      rcases Nat.lt_or_ge j k with hj | hj
      · rw [List.getElem_append_left (by simp; omega), List.getElem_append_left (by simp; omega), List.getElem_take, List.getElem_take]
      · rw [List.getElem_append_right (by simp; omega), List.getElem_append_right (by simp; omega), List.getElem_drop, List.getElem_drop]
        congr 1
        simp only [List.length_take]
        omega
theorem mix_get {A B : List Int} {k j : Nat} (hk : k ≤ A.length) (hj : k ≤ j) : (mixL A B k).getD j 0 = B.getD j 0 := by
  have : (A.take k).length = k := by simp; omega
  simp only [mixL, List.getD]; rw [List.getElem?_append_right (by omega), List.getElem?_drop]
  congr 2
  omega
theorem mix_keep {A B : List Int} {k : Nat} (h : A.length = B.length) (hk : k < A.length) (e : A.getD k 0 = B.getD k 0) : mixL A B (k + 1) = mixL A B k := by
  rw [← mix_set h hk, e, ← mix_get (A := A) (B := B) (Nat.le_of_lt hk) (Nat.le_refl k)]; have := mix_len h (Nat.le_of_lt hk)
  apply List.ext_getElem (by simp)
  intro j h1 h2; rw [List.getElem_set]
  split
  · rename_i e'; subst e'; simp [List.getD, h2]
  · rfl
theorem foldl_mul (ds : List Int) (a : Int) : ds.foldl (· * ·) a = a * prodI ds := by
  induction ds generalizing a with
  | nil => simp [prodI]
  | cons d r ih =>
    simp only [prodI, List.foldl_cons]; rw [ih, ih (1 * d), Int.one_mul, Int.mul_assoc]
theorem prodI_cons (d : Int) (ds : List Int) : prodI (d :: ds) = d * prodI ds := by
  simp only [prodI, List.foldl_cons, Int.one_mul]; exact foldl_mul ds d
theorem prodI_append (a b : List Int) : prodI (a ++ b) = prodI a * prodI b := by
  simp only [prodI, List.foldl_append]; exact foldl_mul b _
theorem drop_cons {xs : List Int} {i : Nat} (h : i < xs.length) : xs.drop i = xs.getD i 0 :: xs.drop (i + 1) := by
  rw [List.drop_eq_getElem_cons h]; simp [List.getD, h]
theorem prodI_one {ds : List Int} (h : ∀ d ∈ ds, 1 ≤ d) : 1 ≤ prodI ds := by
  induction ds with
  | nil => simp [prodI]
  | cons d r ih =>
    rw [prodI_cons]; have h1 := h d (by simp); have h2 := ih (fun x hx => h x (by simp [hx])); have := Int.mul_le_mul h1 h2 (by omega) (by omega)
    omega
theorem prodI_drop {ds : List Int} (h : ∀ d ∈ ds, 1 ≤ d) (i : Nat) : 1 ≤ prodI (ds.drop i) ∧ prodI (ds.drop i) ≤ prodI ds := by
  have e : prodI ds = prodI (ds.take i) * prodI (ds.drop i) := by rw [← prodI_append, List.take_append_drop]
  have h1 := prodI_one (ds := ds.drop i) (fun d hd => h d (List.mem_of_mem_drop hd)); have h2 := prodI_one (ds := ds.take i) (fun d hd => h d (List.mem_of_mem_take hd)); refine ⟨h1, ?_⟩; rw [e]; have := Int.mul_le_mul_of_nonneg_right h2 (show 0 ≤ prodI (ds.drop i) by omega)
  omega
theorem dims_mem {ds : List Int} (h : dimsIn ds) : ∀ d ∈ ds, 1 ≤ d ∧ d ≤ 8 := all_of h
def strOf : List Int → List Int → Int → Int
  | l :: ls, _ :: ds, x => if x = l then prodI ds else strOf ls ds x
  | _, _, _ => 0
def stepsL (labels ls ds : List Int) : List Int := labels.map (strOf ls ds)
theorem stepsL_len (labels ls ds : List Int) : (stepsL labels ls ds).length = labels.length := by simp [stepsL]
theorem stepsL_get {labels ls ds : List Int} {k : Nat} (h : k < labels.length) : (stepsL labels ls ds).getD k 0 = strOf ls ds (labels.getD k 0) := map_getD h
theorem strOf_none {x : Int} : ∀ {ls ds : List Int}, x ∉ ls → strOf ls ds x = 0
  | [], _, _ => rfl
  | _ :: _, [], _ => rfl
  | l :: ls, d :: ds, h => by
    simp only [strOf]; rw [if_neg (fun e => h (by simp [e])), strOf_none (fun hm => h (by simp [hm]))]
theorem strOf_range {ls ds : List Int} (hd : ∀ d ∈ ds, 1 ≤ d) (x : Int) : 0 ≤ strOf ls ds x ∧ strOf ls ds x ≤ prodI ds := by
  induction ls generalizing ds with
  | nil => have := prodI_one hd; simp only [strOf]; omega
  | cons l ls ih =>
    cases ds with
    | nil => simp [strOf, prodI]
    | cons d ds =>
      have h2 := hd d (by simp); have h3 := prodI_one (ds := ds) (fun x hx => hd x (by simp [hx])); have h4 := ih (ds := ds) (fun x hx => hd x (by simp [hx])); have h5 : 1 * prodI ds ≤ d * prodI ds := Int.mul_le_mul_of_nonneg_right h2 (by omega); simp only [strOf, prodI_cons]
      split <;> omega
theorem steps_next {ls ds : List Int} {m : Nat} (h0 : 1 ≤ m) (hm : m ≤ ls.length) (hl : ls.length = ds.length) (x : Int) : strOf (ls.drop (m - 1)) (ds.drop (m - 1)) x = if x = ls.getD (m - 1) 0 then prodI (ds.drop m) else strOf (ls.drop m) (ds.drop m) x := by
  rw [drop_cons (xs := ls) (i := m - 1) (by omega), drop_cons (xs := ds) (i := m - 1) (by omega), strOf, show m - 1 + 1 = m by omega]
theorem prod_next {ds : List Int} {m : Nat} (h0 : 1 ≤ m) (hm : m ≤ ds.length) : prodI (ds.drop (m - 1)) = prodI (ds.drop m) * ds.getD (m - 1) 0 := by
  rw [drop_cons (xs := ds) (i := m - 1) (by omega), prodI_cons, show m - 1 + 1 = m by omega, Int.mul_comm]
theorem steps_end {labels ls ds : List Int} {n : Nat} (h : n = ls.length) : stepsL labels (ls.drop n) (ds.drop n) = List.replicate labels.length 0 := by
  subst h; rw [List.drop_length, stepsL]; simp only [strOf]
  induction labels <;> simp_all [List.replicate_succ]
set_option maxHeartbeats 1000000 in
theorem ct_i_stridesOf (ls ds labels : List Int) (a b c v : Value) (w : World) (r1 : IntsR ls a (hp w)) (r2 : IntsR ds b (hp w)) (r : IntsR labels v (hp w)) (hl : ls.length = ds.length) (hd : ∀ d ∈ ds, 1 ≤ d ∧ d ≤ 8) (hp1 : prodI ds ≤ 1000000000000) (hs : labels.length ≤ 1048576) :
    Calls Tryz.prog 91 [tenV a b c, v].toArray w (Ret w emp (IntsO (stepsL labels ls ds))) := by
  have hd1 : ∀ d ∈ ds, 1 ≤ d := fun d h => (hd d h).1; refine calls_in Tryz.func91 rfl Tryz.ntmps91 rfl (Sat.start w) ?_; have hle0 := r1.le; have hle1 := r2.le; have hle2 := r.le; refine wp_sc (wp_sq ?_); refine sq_x rfl (x_box rfl rfl) rfl ?_; rintro _ _ ⟨b2, rfl, rfl⟩; refine sq_v rfl (v_assign rfl) rfl (sq_end (qs_n (wp_sc (wp_sq (sq_v rfl (v_move rfl) rfl (sq_v rfl (v_len Tryz.underlying27 rfl r.sl) rfl ?_)))))); refine sq_x rfl (x_makeI Tryz.underlying27 ty_3 rfl rfl (by first | omega | (simp; omega) | (simp only [List.length_append, List.length_cons, List.length_nil]; omega) | (rw [List.length_set]; omega)) (by first | omega | (simp; omega) | (simp only [List.length_append, List.length_cons, List.length_nil]; omega) | (rw [List.length_set]; omega)) (by first | omega | (simp; omega) | (simp only [List.length_append, List.length_cons, List.length_nil]; omega) | (rw [List.length_set]; omega))) rfl ?_; intro v12 h12 r12; refine sq_v rfl (v_assign rfl) rfl (sq_end (qs_n (wp_sc (wp_sq (sq_v rfl (v_assign rfl) rfl (sq_end (qs_n (wp_sc (wp_sc (wp_sq (sq_v rfl (v_fieldAddr fd_55_1 ty_27 (by decide) rfl) rfl (sq_v rfl (v_loadB 1 ty_27 rfl rfl rfl) rfl (sq_v rfl (v_len Tryz.underlying27 rfl r2.sl) rfl ?_))))))))))))); refine sq_v rfl (v_sub rfl rfl ((by unfold I64; omega))) rfl ?_; refine sq_v rfl (v_assign rfl) rfl (sq_end (qs_n (wp_bl ?_))); refine wp_lp (σ := Nat × Int × PH) (fun z_ => [(1, v), (2, .pointer (some ⟨b2, 0, none⟩)), (4, .slice none 0 0), (5, v12), (6, num z_.2.1), (7, num ((z_.1 : Int) - 1))]) (fun z_ => [z_.2.2, box b2 [a, b, c] 55, hp w]) (fun z_ => z_.1 ≤ ds.length ∧ z_.2.1 = prodI (ds.drop z_.1) ∧ IntsO (stepsL labels (ls.drop z_.1) (ds.drop z_.1)) v12 z_.2.2) (fun z_ => z_.1) (ds.length, 1, h12) (⟨by (try dsimp only); omega, by (try dsimp only); simp [prodI], by (try dsimp only); rw [steps_end (by omega)]; simpa using r12⟩) ⟨rfl, rfl, rfl, rfl, (by first | rfl | exact ksub rfl (by first | omega | (simp; done) | (simp; omega))), (by first | rfl | exact ksub rfl (by first | omega | (simp; done) | (simp; omega))), trivial⟩ (fun _ s => s) ?_; rintro ⟨m, st, g⟩ ⟨hm, hst, q⟩; dsimp only at hm hst q ⊢; have hle_q := q.toR.le; have hpd := prodI_drop hd1 m; have hpd1 := prodI_drop hd1 (m - 1); have hlA := stepsL_len labels (ls.drop (m - 1)) (ds.drop (m - 1)); have hlB := stepsL_len labels (ls.drop m) (ds.drop m); have em : ((m : Int) - 1).toNat = m - 1 := by omega
  refine wp_sc (wp_sc (wp_sq (sq_v rfl (v_move rfl) rfl (sq_v rfl (v_geq rfl rfl) rfl (sq_end (qs_n ?_)))))); refine wp_cd rfl (fun c18 => ?_) (fun c18 => ?_)
  · refine wp_sk (qs_n (wp_sc (wp_bl (wp_sc (wp_sc (wp_sq (sq_v rfl (v_move rfl) rfl (sq_v rfl (v_len Tryz.underlying27 rfl r.sl) rfl (sq_v rfl (v_move rfl) rfl (sq_end (qs_n (wp_bl ?_)))))))))))); refine wp_lp (σ := Nat × PH) (fun z_ => [(1, v), (2, .pointer (some ⟨b2, 0, none⟩)), (4, .slice none 0 0), (5, v12), (6, num st), (7, num ((m : Int) - 1)), (17, num ((m : Int) - 1)), (18, .bool (decide ((0 : Int) ≤ (m : Int) - 1))), (21, v), (22, num labels.length), (23, num z_.1)]) (fun z_ => [z_.2, box b2 [a, b, c] 55, hp w]) (fun z_ => z_.1 ≤ labels.length ∧ IntsO (mixL (stepsL labels (ls.drop (m - 1)) (ds.drop (m - 1))) (stepsL labels (ls.drop m) (ds.drop m)) z_.1) v12 z_.2) (fun z_ => labels.length - z_.1) (0, g) (⟨by (try dsimp only); omega, by (try dsimp only); rw [mix_zero]; exact q⟩) ⟨rfl, rfl, rfl, rfl, rfl, rfl, rfl, rfl, rfl, rfl, (by first | rfl | exact ksub rfl (by first | omega | (simp; done) | (simp; omega))), trivial⟩ (fun _ s => s) ?_; rintro ⟨j, g⟩ ⟨hj, q⟩; dsimp only at hj q ⊢; have hle_q := q.toR.le; have hml := mix_len (A := stepsL labels (ls.drop (m - 1)) (ds.drop (m - 1))) (B := stepsL labels (ls.drop m) (ds.drop m)) (k := j) (by omega) (by omega); refine wp_sc (wp_sq (sq_v rfl (v_lss rfl rfl) rfl (sq_end (qs_n (wp_sc ?_))))); refine wp_cd rfl (fun c24 => ?_) (fun c24 => ?_)
    · refine wp_sk (qs_n (wp_sc (wp_bl (wp_sc (wp_sq (sq_v rfl (v_move rfl) rfl ?_)))))); refine sq_v rfl (v_idxI Tryz.underlying27 ty_3 rfl rfl r (by first | omega | (simp; omega) | (simp only [List.length_append, List.length_cons, List.length_nil]; omega) | (rw [List.length_set]; omega)) (by first | omega | (simp; omega) | (simp only [List.length_append, List.length_cons, List.length_nil]; omega) | (rw [List.length_set]; omega))) rfl ?_; refine sq_v rfl (v_loadI (k := j) 2 ty_3 rfl rfl r (by first | omega | (simp; omega) | (simp only [List.length_append, List.length_cons, List.length_nil]; omega) | (rw [List.length_set]; omega))) rfl ?_; refine sq_v rfl (v_assign rfl) rfl (sq_v rfl (v_assign rfl) rfl (sq_end ?_)); have hsj := stepsL_get (labels := labels) (ls := ls.drop (m - 1)) (ds := ds.drop (m - 1)) (k := j) (by omega); have hsj' := stepsL_get (labels := labels) (ls := ls.drop m) (ds := ds.drop m) (k := j) (by omega); rw [steps_next (by omega) (by omega) hl] at hsj; refine qs_n (wp_sc (wp_sq (sq_v rfl (v_move rfl) rfl (sq_v rfl (v_fieldAddr fd_55_0 ty_27 (by decide) rfl) rfl (sq_v rfl (v_loadB 1 ty_27 rfl rfl rfl) rfl (sq_v rfl (v_move rfl) rfl ?_)))))); refine sq_v rfl (v_idxI Tryz.underlying27 ty_3 rfl rfl r1 (by first | omega | (simp; omega) | (simp only [List.length_append, List.length_cons, List.length_nil]; omega) | (rw [List.length_set]; omega)) (by first | omega | (simp; omega) | (simp only [List.length_append, List.length_cons, List.length_nil]; omega) | (rw [List.length_set]; omega))) rfl ?_; refine sq_v rfl (v_loadI  2 ty_3 rfl rfl r1 (by first | omega | (simp; omega) | (simp only [List.length_append, List.length_cons, List.length_nil]; omega) | (rw [List.length_set]; omega))) rfl ?_; refine sq_v rfl (v_eql rfl rfl) rfl (sq_end (qs_n ?_)); refine wp_cd rfl (fun c34 => ?_) (fun c34 => ?_)
      · refine wp_sq (sq_v rfl (v_move rfl) rfl (sq_v rfl (v_move rfl) rfl (sq_v rfl (v_move rfl) rfl ?_))); refine sq_v rfl (v_idxI Tryz.underlying27 ty_3 rfl rfl q.toR (by first | omega | (simp; omega) | (simp only [List.length_append, List.length_cons, List.length_nil]; omega) | (rw [List.length_set]; omega)) (by first | omega | (simp; omega) | (simp only [List.length_append, List.length_cons, List.length_nil]; omega) | (rw [List.length_set]; omega))) rfl ?_; refine sq_m 0 rfl rfl (m_storeI (k := j) 0 ty_3 rfl rfl rfl q (by first | omega | (simp; omega) | (simp only [List.length_append, List.length_cons, List.length_nil]; omega) | (rw [List.length_set]; omega))) rfl ?_; rintro _ h_q10_4 ⟨rfl, q10_4⟩; refine sq_end (qs_bn (qs_n (wp_sq ?_))); refine sq_v rfl (v_add rfl rfl ((by unfold I64; omega))) rfl ?_; refine sq_v rfl (v_move rfl) rfl (sq_end ?_); exact qs_bk (j + 1, h_q10_4) ⟨by (try dsimp only); omega, by (try dsimp only); rw [em] at c34; rw [if_pos c34, ← hst] at hsj; rw [← mix_set (by omega) (by omega), hsj]; exact q10_4⟩ (by simp only; omega) ⟨rfl, rfl, rfl, rfl, rfl, rfl, rfl, rfl, rfl, rfl, (by first | rfl | exact ksub rfl (by first | omega | (simp; done) | (simp; omega))), trivial⟩ (fun _ s => s)
      · refine wp_sk (qs_bn (qs_n (wp_sq ?_))); refine sq_v rfl (v_add rfl rfl ((by unfold I64; omega))) rfl ?_; refine sq_v rfl (v_move rfl) rfl (sq_end ?_); exact qs_bk (j + 1, g) ⟨by (try dsimp only); omega, by (try dsimp only); rw [em] at c34; rw [if_neg c34, ← hsj'] at hsj; rw [mix_keep (by omega) (by omega) hsj]; exact q⟩ (by simp only; omega) ⟨rfl, rfl, rfl, rfl, rfl, rfl, rfl, rfl, rfl, rfl, (by first | rfl | exact ksub rfl (by first | omega | (simp; done) | (simp; omega))), trivial⟩ (fun _ s => s)
    · refine wp_ex (qs_x (qs_x (qs_bx (qs_n (wp_sq (sq_v rfl (v_move rfl) rfl (sq_v rfl (v_fieldAddr fd_55_1 ty_27 (by decide) rfl) rfl (sq_v rfl (v_loadB 1 ty_27 rfl rfl rfl) rfl (sq_v rfl (v_move rfl) rfl ?_))))))))); refine sq_v rfl (v_idxI Tryz.underlying27 ty_3 rfl rfl r2 (by first | omega | (simp; omega) | (simp only [List.length_append, List.length_cons, List.length_nil]; omega) | (rw [List.length_set]; omega)) (by first | omega | (simp; omega) | (simp only [List.length_append, List.length_cons, List.length_nil]; omega) | (rw [List.length_set]; omega))) rfl ?_; refine sq_v rfl (v_loadI  2 ty_3 rfl rfl r2 (by first | omega | (simp; omega) | (simp only [List.length_append, List.length_cons, List.length_nil]; omega) | (rw [List.length_set]; omega))) rfl ?_; have hpn := prod_next (ds := ds) (m := m) (by omega) hm; refine sq_v rfl (v_mul rfl rfl ((by rw [em, hst, ← hpn]; unfold I64; omega))) rfl ?_; refine sq_v rfl (v_assign rfl) rfl (sq_end (qs_bn (qs_n (wp_sq (sq_v rfl (v_move rfl) rfl ?_))))); refine sq_v rfl (v_sub rfl rfl ((by unfold I64; omega))) rfl ?_; refine sq_v rfl (v_assign rfl) rfl (sq_end ?_); exact qs_bk (m - 1, st * ds.getD ((m : Int) - 1).toNat 0, g) ⟨by (try dsimp only); omega, by (try dsimp only); rw [em, hst, ← hpn], by (try dsimp only); rw [mix_end (by omega) (by omega)] at q; exact q⟩ (by simp only; omega) ⟨rfl, rfl, rfl, rfl, (by first | rfl | exact ksub rfl (by first | omega | (simp; done) | (simp; omega))), (by first | rfl | exact ksub rfl (by first | omega | (simp; done) | (simp; omega))), trivial⟩ (fun _ s => s)
  · refine wp_ex (qs_x (qs_x (qs_bx (qs_n (wp_sc (wp_sq (sq_v rfl (v_move rfl) rfl (sq_v rfl (v_assign rfl) rfl (sq_end (qs_n (wp_rt ?_))))))))))); exact qs_ret1 rfl rfl (fin_t 0 (i := 2) rfl rfl rfl (by rw [show m = 0 by omega] at q; exact q))
def dotTo (xs ys : List Int) : Nat → Int
  | 0 => 0
  | m + 1 => dotTo xs ys m + xs.getD m 0 * ys.getD m 0
def dotL (xs ys : List Int) : Int := dotTo xs ys xs.length
theorem dotTo_in {xs ys : List Int} {A B : Int} (ha : ∀ a ∈ xs, 0 ≤ a ∧ a ≤ A) (hb : ∀ b ∈ ys, 0 ≤ b ∧ b ≤ B) : ∀ m, m ≤ xs.length → m ≤ ys.length → 0 ≤ dotTo xs ys m ∧ dotTo xs ys m ≤ m * (A * B)
  | 0, _, _ => by simp [dotTo]
  | m + 1, h1, h2 => by
    have ih := dotTo_in ha hb m (by omega) (by omega); have hm := mul_in (ha _ (mem_getD (show m < xs.length by omega))) (hb _ (mem_getD (show m < ys.length by omega))); simp only [dotTo]; have e : ((m + 1 : Nat) : Int) * (A * B) = m * (A * B) + A * B := by rw [Int.natCast_add, Int.add_mul]; simp
    rw [e]
    omega
theorem dotTo_set {xs ys : List Int} {k : Nat} (hk : k < xs.length) (a : Int) : ∀ m, dotTo (xs.set k a) ys m = dotTo xs ys m + (if k < m then (a - xs.getD k 0) * ys.getD k 0 else 0)
  | 0 => by simp [dotTo]
  | m + 1 => by
    have ih := dotTo_set (ys := ys) hk a m; simp only [dotTo, ih]
    by_cases e : m = k
    · subst e; have : (xs.set m a).getD m 0 = a := by simp [List.getD, hk]
      rw [this, if_neg (by omega), if_pos (by omega), Int.sub_mul]
      omega
    · have : (xs.set k a).getD m 0 = xs.getD m 0 := by simp only [List.getD]; rw [List.getElem?_set_ne (by omega)]
      rw [this]
      by_cases h : k < m
      · rw [if_pos h, if_pos (by omega)]; omega
      · rw [if_neg h, if_neg (by omega)]; omega
theorem dotTo_zero {ys : List Int} {n : Nat} : ∀ m, dotTo (List.replicate n 0) ys m = 0
  | 0 => rfl
  | m + 1 => by rw [dotTo, dotTo_zero, rep_getD]; omega
theorem ct_i_dotOf (xs ys : List Int) (v u : Value) (w : World) (r : IntsR xs v (hp w)) (r' : IntsR ys u (hp w)) (ha : ∀ a ∈ xs, 0 ≤ a ∧ a ≤ 1048576) (hb : ∀ b ∈ ys, 0 ≤ b ∧ b ≤ 1048576) (hl : xs.length ≤ ys.length) (hs : xs.length ≤ 100000) :
    Calls Tryz.prog 90 [v, u].toArray w (RetV w (num (dotL xs ys))) := by
  refine calls_in Tryz.func90 rfl Tryz.ntmps90 rfl (Sat.start w) ?_; have hle0 := r.le; have hle1 := r'.le; refine wp_sc (wp_sq (sq_v rfl (v_assign rfl) rfl (sq_end (qs_n (wp_sc (wp_sq (sq_v rfl (v_assign rfl) rfl (sq_end (qs_n (wp_sc (wp_sc (wp_sq (sq_v rfl (v_move rfl) rfl (sq_v rfl (v_len Tryz.underlying27 rfl r.sl) rfl (sq_v rfl (v_move rfl) rfl (sq_end (qs_n (wp_bl ?_)))))))))))))))))); refine wp_lp (σ := Nat) (fun z_ => [(0, v), (1, u), (4, num 0), (5, num (dotTo xs ys z_)), (8, num xs.length), (9, num z_)]) (fun z_ => [hp w]) (fun z_ => z_ ≤ xs.length) (fun z_ => xs.length - z_) 0 (by omega) ⟨rfl, rfl, rfl, (by first | rfl | exact ksub rfl (by first | omega | (simp; done) | (simp; omega))), rfl, (by first | rfl | exact ksub rfl (by first | omega | (simp; done) | (simp; omega))), trivial⟩ (fun _ s => s) ?_; rintro i hi; have hdi := dotTo_in ha hb i hi (by omega); refine wp_sc (wp_sq (sq_v rfl (v_lss rfl rfl) rfl (sq_end (qs_n (wp_sc ?_))))); refine wp_cd rfl (fun c10 => ?_) (fun c10 => ?_)
  · refine wp_sk (qs_n (wp_sc (wp_bl (wp_sc (wp_sq (sq_v rfl (v_move rfl) rfl (sq_v rfl (v_assign rfl) rfl (sq_end (qs_n (wp_rj 12 [(0, true), (1, true), (2, true), (3, true), (4, true), (5, true), (6, true), (7, true), (8, true), (9, true), (10, true), (11, true)] mixed_ok (by kernel_rfl) (rj_v rfl rfl (v_move rfl) rfl (rj_v rfl rfl (v_move rfl) rfl (rj_v rfl rfl (v_move rfl) rfl ?_))))))))))))); refine rj_v rfl rfl (v_idxI Tryz.underlying27 ty_3 rfl rfl r (by first | omega | (simp; omega) | (simp only [List.length_append, List.length_cons, List.length_nil]; omega) | (rw [List.length_set]; omega)) (by first | omega | (simp; omega) | (simp only [List.length_append, List.length_cons, List.length_nil]; omega) | (rw [List.length_set]; omega))) rfl ?_; refine rj_v rfl rfl (v_loadI (k := i) 0 ty_3 rfl rfl r (by first | omega | (simp; omega) | (simp only [List.length_append, List.length_cons, List.length_nil]; omega) | (rw [List.length_set]; omega))) rfl ?_; refine rj_v rfl rfl (v_move rfl) rfl (rj_v rfl rfl (v_move rfl) rfl ?_); refine rj_v rfl rfl (v_idxI Tryz.underlying27 ty_3 rfl rfl r' (by first | omega | (simp; omega) | (simp only [List.length_append, List.length_cons, List.length_nil]; omega) | (rw [List.length_set]; omega)) (by first | omega | (simp; omega) | (simp only [List.length_append, List.length_cons, List.length_nil]; omega) | (rw [List.length_set]; omega))) rfl ?_; refine rj_v rfl rfl (v_loadI (k := i) 0 ty_3 rfl rfl r' (by first | omega | (simp; omega) | (simp only [List.length_append, List.length_cons, List.length_nil]; omega) | (rw [List.length_set]; omega))) rfl ?_; have hm := mul_in6 (ha _ (mem_getD (show i < xs.length by omega))) (hb _ (mem_getD (show i < ys.length by omega))) (by omega) (by omega); refine rj_v rfl rfl (v_mul rfl rfl ((by unfold I64; omega))) rfl ?_; refine rj_v rfl rfl (v_add rfl rfl ((by unfold I64; omega))) rfl ?_; refine rj_v rfl rfl (v_assign rfl) rfl (rj_end (qs_bn (qs_n (wp_sq ?_)))); refine sq_v rfl (v_add rfl rfl ((by unfold I64; omega))) rfl ?_; refine sq_v rfl (v_move rfl) rfl (sq_end ?_); exact qs_bk (i + 1) (by omega) (by omega) ⟨rfl, rfl, rfl, (by first | rfl | exact ksub rfl (by first | omega | (simp; done) | (simp; omega))), rfl, (by first | rfl | exact ksub rfl (by first | omega | (simp; done) | (simp; omega))), trivial⟩ (fun _ s => s)
  · refine wp_ex (qs_x (qs_x (qs_bx (qs_n (wp_sc (wp_sq (sq_v rfl (v_move rfl) rfl (sq_v rfl (v_assign rfl) rfl (sq_end (qs_n (wp_rt ?_))))))))))); exact qs_ret1 rfl rfl (fin_q (i := 0) rfl (by rw [dotL, show xs.length = i by omega]))
def offL : List Int → List Int → Int
  | _ :: ds, i :: is => i * prodI ds + offL ds is
  | _, _ => 0
def hornTo (ds is : List Int) : Nat → Int
  | 0 => 0
  | m + 1 => hornTo ds is m * ds.getD m 0 + is.getD m 0
theorem horn_off : ∀ (ds is : List Int), ds.length = is.length → ∀ m, m ≤ ds.length → offL ds is = hornTo ds is m * prodI (ds.drop m) + offL (ds.drop m) (is.drop m) := by
  intro ds is hl m
  induction m with
  | zero => intro _; simp [hornTo]
  | succ m ih =>
    intro hm; rw [ih (by omega), drop_cons (xs := ds) (i := m) (by omega), drop_cons (xs := is) (i := m) (by omega), prodI_cons, offL, hornTo, Int.add_mul, Int.mul_assoc]
    omega
theorem offL_end {ds is : List Int} (hl : ds.length = is.length) : offL ds is = hornTo ds is ds.length := by
  rw [horn_off ds is hl ds.length (Nat.le_refl _), List.drop_length]
  simp [prodI, offL]
def idxIn (ds is : List Int) : Prop := is.length = ds.length ∧ ∀ j, j < ds.length → 0 ≤ is.getD j 0 ∧ is.getD j 0 < ds.getD j 0
theorem offL_in : ∀ {ds is : List Int}, (∀ d ∈ ds, 1 ≤ d) → idxIn ds is → 0 ≤ offL ds is ∧ offL ds is ≤ prodI ds - 1
  | [], [], _, _ => by simp [offL, prodI]
  | [], i :: is, _, h => by have := h.1; simp at this
  | d :: ds, [], _, h => by have := h.1; simp at this
  | d :: ds, i :: is, hd, h => by
    have h0 := h.2 0 (by simp); have ih := offL_in (ds := ds) (is := is) (fun x hx => hd x (by simp [hx])) ⟨by have := h.1; simpa using this, fun j hj => by have := h.2 (j + 1) (by simpa using hj); simpa [List.getD] using this⟩; have hp1 := prodI_one (ds := ds) (fun x hx => hd x (by simp [hx])); simp only [List.getD, List.getElem?_cons_zero, Option.getD_some] at h0; have e1 : i * prodI ds ≤ (d - 1) * prodI ds := Int.mul_le_mul_of_nonneg_right (by omega) (by omega); have e2 : 0 ≤ i * prodI ds := Int.mul_nonneg h0.1 (by omega); rw [Int.sub_mul, Int.one_mul] at e1; simp only [offL, prodI_cons]
    omega
def idxAt (labels values ls : List Int) : List Int := ls.map fun x => values.getD (findI labels x).toNat 0
theorem find_at' {labels : List Int} (hn : labels.Nodup) {k : Nat} (hk : k < labels.length) : findI labels (labels.getD k 0) = k := by
  refine idx_first (fun j hj e => ?_) hk rfl; have h1 : j < labels.length := by omega
  simp only [List.getD, List.getElem?_eq_getElem h1, List.getElem?_eq_getElem hk, Option.getD_some] at e; have := (List.getElem_inj hn).1 e
  omega
theorem steps_cons {labels ls ds : List Int} {l d : Int} (hn : labels.Nodup) (hl : l ∈ labels) : stepsL labels (l :: ls) (d :: ds) = (stepsL labels ls ds).set (findI labels l).toNat (prodI ds) := by
  have hf := findI_get hl
  apply ext_getD
  · simp [stepsL_len]
  · intro j hj; rw [stepsL_len] at hj; rw [stepsL_get hj, strOf]
    by_cases e : j = (findI labels l).toNat
    · subst e; rw [if_pos hf.2]
      simp [List.getD, stepsL_len, hf.1]
    · have hne : labels.getD j 0 ≠ l := fun e' => e (by rw [← e', find_at' hn hj]; simp); rw [if_neg hne, ← stepsL_get hj]; simp only [List.getD]; rw [List.getElem?_set_ne (Ne.symm e)]
theorem dot_off {labels values : List Int} (hn : labels.Nodup) : ∀ {ls ds : List Int}, ls.length = ds.length → ls.Nodup → (∀ l ∈ ls, l ∈ labels) → dotTo (stepsL labels ls ds) values labels.length = offL ds (idxAt labels values ls)
  | [], ds, _, _, _ => by
    have e : stepsL labels [] ds = List.replicate labels.length 0 := by
      have := steps_end (labels := labels) (ls := []) (ds := ds) (n := 0) rfl
      simpa using this
    rw [e, dotTo_zero]
    cases ds <;> rfl
  | l :: ls, [], h, _, _ => by simp at h
  | l :: ls, d :: ds, h, hd, hm => by
    have hl := hm l (by simp); have hx : l ∉ ls := (List.nodup_cons.1 hd).1; have hf := findI_get hl; have ih := dot_off (values := values) hn (ls := ls) (ds := ds) (by simpa using h) (List.nodup_cons.1 hd).2 (fun x hx => hm x (by simp [hx])); rw [steps_cons hn hl, dotTo_set (by rw [stepsL_len]; exact hf.1), if_pos hf.1, ih, stepsL_get hf.1, hf.2, strOf_none hx]; simp only [idxAt, List.map_cons, offL, Int.sub_zero]; rw [Int.mul_comm (prodI ds)]
    omega
end Go.Proofs.YtiefkcaplhnnmaaGreat
namespace Go.Proofs.YtiefkcaplhnnmaaGreat
set_option maxRecDepth 100000
open Go.RowKit

/-- The labels below m that occur. -/
def labelsTo (ts : List Ten) (m : Nat) : List Int := ((List.range m).map fun (i : Nat) => (i : Int)).filter fun x => decide (0 < dimOf ts x)
def labelsL (ts : List Ten) : List Int := labelsTo ts 100
theorem labels_yes {ts : List Ten} {m : Nat} (h : 0 < dimOf ts m) : labelsTo ts (m + 1) = labelsTo ts m ++ [(m : Int)] := by simp [labelsTo, List.range_succ, h]
theorem labels_no {ts : List Ten} {m : Nat} (h : ¬ 0 < dimOf ts m) : labelsTo ts (m + 1) = labelsTo ts m := by simp [labelsTo, List.range_succ, h]
theorem labels_len (ts : List Ten) (m : Nat) : (labelsTo ts m).length ≤ m := by
  have := List.length_filter_le (fun x => decide (0 < dimOf ts x)) ((List.range m).map fun (i : Nat) => (i : Int))
  simpa [labelsTo] using this
theorem mem_labels {ts : List Ten} {m : Nat} {x : Int} : x ∈ labelsTo ts m ↔ (0 ≤ x ∧ x < m) ∧ 0 < dimOf ts x := by
  simp only [labelsTo, List.mem_filter, List.mem_map, List.mem_range, decide_eq_true_eq]
  constructor
  · rintro ⟨⟨i, hi, rfl⟩, h⟩; exact ⟨by omega, h⟩
  · rintro ⟨h1, h2⟩; exact ⟨⟨x.toNat, by omega, by omega⟩, h2⟩
theorem ct_s_l12Labels (ts : List Ten) (v : Value) (w : World) (r : TensR ts v (hp w)) (hok : ∀ t ∈ ts, AxOK t) : Calls Tryz.prog 76 [v].toArray w (Ret w emp (IntsO (labelsL ts))) := by
  refine calls_in Tryz.func76 rfl Tryz.ntmps76 rfl (Sat.start w) (wp_sc (wp_sq (sq_v rfl (v_assign rfl) rfl (sq_end (qs_n (wp_sc (wp_sq ?_))))))); refine sq_x rfl (x_build0 Tryz.underlying27 ty_3) rfl ?_; intro v5 h5 (r5 : IntsO [] v5 h5); refine sq_v rfl (v_assign rfl) rfl (sq_end (qs_n (wp_sc (wp_sc (wp_sq (sq_v rfl (v_assign rfl) rfl (sq_end (qs_n (wp_bl (wp_lp (fun s : Nat × Value × PH => [(0, v), (3, s.2.1), (4, num s.1)]) (fun s => [s.2.2, hp w]) (fun s => s.1 ≤ 100 ∧ IntsO (labelsTo ts s.1) s.2.1 s.2.2) (fun s => 100 - s.1) (0, v5, h5) ⟨by omega, r5⟩ ⟨rfl, rfl, rfl, trivial⟩ (fun _ s => s) ?_)))))))))); rintro ⟨i, vo, ho⟩ ⟨hi, ro⟩; dsimp only at hi ro ⊢; have hll := labels_len ts i; refine wp_sc (wp_sc (wp_sq (sq_v rfl (v_move rfl) rfl (sq_v rfl (v_leq rfl rfl) rfl (sq_end (qs_n ?_)))))); refine wp_cd rfl (fun c7 => ?_) (fun c7 => ?_)
  · refine wp_sk (qs_n (wp_sc (wp_bl (wp_sc (wp_sq (sq_v rfl (v_move rfl) rfl (sq_v rfl (v_move rfl) rfl (sq_u rfl (x_callv rfl en_114 (fun w s => ct_s_l12Dim _ _ _ w (r.mono (s.get 1 rfl)) hok)) rfl (sq_v rfl (v_gtr rfl rfl) rfl (sq_end (qs_n ?_))))))))))); refine wp_cd rfl (fun c13 => ?_) (fun c13 => ?_)
    · refine wp_sq (sq_v rfl (v_move rfl) rfl (sq_v rfl (v_move rfl) rfl ?_)); refine sq_x rfl (x_buildS [num ((i : Int))] Tryz.underlying27 ty_3 (by decide) rfl rfl rfl (by decide) (by decide) (by intro v hv; simp at hv; rcases hv with rfl <;> rfl)) rfl ?_; intro v16 h16 (r16 : IntsO [(i : Int)] v16 h16); refine sq_m 1 rfl rfl (m_appI 1 0 Tryz.underlying27 ty_3 rfl rfl rfl rfl ro rfl r16.toR (by simp only [List.length_cons, List.length_nil]; omega)) rfl ?_; intro v17 h_r17 r17; refine sq_v rfl (v_assign rfl) rfl (sq_end (qs_bn (qs_n (wp_sq (sq_v rfl (v_move rfl) rfl ?_))))); refine sq_v rfl (v_add rfl rfl ((by unfold I64; omega))) rfl ?_; refine sq_v rfl (v_assign rfl) rfl (sq_end ?_); exact qs_bk (i + 1, v17, h_r17) ⟨by simp only; omega, by simp only; rw [labels_yes c13]; exact r17⟩ (by simp only; omega) ⟨rfl, rfl, rfl, trivial⟩ (fun _ s => s.pick [1, 2] (by decide) rfl)
    · refine wp_sk (qs_bn (qs_n (wp_sq (sq_v rfl (v_move rfl) rfl ?_)))); refine sq_v rfl (v_add rfl rfl ((by unfold I64; omega))) rfl ?_; refine sq_v rfl (v_assign rfl) rfl (sq_end ?_); exact qs_bk (i + 1, vo, ho) ⟨by simp only; omega, by simp only; rw [labels_no c13]; exact ro⟩ (by simp only; omega) ⟨rfl, rfl, rfl, trivial⟩ (fun _ s => s)
  · refine wp_ex (qs_x (qs_x (qs_bx (qs_n (wp_sc (wp_sq (sq_v rfl (v_move rfl) rfl (sq_v rfl (v_assign rfl) rfl (sq_end (qs_n (wp_rt ?_))))))))))); have e : i = 100 := by omega
    subst e; exact qs_ret1 rfl rfl (fin_t 0 (i := 1) rfl rfl rfl ro)
open Classical in
noncomputable def labelsOf (k p n : Int) (ts : List Ten) (op : List Int) : List Int := if netL k p n ts op then labelsL ts else []
theorem net_ax {k p n : Int} {ts : List Ten} {op : List Int} (h : netL k p n ts op) : ∀ t ∈ ts, AxOK t := fun t ht => axes_ok (tensor_axes (h.2.2.1 t ht))
theorem netB_true {k p n : Int} {ts : List Ten} {op : List Int} : netB k p n ts op = true ↔ netL k p n ts op := by simp [netB]
theorem netB_false {k p n : Int} {ts : List Ten} {op : List Int} : netB k p n ts op = false ↔ ¬ netL k p n ts op := by simp [netB]
theorem ct_s_LabelsOf (k p n : Int) (ts : List Ten) (op : List Int) (vt vo : Value) (w : World) (r : TensR ts vt (hp w)) (r' : IntsR op vo (hp w)) (hs : op.length ≤ 1048576) :
    Calls Tryz.prog 84 [netV k p n vt vo].toArray w (Ret w emp (IntsO (labelsOf k p n ts op))) := by
  refine calls_in Tryz.func84 rfl Tryz.ntmps84 rfl (Sat.start w) (wp_sc (wp_sq ?_)); refine sq_x rfl (x_box rfl rfl) rfl ?_; rintro _ _ ⟨b1, rfl, rfl⟩; refine sq_v rfl (v_assign rfl) rfl (sq_end (qs_n (wp_sc (wp_sc (wp_sq (sq_v rfl (v_loadNB 0 ty_29 rfl rfl rfl rfl) rfl (sq_u rfl (x_callv rfl en_97 (fun w s => ct_s_NetworkOk _ _ _ _ _ _ _ w (r.mono (s.get 1 rfl)) (r'.mono (s.get 1 rfl)) hs)) rfl (sq_v rfl (v_not rfl) rfl (sq_end (qs_n ?_)))))))))); refine wp_cn _ rfl (fun c5 => ?_) (fun c5 => ?_)
  · refine wp_sc (wp_sq (sq_v rfl (v_assign rfl) rfl (sq_end (qs_n (wp_rt (qs_r ?_)))))); exact qs_ret1 rfl rfl (fin_e (i := 1) rfl (by rw [labelsOf, if_neg (netB_false.1 c5)]; exact IntsO.nil))
  · refine wp_sk (qs_n (wp_sc (wp_sq (sq_v rfl (v_fieldAddr fd_29_1 ty_26 (by decide) rfl) rfl (sq_v rfl (v_loadB 0 ty_26 rfl rfl rfl) rfl ?_))))); have hnet := netB_true.1 c5; refine sq_x rfl (x_call rfl en_76 (fun w s => ct_s_l12Labels _ _ w (r.mono (s.get 1 rfl)) (net_ax hnet))) rfl ?_; rintro v8 h8 r8; refine sq_v rfl (v_assign rfl) rfl (sq_end (qs_n (wp_rt ?_))); exact qs_ret1 rfl rfl (fin_t 0 (i := 2) rfl rfl rfl (by rw [labelsOf, if_pos hnet]; exact r8))
theorem ct_i_occurring (ts : List Ten) (arr : List Int) (w : World) (ha : arrInv ts arr) (hok : ∀ t ∈ ts, AxOK t) : Calls Tryz.prog 58 [.agg (ints arr).toArray].toArray w (Ret w emp (IntsO (labelsL ts))) := by
  have hal := ha.1; refine calls_in Tryz.func58 rfl Tryz.ntmps58 rfl (Sat.start w) (wp_sc (wp_sq ?_)); refine sq_x rfl (x_box rfl rfl) rfl ?_; rintro _ _ ⟨b1, rfl, rfl⟩; refine sq_v rfl (v_assign rfl) rfl (sq_end (qs_n (wp_sc (wp_sq (sq_v rfl (v_assign rfl) rfl (sq_end (qs_n (wp_sc (wp_sc (wp_sq ?_)))))))))); refine sq_v rfl (v_loadNB 0 ty_69 rfl rfl (by rw [ints_length]; exact hal) (by rw [List.drop_zero, List.take_of_length_le]; rw [ints_length, hal]; omega)) rfl ?_; refine sq_v rfl (v_move rfl) rfl (sq_end (qs_n (wp_bl (wp_lp (fun s : Nat × Value × PH => [(3, s.2.1), (6, .agg (ints arr).toArray), (7, num s.1)]) (fun s => [s.2.2, hp w]) (fun s => s.1 ≤ 100 ∧ IntsO (labelsTo ts s.1) s.2.1 s.2.2) (fun s => 100 - s.1) (0, .slice none 0 0, emp) ⟨by omega, IntsO.nil⟩ ⟨rfl, rfl, rfl, trivial⟩ (fun _ s => (emp_sat s).pick [0, 2] (by decide) rfl) ?_)))); rintro ⟨i, vo, ho⟩ ⟨hi, ro⟩; dsimp only at hi ro ⊢; have hll := labels_len ts i; have hdr := dimOf_range hok (i : Int); refine wp_sc (wp_sq (sq_v rfl (v_lss rfl rfl) rfl (sq_end (qs_n (wp_sc ?_))))); refine wp_cd rfl (fun c8 => ?_) (fun c8 => ?_)
  · refine wp_sk (qs_n (wp_sc (wp_bl (wp_sc (wp_sq (sq_v rfl (v_move rfl) rfl ?_)))))); have hav := ha.2 (i : Int) (by omega) (by omega); refine sq_v rfl (v_indexA Tryz.underlying69 ty_3 rfl rfl (by omega) (by omega) (aget (k := i) (by omega) (by simp))) rfl (sq_v rfl (v_assign rfl) rfl (sq_v rfl (v_assign rfl) rfl (sq_end (qs_n (wp_sc (wp_sq (sq_v rfl (v_move rfl) rfl (sq_v rfl (v_neq rfl rfl) rfl (sq_end (qs_n ?_)))))))))); refine wp_cd rfl (fun c12 => ?_) (fun c12 => ?_)
    · refine wp_sq (sq_v rfl (v_move rfl) rfl (sq_v rfl (v_move rfl) rfl ?_)); refine sq_x rfl (x_buildS [num ((i : Int))] Tryz.underlying27 ty_3 (by decide) rfl rfl rfl (by decide) (by decide) (by intro v hv; simp at hv; rcases hv with rfl <;> rfl)) rfl ?_; intro v15 h15 (r15 : IntsO [(i : Int)] v15 h15); refine sq_m 1 rfl rfl (m_appI 1 0 Tryz.underlying27 ty_3 rfl rfl rfl rfl ro rfl r15.toR (by simp only [List.length_cons, List.length_nil]; omega)) rfl ?_; intro v16 h_r16 r16; refine sq_v rfl (v_assign rfl) rfl (sq_end (qs_bn (qs_n (wp_sq ?_)))); refine sq_v rfl (v_add rfl rfl ((by unfold I64; omega))) rfl ?_; refine sq_v rfl (v_move rfl) rfl (sq_end ?_); exact qs_bk (i + 1, v16, h_r16) ⟨by simp only; omega, by simp only; rw [labels_yes (by rw [← hav]; simp only [Int.toNat_natCast]; rw [← hav] at hdr; simp only [Int.toNat_natCast] at hdr; omega)]; exact r16⟩ (by simp only; omega) ⟨rfl, rfl, rfl, trivial⟩ (fun _ s => s.pick [1, 2] (by decide) rfl)
    · refine wp_sk (qs_bn (qs_n (wp_sq ?_))); refine sq_v rfl (v_add rfl rfl ((by unfold I64; omega))) rfl ?_; refine sq_v rfl (v_move rfl) rfl (sq_end ?_); exact qs_bk (i + 1, vo, ho) ⟨by simp only; omega, by simp only; rw [labels_no (by rw [← hav]; simp only [Int.toNat_natCast]; omega)]; exact ro⟩ (by simp only; omega) ⟨rfl, rfl, rfl, trivial⟩ (fun _ s => s)
  · refine wp_ex (qs_x (qs_x (qs_bx (qs_n (wp_sc (wp_sq (sq_v rfl (v_move rfl) rfl (sq_v rfl (v_assign rfl) rfl (sq_end (qs_n (wp_rt ?_))))))))))); have e : i = 100 := by omega
    subst e; exact qs_ret1 rfl rfl (fin_t 0 (i := 1) rfl rfl rfl ro)
theorem net_axes {k p n : Int} {ts : List Ten} {op : List Int} (h : netL k p n ts op) : ∀ t ∈ ts, axesL t.l t.d := fun t ht => tensor_axes (h.2.2.1 t ht)
theorem ct_i_LabelsOf (k p n : Int) (ts : List Ten) (op : List Int) (vt vo : Value) (w : World) (r : TensR ts vt (hp w)) (r' : IntsR op vo (hp w)) (hs : op.length ≤ 1048576) :
    Calls Tryz.prog 23 [netV k p n vt vo].toArray w (Ret w emp (IntsO (labelsOf k p n ts op))) := by
  refine calls_in Tryz.func23 rfl Tryz.ntmps23 rfl (Sat.start w) (wp_sc (wp_sq ?_)); refine sq_x rfl (x_box rfl rfl) rfl ?_; rintro _ _ ⟨b1, rfl, rfl⟩; refine sq_v rfl (v_assign rfl) rfl (sq_end (qs_n (wp_sc (wp_sc (wp_sq (sq_v rfl (v_loadNB 0 ty_29 rfl rfl rfl rfl) rfl (sq_u rfl (x_callv rfl en_14 (fun w s => ct_i_NetworkOk _ _ _ _ _ _ _ w (r.mono (s.get 1 rfl)) (r'.mono (s.get 1 rfl)) hs)) rfl (sq_v rfl (v_not rfl) rfl (sq_end (qs_n ?_)))))))))); refine wp_cn _ rfl (fun c7 => ?_) (fun c7 => ?_)
  · refine wp_sc (wp_sq (sq_v rfl (v_assign rfl) rfl (sq_end (qs_n (wp_rt (qs_r ?_)))))); exact qs_ret1 rfl rfl (fin_e (i := 1) rfl (by rw [labelsOf, if_neg (netB_false.1 c7)]; exact IntsO.nil))
  · refine wp_sk (qs_n (wp_sc (wp_sq (sq_v rfl (v_fieldAddr fd_29_1 ty_26 (by decide) rfl) rfl (sq_v rfl (v_loadB 0 ty_26 rfl rfl rfl) rfl ?_))))); have hnet := netB_true.1 c7; refine sq_x rfl (x_call rfl en_43 (fun w s => ct_i_dimsOf _ _ w (r.mono (s.get 1 rfl)) (net_axes hnet))) rfl ?_; rintro _ h11 ⟨arr, ok, rfl, hal, hok, hav⟩; refine sq_v rfl (v_move rfl) rfl (sq_v rfl (v_extract rfl rfl) rfl (sq_v rfl (v_extract rfl rfl) rfl ?_)); refine sq_x rfl (x_alloc ty_69 rfl) rfl ?_; rintro _ _ ⟨b3, rfl, rfl⟩; refine sq_m 0 rfl rfl (m_storeW 0 ty_69 rfl rfl rfl (by rw [ints_length]; exact hal) (ints_one arr) rfl (by simp)) rfl ?_; rintro _ _ ⟨rfl, rfl⟩; refine sq_v rfl (v_assign rfl) rfl (sq_end (qs_n (wp_sc (wp_sq ?_)))); refine sq_v rfl (v_loadNB 0 ty_69 rfl rfl (by rw [ints_length]; exact hal) (by rw [List.drop_zero, List.take_of_length_le]; rw [ints_length, hal]; omega)) rfl ?_; refine sq_x rfl (x_call rfl en_58 (fun w s => ct_i_occurring ts arr w (hav (hok.2 hnet.2.2.2.1)) (net_ax hnet))) rfl ?_; rintro v15 h15 r15; refine sq_v rfl (v_assign rfl) rfl (sq_end (qs_n (wp_rt ?_))); exact qs_ret1 rfl rfl (fin_t 0 (i := 4) rfl rfl rfl (by rw [labelsOf, if_pos hnet]; exact r15))
def fitsL (ds vs : List Int) : Prop := vs.length = ds.length ∧ ∀ j, j < vs.length → 0 ≤ vs.getD j 0 ∧ vs.getD j 0 < ds.getD j 0
open Classical in
noncomputable def fitsB (ds vs : List Int) : Bool := decide (fitsL ds vs)
theorem fitsB_no {ds vs : List Int} (h : ¬ fitsL ds vs) : Value.bool false = .bool (fitsB ds vs) := by simp [fitsB, h]
theorem fitsB_yes {ds vs : List Int} (h : fitsL ds vs) : Value.bool true = .bool (fitsB ds vs) := by simp [fitsB, h]
theorem ct_i_indexOk (ds vs : List Int) (u v : Value) (w : World) (r : IntsR ds u (hp w)) (r' : IntsR vs v (hp w)) : Calls Tryz.prog 82 [u, v].toArray w (RetV w (.bool (fitsB ds vs))) := by
  have hx := r'.le; refine calls_in Tryz.func82 rfl Tryz.ntmps82 rfl (Sat.start w) (wp_sc (wp_sq (sq_v rfl (v_assign rfl) rfl (sq_end (qs_n (wp_sc (wp_sc (wp_sq (sq_v rfl (v_move rfl) rfl (sq_v rfl (v_len Tryz.underlying27 rfl r'.sl) rfl (sq_v rfl (v_move rfl) rfl (sq_v rfl (v_len Tryz.underlying27 rfl r.sl) rfl (sq_v rfl (v_neq rfl rfl) rfl (sq_end (qs_n ?_))))))))))))))); refine wp_cd rfl (fun c11 => ?_) (fun c11 => ?_)
  · refine wp_sc (wp_sq (sq_v rfl (v_assign rfl) rfl (sq_end (qs_n (wp_rt (qs_r ?_)))))); exact qs_ret1 rfl rfl (fin_q (i := 0) rfl (fitsB_no (fun h => by have := h.1; omega)))
  · refine wp_sk (qs_n (wp_sc (wp_sc (wp_sq (sq_v rfl (v_move rfl) rfl (sq_v rfl (v_len Tryz.underlying27 rfl r'.sl) rfl (sq_v rfl (v_move rfl) rfl (sq_end (qs_n (wp_bl (wp_lp (fun i : Nat => [(0, u), (12, v), (13, num vs.length), (14, num i)]) (fun _ => [hp w]) (fun i => i ≤ vs.length ∧ ∀ j, j < i → 0 ≤ vs.getD j 0 ∧ vs.getD j 0 < ds.getD j 0) (fun i => vs.length - i) 0 ⟨by omega, fun j hj => by omega⟩ ⟨rfl, rfl, rfl, rfl, trivial⟩ (fun _ s => s) ?_))))))))))); rintro i ⟨hi, hn⟩; refine wp_sc (wp_sq (sq_v rfl (v_lss rfl rfl) rfl (sq_end (qs_n (wp_sc ?_))))); refine wp_cd rfl (fun c15 => ?_) (fun c15 => ?_)
    · refine wp_sk (qs_n (wp_sc (wp_bl (wp_sc (wp_sq (sq_v rfl (v_move rfl) rfl (sq_v rfl (v_idxI Tryz.underlying27 ty_3 rfl rfl r' (by omega) (by omega)) rfl (sq_v rfl (v_loadI (k := i) 0 ty_3 rfl rfl r' (by omega)) rfl (sq_v rfl (v_assign rfl) rfl (sq_v rfl (v_assign rfl) rfl (sq_end (qs_n (wp_sc (wp_sq (sq_v rfl (v_move rfl) rfl (sq_v rfl (v_lss rfl rfl) rfl ?_)))))))))))))))); refine sq_bd 20 rfl (fun c20 => ?_) (fun c20 => ?_)
      · refine sq_v rfl (v_move rfl) rfl (sq_s rfl rfl (sq_s rfl rfl (sq_s rfl rfl (sq_s rfl rfl (sq_s rfl rfl (sq_s rfl rfl (sq_v rfl (v_pickt rfl rfl) rfl (sq_end (qs_n (wp_ct rfl (wp_sc (wp_sq (sq_v rfl (v_assign rfl) rfl (sq_end (qs_n (wp_rt (qs_br (qs_r (qs_r (qs_br (qs_r ?_))))))))))))))))))))); exact qs_ret1 rfl rfl (fin_q (i := 0) rfl (fitsB_no (fun h => by have := h.2 i (by omega); omega)))
      · refine sq_v rfl (v_move rfl) rfl (sq_v rfl (v_move rfl) rfl (sq_v rfl (v_move rfl) rfl (sq_v rfl (v_move rfl) rfl (sq_v rfl (v_idxI Tryz.underlying27 ty_3 rfl rfl r (by omega) (by omega)) rfl (sq_v rfl (v_loadI (k := i) 0 ty_3 rfl rfl r (by omega)) rfl (sq_v rfl (v_geq rfl rfl) rfl (sq_v rfl (v_pickf rfl rfl) rfl (sq_end (qs_n ?_))))))))); refine wp_cd rfl (fun c28 => ?_) (fun c28 => ?_)
        · refine wp_sc (wp_sq (sq_v rfl (v_assign rfl) rfl (sq_end (qs_n (wp_rt (qs_br (qs_r (qs_r (qs_br (qs_r ?_)))))))))); exact qs_ret1 rfl rfl (fin_q (i := 0) rfl (fitsB_no (fun h => by have := h.2 i (by omega); omega)))
        · refine wp_sk (qs_bn (qs_n (wp_sq ?_))); refine sq_v rfl (v_add rfl rfl ((by unfold I64; omega))) rfl ?_; refine sq_v rfl (v_move rfl) rfl (sq_end ?_); exact qs_bk (i + 1) ⟨by omega, step_all hn (by omega)⟩ (by omega) ⟨rfl, rfl, rfl, rfl, trivial⟩ (fun _ s => s)
    · refine wp_ex (qs_x (qs_x (qs_bx (qs_n (wp_sc (wp_sq (sq_v rfl (v_assign rfl) rfl (sq_end (qs_n (wp_rt ?_)))))))))); exact qs_ret1 rfl rfl (fin_q (i := 0) rfl (fitsB_yes ⟨by omega, fun j hj => hn j (by omega)⟩))
def assignL (k p n : Int) (ts : List Ten) (op vs : List Int) : Prop := netL k p n ts op ∧ fitsL (dimsFor ts (labelsL ts)) vs
open Classical in
noncomputable def assignB (k p n : Int) (ts : List Ten) (op vs : List Int) : Bool := decide (assignL k p n ts op vs)
theorem assignB_true {k p n : Int} {ts : List Ten} {op vs : List Int} : assignB k p n ts op vs = true ↔ assignL k p n ts op vs := by simp [assignB]
theorem assignB_false {k p n : Int} {ts : List Ten} {op vs : List Int} : assignB k p n ts op vs = false ↔ ¬ assignL k p n ts op vs := by simp [assignB]
theorem labels_in {ts : List Ten} : ∀ x ∈ labelsL ts, 0 ≤ x ∧ x ≤ 99 := fun x hx => by
  have := (mem_labels.1 hx).1
  omega
theorem ct_i_assignmentOk (k p n : Int) (ts : List Ten) (op vs : List Int) (vt vo v : Value) (w : World) (r : TensR ts vt (hp w)) (r' : IntsR op vo (hp w)) (rv : IntsR vs v (hp w)) (hs : op.length ≤ 1048576) :
    Calls Tryz.prog 39 [netV k p n vt vo, v].toArray w (RetV w (.bool (assignB k p n ts op vs))) := by
  refine calls_in Tryz.func39 rfl Tryz.ntmps39 rfl (Sat.start w) (wp_sc (wp_sq ?_)); refine sq_x rfl (x_box rfl rfl) rfl ?_; rintro _ _ ⟨b2, rfl, rfl⟩; refine sq_v rfl (v_assign rfl) rfl (sq_end (qs_n (wp_sc (wp_sc (wp_sq (sq_v rfl (v_loadNB 0 ty_29 rfl rfl rfl rfl) rfl (sq_u rfl (x_callv rfl en_14 (fun w s => ct_i_NetworkOk _ _ _ _ _ _ _ w (r.mono (s.get 1 rfl)) (r'.mono (s.get 1 rfl)) hs)) rfl (sq_v rfl (v_not rfl) rfl (sq_end (qs_n ?_)))))))))); refine wp_cn _ rfl (fun c9 => ?_) (fun c9 => ?_)
  · refine wp_sc (wp_sq (sq_v rfl (v_assign rfl) rfl (sq_end (qs_n (wp_rt (qs_r ?_)))))); exact qs_ret1 rfl rfl (fin_q (i := 1) rfl (by rw [assignB_false.2 (fun h => netB_false.1 c9 h.1)]))
  · refine wp_sk (qs_n (wp_sc (wp_sq (sq_v rfl (v_fieldAddr fd_29_1 ty_26 (by decide) rfl) rfl (sq_v rfl (v_loadB 0 ty_26 rfl rfl rfl) rfl ?_))))); have hnet := netB_true.1 c9; refine sq_x rfl (x_call rfl en_43 (fun w s => ct_i_dimsOf _ _ w (r.mono (s.get 1 rfl)) (net_axes hnet))) rfl ?_; rintro _ h13 ⟨arr, ok, rfl, hal, hok, hav⟩; refine sq_v rfl (v_move rfl) rfl (sq_v rfl (v_extract rfl rfl) rfl (sq_v rfl (v_extract rfl rfl) rfl ?_)); refine sq_x rfl (x_alloc ty_69 rfl) rfl ?_; rintro _ _ ⟨b5, rfl, rfl⟩; refine sq_m 0 rfl rfl (m_storeW 0 ty_69 rfl rfl rfl (by rw [ints_length]; exact hal) (ints_one arr) rfl (by simp)) rfl ?_; rintro _ _ ⟨rfl, rfl⟩; refine sq_v rfl (v_assign rfl) rfl (sq_end (qs_n (wp_sc (wp_rj 8 [(0, true), (1, true), (5, true), (2, false), (3, false), (4, true), (6, false), (7, true)] mixed_ok (by kernel_rfl) ?_)))); refine rj_v rfl rfl (v_loadNB 0 ty_69 rfl rfl (by rw [ints_length]; exact hal) (by rw [List.drop_zero, List.take_of_length_le]; rw [ints_length, hal]; omega)) rfl ?_; refine rj_v rfl rfl (v_loadNB 0 ty_69 rfl rfl (by rw [ints_length]; exact hal) (by rw [List.drop_zero, List.take_of_length_le]; rw [ints_length, hal]; omega)) rfl ?_; refine rj_v rfl rfl (v_move rfl) rfl ?_; have hinv := hav (hok.2 hnet.2.2.2.1); have hll := labels_len ts 100; refine rj_x rfl rfl (x_call rfl en_58 (fun w s => ct_i_occurring ts arr w hinv (net_ax hnet))) rfl ?_; rintro v18 h18 r18; refine rj_x rfl rfl (x_call rfl en_45 (fun w s => ct_i_axesOf _ _ _ w (r18.toR.mono (s.get 0 rfl)) hal labels_in (by unfold labelsL; omega))) rfl ?_; rintro _ h19 ⟨u1, u2, rfl, ru1, ru2⟩; refine rj_v rfl rfl (v_field1 fd_55_1 ty_27 rfl rfl) rfl (rj_u rfl rfl (x_callv rfl en_82 (fun w s => ct_i_indexOk _ _ _ _ w (ru2.mono (s.get 0 rfl)) (rv.mono (s.get 5 rfl)))) rfl (rj_v rfl rfl (v_assign rfl) rfl (rj_end (qs_n (wp_rt ?_))))); exact qs_ret1 rfl rfl (fin_q (i := 5) rfl (by congr 1; rw [arrOf_eq hinv labels_in]; unfold fitsB assignB; congr 1; rw [eq_iff_iff]; exact ⟨fun h => ⟨hnet, h⟩, fun h => h.2⟩))
end Go.Proofs.YtiefkcaplhnnmaaGreat
namespace Go.Proofs.YtiefkcaplhnnmaaGreat
open Go.RowKit

def joinP (l : List PH) : PH := l.foldr PUn emp
theorem PDj.join {h : PH} : ∀ {l : List PH}, (∀ x ∈ l, PDj h x) → PDj h (joinP l)
  | [], _ => PDj.symm (PDj.emp h)
  | x :: r, hl => PDj.symm (PDj.un (PDj.symm (hl x (by simp))) (PDj.symm (PDj.join (fun y hy => hl y (by simp [hy])))))
theorem PLe.join : ∀ {l : List PH}, sepL l → ∀ h ∈ l, PLe h (joinP l)
  | [], _, h, hm => by simp at hm
  | x :: r, hs, h, hm => by
    rcases List.mem_cons.1 hm with rfl | hm
    · exact PLe.un_l _ _
    · exact (PLe.join hs.2 h hm).trans (PLe.un_r (PDj.join hs.1))
theorem joinP_dom : ∀ {l : List PH} {k : Nat} {o : Obj}, joinP l k = some o → ∃ h ∈ l, h k = some o
  | [], k, o, e => by simp [joinP, emp] at e
  | x :: r, k, o, e => by
    have e' : PUn x (joinP r) k = some o := e
    unfold PUn at e'
    split at e'
    · rename_i y hy; cases e'; exact ⟨x, by simp, hy⟩
    · obtain ⟨h, hm, he⟩ := joinP_dom e'; exact ⟨h, by simp [hm], he⟩
/-- 'h' is made of the parts 'l'. -/
structure Made (h : PH) (l : List PH) : Prop where
  sep : sepL l
  le : ∀ x ∈ l, PLe x h
  dom : ∀ k o, h k = some o → ∃ x ∈ l, x k = some o
theorem Made.join {l : List PH} (h : sepL l) : Made (joinP l) l := ⟨h, PLe.join h, fun _ _ e => joinP_dom e⟩
theorem sepL_append : ∀ {a b : List PH}, sepL (a ++ b) ↔ sepL a ∧ sepL b ∧ ∀ x ∈ a, ∀ y ∈ b, PDj x y
  | [], b => by simp [sepL]
  | x :: r, b => by
    simp only [List.cons_append, sepL, sepL_append (a := r), List.mem_append, List.mem_cons]
    constructor
    · rintro ⟨h1, h2, h3, h4⟩; exact ⟨⟨fun y hy => h1 y (.inl hy), h2⟩, h3, fun y hy z hz => by
        rcases hy with rfl | hy
        · exact h1 z (.inr hz)
        · exact h4 y hy z hz⟩
    · rintro ⟨⟨h1, h2⟩, h3, h4⟩; exact ⟨fun y hy => hy.elim (h1 y) (h4 x (.inl rfl) y), h2, h3, fun y hy z hz => h4 y (.inr hy) z hz⟩
theorem sepL_comm {a b : List PH} (h : sepL (a ++ b)) : sepL (b ++ a) := by
  rw [sepL_append] at *; exact ⟨h.2.1, h.1, fun x hx y hy => (h.2.2 y hy x hx).symm⟩
section
variable {w0 w : World} {HS : List PH}
theorem Sat.comm {A B : List PH} (s : Sat w0 (A ++ B) w) : Sat w0 (B ++ A) w :=
  ⟨s.os, s.tape, s.output, s.size, sepL_comm s.sep, fun x hx => s.le x (by simp only [List.mem_append] at *; exact hx.symm)⟩
/-- A part made of many is parted; the many go to the end. -/
theorem Sat.open {h : PH} {l A : List PH} (m : Made h l) (s : Sat w0 (h :: A) w) : Sat w0 (A ++ l) w := by
  refine ⟨s.os, s.tape, s.output, s.size, sepL_append.2 ⟨s.sep.2, m.sep, fun x hx y hy => ?_⟩, fun x hx => ?_⟩
  · exact ((s.sep.1 x hx).mono (m.le y hy)).symm
  · rcases List.mem_append.1 hx with hx | hx
    · exact s.le x (by simp [hx])
    · exact (m.le x hx).trans (s.le h (by simp))
/-- The parts at the end made one. -/
theorem Sat.close {A l : List PH} (s : Sat w0 (A ++ l) w) : Sat w0 (joinP l :: A) w ∧ Made (joinP l) l := by
  have h := sepL_append.1 s.sep; refine ⟨⟨s.os, s.tape, s.output, s.size, ⟨fun x hx => ?_, h.1⟩, fun x hx => ?_⟩, Made.join h.2.1⟩
  · exact (PDj.join (fun y hy => h.2.2 x hx y hy)).symm
  · rcases List.mem_cons.1 hx with rfl | hx
    · intro k o e; obtain ⟨y, hy, e'⟩ := joinP_dom e; exact s.le y (by simp [hy]) k o e'
    · exact s.le x (by simp [hx])
end
section
variable {P : Program} {n : Nat} {w0 : World} {K : Env} {Q : Exit → Act → World → Prop} {ops : Array Oper} {rest : List Oper}
end
end Go.Proofs.YtiefkcaplhnnmaaGreat
namespace Go.Proofs.YtiefkcaplhnnmaaGreat
set_option maxRecDepth 100000
open Go.RowKit

def tenSize (t : Ten) : Int := t.l.length + t.d.length + t.x.length
theorem take_ten {ts : List Ten} {i : Nat} {t : Ten} (h : ts[i]? = some t) : ts.take (i + 1) = ts.take i ++ [t] := by
  obtain ⟨hi, e⟩ := List.getElem?_eq_some_iff.1 h; rw [List.take_succ_eq_append_getElem hi, e]
def iota (k : Int) (m : Nat) : List Int := (List.range m).map fun (j : Nat) => k + j
theorem iota_len (k : Int) (m : Nat) : (iota k m).length = m := by simp [iota]
end Go.Proofs.YtiefkcaplhnnmaaGreat
namespace Go.Proofs.YtiefkcaplhnnmaaGreat
set_option maxRecDepth 100000
open Go.RowKit
theorem dimOf_append : ∀ {a b : List Ten} (_ : ∀ t ∈ a, AxOK t) (x : Int), dimOf (a ++ b) x = if dimOf a x ≠ 0 then dimOf a x else dimOf b x
  | [], b, _, x => by simp [dimOf]
  | u :: r, b, h, x => by
    have ih := dimOf_append (a := r) (b := b) (fun t ht => h t (by simp [ht])) x
    by_cases hx : x ∈ u.l
    · have hu := (h u (by simp)).2 _ (findI_get hx).1; simp only [List.cons_append, dimOf, if_pos hx]; rw [if_pos (by omega)]
    · simp only [List.cons_append, dimOf, if_neg hx]; exact ih
/-- In a network in order, each label's dimension is that of its axis. -/
theorem net_dim {k p n : Int} {ts : List Ten} {op : List Int} (h : netL k p n ts op) {t : Ten} (ht : t ∈ ts) {x : Int} (hx : x ∈ t.l) : dimOf ts x = t.d.getD (findI t.l x).toNat 0 := by
  obtain ⟨i, hi⟩ := List.getElem?_of_mem ht; have hlt := (List.getElem?_eq_some_iff.1 hi).1; have hg := findI_get hx; have hc := h.2.2.2.1 i hlt t hi _ hg.1 t hi; rw [hg.2] at hc; have e : ts = ts.take i ++ (t :: ts.drop (i + 1)) := by rw [← drop_at hi, List.take_append_drop]
  have hax := net_ax h
  conv => lhs; rw [e]
  rw [dimOf_append (fun u hu => hax u (List.mem_of_mem_take hu))]
  split
  · omega
  · rw [dimOf, if_pos hx]
theorem net_label {k p n : Int} {ts : List Ten} {op : List Int} (h : netL k p n ts op) {t : Ten} (ht : t ∈ ts) {x : Int} (hx : x ∈ t.l) : x ∈ labelsL ts := by
  have hg := findI_get hx; have ha := (net_axes h t ht).2.2 _ hg.1
  unfold axP at ha
  rw [hg.2] at ha; have hd := net_dim h ht hx; exact mem_labels.2 ⟨by omega, by have := ha.2.1; omega⟩
theorem nodup_map {α β : Type} {f : α → β} (hf : ∀ a b, f a = f b → a = b) {l : List α} (h : l.Nodup) : (l.map f).Nodup :=
  List.pairwise_map.2 (h.imp fun hne e => hne (hf _ _ e))
theorem labels_nodup (ts : List Ten) (m : Nat) : (labelsTo ts m).Nodup :=
  List.Pairwise.filter _ (nodup_map (f := fun (i : Nat) => (i : Int)) (fun a b e => by have e' : (a : Int) = b := e; omega) List.nodup_range)
theorem axes_nodup {ls ds : List Int} (h : axesL ls ds) : ls.Nodup := by
  rw [List.Nodup, List.pairwise_iff_getElem]; intro i j hi hj hij e; have := (h.2.2 j hj).2.2; refine this ?_; simp only [List.getD, List.getElem?_eq_getElem hj, Option.getD_some]; rw [← e]; exact List.mem_iff_getElem.2 ⟨i, by simp; omega, by simp⟩
theorem assign_idx {k p n : Int} {ts : List Ten} {op vs : List Int} (h : assignL k p n ts op vs) {t : Ten} (ht : t ∈ ts) : idxIn t.d (idxAt (labelsL ts) vs t.l) := by
  have hax := net_axes h.1 t ht; refine ⟨by simp [idxAt, hax.2.1], fun j hj => ?_⟩; have hj' : j < t.l.length := by rw [hax.2.1]; exact hj
  have hx := mem_getD hj'; have hg := findI_get (net_label h.1 ht hx); have hd := net_dim h.1 ht hx; have hfj : findI t.l (t.l.getD j 0) = j := find_at hax hj'; rw [hfj, Int.toNat_natCast] at hd; have hv := h.2.2 _ (by rw [h.2.1, dimsFor, List.length_map]; exact hg.1); rw [dimsFor, map_getD hg.1, hg.2, hd] at hv; rw [idxAt, map_getD hj']; exact hv
theorem assign_small {k p n : Int} {ts : List Ten} {op vs : List Int} (h : assignL k p n ts op vs) : ∀ b ∈ vs, 0 ≤ b ∧ b ≤ 1048576 := all_of fun j hj => by
  have := h.2.2 j hj; have hl := h.2.1; rw [dimsFor, List.length_map] at hl; rw [dimsFor, map_getD (by omega)] at this; have hr := dimOf_range (net_ax h.1) ((labelsL ts).getD j 0)
  omega
theorem oneL_in {k p n : Int} (h : ringL k p n) : InR k p n (oneL k p n) := by
  refine ⟨oneL_len k p n, fun a ha => ?_⟩; have ht := top_range h
  unfold oneL at ha
  split at ha
  · simp at ha; omega
  · split at ha
    · simp at ha; omega
    · have h1 : 1 ≤ topI k p n := by
        have h3 := fun hk => top_cap (k := k) (p := p) (n := n) h hk; have h2 := fun hk => top_poly (k := k) (p := p) (n := n) h hk
        unfold ringL at h
        have h1 := fun hk => top_1 (k := k) (p := p) (n := n) hk
        rcases h with h | h | h | h | h | h
        · have := h1 h.1; omega
        · have := h2 (.inl h.1); omega
        · have := h3 h.1; omega
        · omega
        · have := h2 (.inr (.inl h.1)); omega
        · have := h2 (.inr (.inr h.1)); omega
      rcases List.mem_or_eq_of_mem_set ha with ha | ha
      · have := List.eq_of_mem_replicate ha; omega
      · omega
theorem elt_mem {xs : List Int} {w i a : Int} (h : a ∈ elt xs w i) : a ∈ xs := List.mem_of_mem_drop (List.mem_of_mem_take h)
theorem elt_inR {k p n : Int} {t : Ten} (h : tensorL k p n t.l t.d t.x) {i : Int} (h0 : 0 ≤ i) (h1 : i < prodI t.d) : InR k p n (elt t.x (widthI k n) i) := by
  have hw := width_range h.1; refine ⟨?_, fun a ha => h.2.2.2 a (elt_mem ha)⟩; have hsz := h.2.2.1; have hs := sizeI_ge.1 h.2.1; rw [sizeI_yes hs.1 hs.2] at hsz; have := Int.mul_le_mul_of_nonneg_right (show i + 1 ≤ prodI t.d by omega) (show 0 ≤ widthI k n by omega); have h2 := Int.mul_nonneg h0 (show 0 ≤ widthI k n by omega); rw [Int.add_mul, Int.one_mul] at this; simp only [elt, List.length_take, List.length_drop]
  omega
theorem elt_fits {k p n : Int} {t : Ten} (h : tensorL k p n t.l t.d t.x) {i : Int} (h1 : i < prodI t.d) : i * widthI k n + widthI k n ≤ t.x.length ∧ t.x.length ≤ 17592186044416 := by
  have hw := width_range h.1; have hsz := h.2.2.1; have hs := sizeI_ge.1 h.2.1; rw [sizeI_yes hs.1 hs.2] at hsz; have := Int.mul_le_mul_of_nonneg_right (show i + 1 ≤ prodI t.d by omega) (show 0 ≤ widthI k n by omega); rw [Int.add_mul, Int.one_mul] at this; have h3 : prodI t.d * widthI k n ≤ 4096 * 6 := Int.mul_le_mul hs.2 hw.2 (by omega) (by omega)
  omega
theorem steps_in {labels ls ds : List Int} (hd : ∀ d ∈ ds, 1 ≤ d) : ∀ a ∈ stepsL labels ls ds, 0 ≤ a ∧ a ≤ prodI ds := fun a ha => by
  simp only [stepsL, List.mem_map] at ha; obtain ⟨x, _, rfl⟩ := ha; exact strOf_range hd x
noncomputable def weightTo (k p n : Int) (labels vs : List Int) (ts : List Ten) : List Int := ts.foldl (fun a t => mulL k p n a (elt t.x (widthI k n) (offL t.d (idxAt labels vs t.l)))) (oneL k p n)
theorem weight_step {k p n : Int} {labels vs : List Int} {ts : List Ten} {i : Nat} {t : Ten} (h : ts[i]? = some t) : weightTo k p n labels vs (ts.take (i + 1)) = mulL k p n (weightTo k p n labels vs (ts.take i)) (elt t.x (widthI k n) (offL t.d (idxAt labels vs t.l))) := by
  rw [take_ten h, weightTo, List.foldl_append]; rfl
/-- What is asked of the numbers at the labels. -/
structure AtOK (k p n : Int) (ts : List Ten) (labels vs : List Int) : Prop where
  ring : ringL k p n
  ten : ∀ t ∈ ts, tensorL k p n t.l t.d t.x
  nodup : labels.Nodup
  mem : ∀ t ∈ ts, ∀ x ∈ t.l, x ∈ labels
  idx : ∀ t ∈ ts, idxIn t.d (idxAt labels vs t.l)
  len : vs.length = labels.length
  few : labels.length ≤ 100
  small : ∀ b ∈ vs, 0 ≤ b ∧ b ≤ 1048576
theorem AtOK.off {k p n : Int} {ts : List Ten} {labels vs : List Int} (h : AtOK k p n ts labels vs) {t : Ten} (ht : t ∈ ts) : 0 ≤ offL t.d (idxAt labels vs t.l) ∧ offL t.d (idxAt labels vs t.l) < prodI t.d := by
  have := offL_in (fun d hd => (dims_mem (axes_dims (tensor_axes (h.ten t ht))) d hd).1) (h.idx t ht)
  omega
theorem AtOK.dot {k p n : Int} {ts : List Ten} {labels vs : List Int} (h : AtOK k p n ts labels vs) {t : Ten} (ht : t ∈ ts) : dotL (stepsL labels t.l t.d) vs = offL t.d (idxAt labels vs t.l) := by
  have hax := tensor_axes (h.ten t ht); rw [dotL, stepsL_len, dot_off h.nodup hax.2.1 (axes_nodup hax) (h.mem t ht)]
theorem weight_in {k p n : Int} {ts : List Ten} {labels vs : List Int} (h : AtOK k p n ts labels vs) : ∀ i, i ≤ ts.length → InR k p n (weightTo k p n labels vs (ts.take i))
  | 0, _ => by simpa [weightTo] using oneL_in h.ring
  | i + 1, hi => by
    have ht : ts[i]? = some ts[i] := List.getElem?_eq_getElem (by omega); have hm := List.mem_of_getElem? ht; rw [weight_step ht]; exact mulL_in h.ring (weight_in h i (by omega)) (elt_inR (h.ten _ hm) (h.off hm).1 (h.off hm).2)
set_option maxHeartbeats 1000000 in
theorem ct_i_rawWeight (k p n : Int) (ts : List Ten) (labels vs : List Int) (vt vo v u : Value) (w : World) (r : TensR ts vt (hp w)) (rl : IntsR labels v (hp w)) (rv : IntsR vs u (hp w)) (hat : AtOK k p n ts labels vs) :
    Calls Tryz.prog 55 [netV k p n vt vo, v, u].toArray w (Ret w emp (IntsO (weightTo k p n labels vs ts))) := by
  have hring := hat.ring; have hw := width_range hring; have hlen := hat.len; have hfew := hat.few; refine calls_in Tryz.func55 rfl Tryz.ntmps55 rfl (Sat.start w) ?_; have hle0 := r.le; obtain ⟨cs_r, rr_r, hc_r⟩ := r.at; have hle1 := rl.le; have hle2 := rv.le; refine wp_sc (wp_sq ?_); refine sq_x rfl (x_box rfl rfl) rfl ?_; rintro _ _ ⟨b3, rfl, rfl⟩; refine sq_v rfl (v_assign rfl) rfl (sq_end (qs_n (wp_sc (wp_sq (sq_v rfl (v_fieldAddr fd_29_0 ty_24 (by decide) rfl) rfl (sq_v rfl (v_loadNB 0 ty_24 rfl rfl rfl rfl) rfl ?_)))))); refine sq_x rfl (x_call rfl en_62 (fun w s => ct_i_rawOne _ _ _ w (by first | assumption | omega))) rfl ?_; rintro v12 h12 r12; refine sq_v rfl (v_assign rfl) rfl (sq_end (qs_n (wp_sc (wp_sc (wp_sq (sq_v rfl (v_fieldAddr fd_29_1 ty_26 (by decide) rfl) rfl (sq_v rfl (v_loadB 1 ty_26 rfl rfl rfl) rfl (sq_v rfl (v_len Tryz.underlying26 rfl r.sl) rfl (sq_v rfl (v_move rfl) rfl (sq_end (qs_n (wp_bl ?_)))))))))))); refine wp_lp (σ := Nat × Value × PH) (fun z_ => [(1, v), (2, u), (3, .pointer (some ⟨b3, 0, none⟩)), (6, .slice none 0 0), (7, z_.2.1), (14, vt), (15, num ts.length), (16, num z_.1)]) (fun z_ => [z_.2.2, box b3 [num k, num p, num n, vt, vo] 29, hp w]) (fun z_ => z_.1 ≤ ts.length ∧ IntsO (weightTo k p n labels vs (ts.take z_.1)) z_.2.1 z_.2.2) (fun z_ => ts.length - z_.1) (0, v12, h12) (⟨by (try dsimp only); omega, by (try dsimp only); simpa [weightTo] using r12⟩) ⟨rfl, rfl, rfl, rfl, (by first | rfl | exact ksub rfl (by first | omega | (simp; done) | (simp; omega))), rfl, rfl, (by first | rfl | exact ksub rfl (by first | omega | (simp; done) | (simp; omega))), trivial⟩ (fun _ s => s) ?_; rintro ⟨i, wv, wh⟩ ⟨hi, q⟩; dsimp only at hi q ⊢; have hle_q := q.toR.le; have hwi := weight_in hat i hi; refine wp_sc (wp_sq (sq_v rfl (v_lss rfl rfl) rfl (sq_end (qs_n (wp_sc ?_))))); refine wp_cd rfl (fun c17 => ?_) (fun c17 => ?_)
  · refine wp_sk (qs_n (wp_sc (wp_bl (wp_sc (wp_sq ?_))))); obtain ⟨t18, a18, b18, c18, ht18, hcs18, rl18, rd18, rx18⟩ := hc_r (i) (by first | omega | (rw [List.length_set]; omega)); refine sq_v rfl (v_indexAddr Tryz.underlying26 ty_55 rfl rfl rr_r (by decide) (by omega) (by omega)) rfl ?_; refine sq_v rfl (v_loadNE 2 ty_55 rfl rfl rr_r (by have := rr_r.1; omega) rfl hcs18) rfl ?_; refine sq_x rfl (x_alloc ty_55 rfl) rfl ?_; rintro _ _ ⟨b9, rfl, rfl⟩; refine sq_m 0 rfl rfl (m_store 0 ty_55 rfl rfl rfl rfl (by simp [rl18.sl.one, rd18.sl.one, rx18.sl.one]) rfl (Nat.le_of_ble_eq_true rfl)) rfl ?_; rintro _ _ ⟨rfl, rfl⟩; refine sq_end ?_; have htm := List.mem_of_getElem? ht18; have hten := hat.ten _ htm; have hoff := hat.off htm; have hdot := hat.dot htm; have hdm := dims_mem (axes_dims (tensor_axes hten)); have hpl := (sizeI_ge.1 hten.2.1).2; have hll := (tensor_axes hten).2.1; have hfit := elt_fits hten hoff.2; have hel := elt_inR hten hoff.1 hoff.2; rw [← hdot] at hoff hfit hel; refine qs_n (wp_rj 14 [(0, true), (1, true), (2, true), (3, true), (4, true), (5, true), (6, true), (7, true), (9, true), (8, false), (10, false), (11, false), (12, false), (13, true)] mixed_ok (by kernel_rfl) (rj_v rfl rfl (v_fieldAddr fd_29_0 ty_24 (by decide) rfl) rfl (rj_v rfl rfl (v_loadNB 2 ty_24 rfl rfl rfl rfl) rfl (rj_v rfl rfl (v_move rfl) rfl (rj_v rfl rfl (v_fieldAddr fd_29_0 ty_24 (by decide) rfl) rfl (rj_v rfl rfl (v_loadNB 2 ty_24 rfl rfl rfl rfl) rfl (rj_v rfl rfl (v_loadNB 0 ty_55 rfl rfl rfl rfl) rfl (rj_v rfl rfl (v_loadNB 0 ty_55 rfl rfl rfl rfl) rfl (rj_v rfl rfl (v_move rfl) rfl (rj_v rfl rfl (v_move rfl) rfl ?_)))))))))); refine rj_x rfl rfl (x_call rfl en_91 (fun w s => ct_i_stridesOf _ _ _ _ _ _ _ w (rl18.mono (s.get 3 rfl)) (rd18.mono (s.get 3 rfl)) (rl.mono (s.get 3 rfl)) (by first | assumption | omega) (by first | assumption | omega) (by first | assumption | omega) (by first | assumption | omega))) rfl ?_; rintro v28 h28 r28; refine rj_u rfl rfl (x_callv rfl en_90 (fun w s => ct_i_dotOf _ _ _ _ w (r28.toR.mono (s.get 0 rfl)) (rv.mono (s.get 4 rfl)) (fun a h => by have := steps_in (fun d hd => (hdm d hd).1) a h; omega) hat.small (by rw [stepsL_len]; omega) (by rw [stepsL_len]; omega))) rfl ?_; refine rj_u rfl rfl (x_callv rfl en_51 (fun w s => ct_i_rawElem _ _ _ _ _ _ _ _ w (by first | assumption | omega) (rx18.mono (s.get 4 rfl)) (by first | assumption | omega) (by first | assumption | omega) (by first | assumption | omega))) rfl ?_; refine rj_x rfl rfl (x_call rfl en_65 (fun w s => ct_i_rawMul _ _ _ _ _ _ _ w (by first | assumption | omega) (q.toR.mono (s.get 2 rfl)) ((eltV_read rx18 (by first | assumption | omega) (by first | assumption | omega) (by first | assumption | omega)).mono (s.get 4 rfl)) (by first | assumption | omega) (by first | assumption | omega))) rfl ?_; rintro v32 h32 r32; refine rj_v rfl rfl (v_assign rfl) rfl (rj_end (qs_bn (qs_n (wp_sq ?_)))); refine sq_v rfl (v_add rfl rfl ((by unfold I64; omega))) rfl ?_; refine sq_v rfl (v_move rfl) rfl (sq_end ?_); exact qs_bk (i + 1, v32, h32) ⟨by (try dsimp only); omega, by (try dsimp only); rw [weight_step ht18, ← hdot]; exact r32⟩ (by simp only; omega) ⟨rfl, rfl, rfl, rfl, (by first | rfl | exact ksub rfl (by first | omega | (simp; done) | (simp; omega))), rfl, rfl, (by first | rfl | exact ksub rfl (by first | omega | (simp; done) | (simp; omega))), trivial⟩ (fun _ s => s.pick [0, 4, 5] (by decide) rfl)
  · refine wp_ex (qs_x (qs_x (qs_bx (qs_n (wp_sc (wp_sq (sq_v rfl (v_move rfl) rfl (sq_v rfl (v_assign rfl) rfl (sq_end (qs_n (wp_rt ?_))))))))))); exact qs_ret1 rfl rfl (fin_t 0 (i := 2) rfl rfl rfl (by rw [List.take_of_length_le (by omega)] at q; exact q))
theorem idxAt_step {labels vs ls : List Int} {j : Nat} (h : j < ls.length) : idxAt labels vs (ls.take (j + 1)) = idxAt labels vs (ls.take j) ++ [vs.getD (findI labels (ls.getD j 0)).toNat 0] := by
  rw [take_succ h, idxAt, List.map_append]; rfl
open Classical in
noncomputable def weightL (k p n : Int) (ts : List Ten) (op vs : List Int) : List Int := if assignL k p n ts op vs then weightTo k p n (labelsL ts) vs ts else []
theorem assign_at {k p n : Int} {ts : List Ten} {op vs : List Int} (h : assignL k p n ts op vs) : AtOK k p n ts (labelsL ts) vs :=
  ⟨h.1.1, h.1.2.2.1, labels_nodup ts 100, fun t ht x hx => net_label h.1 ht hx, fun t ht => assign_idx h ht, by have := h.2.1; rwa [dimsFor, List.length_map] at this, labels_len ts 100, assign_small h⟩
theorem ct_i_WeightOf (k p n : Int) (ts : List Ten) (op vs : List Int) (vt vo v : Value) (w : World) (r : TensR ts vt (hp w)) (r' : IntsR op vo (hp w)) (rv : IntsR vs v (hp w)) (hs : op.length ≤ 1048576) :
    Calls Tryz.prog 21 [netV k p n vt vo, v].toArray w (Ret w emp (IntsO (weightL k p n ts op vs))) := by
  refine calls_in Tryz.func21 rfl Tryz.ntmps21 rfl (Sat.start w) ?_; have hle0 := r.le; obtain ⟨cs_r, rr_r, hc_r⟩ := r.at; have hle1 := r'.le; have hle2 := rv.le; refine wp_sc (wp_sq ?_); refine sq_x rfl (x_box rfl rfl) rfl ?_; rintro _ _ ⟨b2, rfl, rfl⟩; refine sq_v rfl (v_assign rfl) rfl (sq_end (qs_n (wp_sc (wp_sc (wp_sq (sq_v rfl (v_loadNB 0 ty_29 rfl rfl rfl rfl) rfl (sq_v rfl (v_move rfl) rfl (sq_u rfl (x_callv rfl en_39 (fun w s => ct_i_assignmentOk _ _ _ _ _ _ _ _ _ w (r.mono (s.get 1 rfl)) (r'.mono (s.get 1 rfl)) (rv.mono (s.get 1 rfl)) (by first | assumption | omega))) rfl (sq_v rfl (v_not rfl) rfl (sq_end (qs_n ?_))))))))))); refine wp_cn _ rfl (fun c8 => ?_) (fun c8 => ?_)
  · refine wp_sc (wp_sq (sq_v rfl (v_assign rfl) rfl (sq_end (qs_n (wp_rt (qs_r ?_)))))); exact qs_ret1 rfl rfl (fin_e (i := 1) rfl (by rw [weightL, if_neg (assignB_false.1 c8)]; exact IntsO.nil))
  · refine wp_sk (qs_n (wp_sc (wp_rj 6 [(0, true), (1, true), (3, true), (2, false), (4, false), (5, true)] mixed_ok (by kernel_rfl) (rj_v rfl rfl (v_loadNB 0 ty_29 rfl rfl rfl rfl) rfl (rj_v rfl rfl (v_loadNB 0 ty_29 rfl rfl rfl rfl) rfl (rj_v rfl rfl (v_move rfl) rfl ?_)))))); refine rj_x rfl rfl (x_call rfl en_23 (fun w s => ct_i_LabelsOf _ _ _ _ _ _ _ w (r.mono (s.get 1 rfl)) (r'.mono (s.get 1 rfl)) (by first | assumption | omega))) rfl ?_; rintro v11 h11 r11; have has := assignB_true.1 c8; have hat := assign_at has; rw [labelsOf, if_pos has.1] at r11; refine rj_x rfl rfl (x_call rfl en_55 (fun w s => ct_i_rawWeight _ _ _ _ _ _ _ _ _ _ w (r.mono (s.get 2 rfl)) (r11.toR.mono (s.get 0 rfl)) (rv.mono (s.get 2 rfl)) (by first | assumption | omega))) rfl ?_; rintro v13 h13 r13; refine rj_v rfl rfl (v_assign rfl) rfl (rj_end (qs_n (wp_rt ?_))); exact qs_ret1 rfl rfl (fin_t 0 (i := 3) rfl rfl rfl (by rw [weightL, if_pos has]; exact r13))
end Go.Proofs.YtiefkcaplhnnmaaGreat
namespace Go.Proofs.YtiefkcaplhnnmaaGreat
set_option maxRecDepth 100000
open Go.RowKit
/-- 'HK' is 'HS', some parts of it forgotten. -/
def WkL : List PH → List PH → Prop
  | [], [] => True
  | h :: HS, k :: HK => (k = h ∨ k = emp) ∧ WkL HS HK
  | _, _ => False
def blankL : List Bool → List PH → List PH
  | true :: B, _ :: HS => emp :: blankL B HS
  | false :: B, h :: HS => h :: blankL B HS
  | _, HS => HS
theorem WkL.refl : ∀ HS, WkL HS HS
  | [] => trivial
  | _ :: HS => ⟨.inl rfl, WkL.refl HS⟩
theorem WkL.blank : ∀ (B : List Bool) (HS : List PH), WkL HS (blankL B HS)
  | [], HS => by unfold blankL; exact WkL.refl HS
  | true :: _, [] => trivial
  | false :: _, [] => trivial
  | true :: B, h :: HS => ⟨.inr rfl, WkL.blank B HS⟩
  | false :: B, h :: HS => ⟨.inl rfl, WkL.blank B HS⟩
theorem WkL.le : ∀ {HS HK : List PH}, WkL HS HK → ∀ x ∈ HK, x = emp ∨ x ∈ HS
  | [], [], _, x, h => by simp at h
  | _ :: _, [], h, _, _ => h.elim
  | [], _ :: _, h, _, _ => h.elim
  | h :: HS, k :: HK, w, x, hx => by
    rcases List.mem_cons.1 hx with rfl | hx
    · rcases w.1 with e | e
      · exact .inr (by simp [e])
      · exact .inl e
    · rcases WkL.le w.2 x hx with e | e
      · exact .inl e
      · exact .inr (by simp [e])
theorem WkL.sep : ∀ {HS HK : List PH}, WkL HS HK → sepL HS → sepL HK
  | [], [], _, _ => trivial
  | _ :: _, [], h, _ => h.elim
  | [], _ :: _, h, _ => h.elim
  | h :: HS, k :: HK, w, s => by
    refine ⟨fun x hx => ?_, WkL.sep w.2 s.2⟩
    rcases w.1 with rfl | rfl
    · rcases WkL.le w.2 x hx with rfl | e
      · exact PDj.symm (PDj.emp _)
      · exact s.1 x e
    · exact PDj.emp _
theorem WkL.sat {w0 w : World} {HS HK : List PH} (h : WkL HS HK) (s : Sat w0 HS w) : Sat w0 HK w := by
  refine ⟨s.os, s.tape, s.output, s.size, h.sep s.sep, fun x hx => ?_⟩
  rcases h.le x hx with rfl | e
  · exact PLe.emp _
  · exact s.le x e
theorem WkL.set : ∀ {HS HK : List PH} {p : Nat} {h' : PH}, WkL HS HK → HK[p]? = some emp → WkL (HS.set p h') HK
  | [], [], _, _, _, e => by simp at e
  | _ :: _, [], _, _, h, _ => h.elim
  | [], _ :: _, _, _, h, _ => h.elim
  | h :: HS, k :: HK, 0, h', w, e => by
    simp only [List.getElem?_cons_zero, Option.some.injEq] at e; exact ⟨.inr e, w.2⟩
  | h :: HS, k :: HK, p + 1, h', w, e => ⟨w.1, WkL.set (p := p) w.2 (by simpa using e)⟩
section
variable (P : Program) (n : Nat) (w0 : World)
def RK (ops : Array Oper) (m : Nat) (Q : Exit → Act → World → Prop) (order : List (Nat × Bool)) (listed : Array Bool) (K : Env) (HS HK : List PH) : Prop :=
  WkL HS HK → (∀ i s r, order = (i, s) :: r → i < m → HeadInv .any ops m listed) → chk ops m order listed = true → (Region.noSelect ops && tailOK ops m) = true →
  ∀ (a : Act) (w : World), EnvOK n K a → Sat w0 HS w → RAny P ops Q (Sat w0 HK) m order.length listed a w
end
section
variable {P : Program} {n : Nat} {w0 : World} {K : Env} {HS HK : List PH} {Q : Exit → Act → World → Prop} {ops : Array Oper} {m : Nat} {r : List (Nat × Bool)} {listed : Array Bool}
theorem wp_rk {id : Nat} {l : List Oper} (B : List Bool) (m : Nat) (order : List (Nat × Bool)) (hm : P.follows .mixedOrders = true)
    (hc : (chk l.toArray m order (Array.replicate l.toArray.size false) && (Region.noSelect l.toArray && tailOK l.toArray m) && decide (order.length = l.toArray.size)) = true)
    (h : RK P n w0 l.toArray m Q order (Array.replicate l.toArray.size false) K HS (blankL B HS)) : WP P n w0 (.region id l.toArray true) Q K HS := fun a w e s => by
  rw [Bool.and_eq_true, Bool.and_eq_true] at hc; obtain ⟨⟨h1, h2⟩, h3⟩ := hc; have hm' : m ≤ l.toArray.size := by
    simp only [Bool.and_eq_true, tailOK, Bool.or_eq_true, decide_eq_true_eq] at h2
    omega
  have inv0 : HeadInv .any l.toArray m (Array.replicate l.toArray.size false) :=
    ⟨by simp, fun j oj _ hl => (by rw [getD_replicate_false] at hl; cases hl), fun t _ ht => getD_in (by simpa using ht) (getD_replicate_false _ _)⟩
  have H := h (WkL.blank B HS) (fun _ _ _ _ _ => inv0) h1 h2 a { w with drawn := w.drawn + 1 } e ⟨s.os, s.tape, s.output, s.size, s.sep, s.le⟩; rw [of_decide_eq_true h3] at H; exact Code.wp_mono OnlyN.imp (wp_region_any hm (rany_any _ _ _ _ H))
theorem rk_end (h : QS n w0 Q .normal K HS) : RK P n w0 ops m Q [] listed K HS HK := fun _ _ hc _ a w e s => ⟨by simpa [chk] using hc, h a w e s⟩
theorem rk_yield {i : Nat} {oi : Oper} {v : Value} (hi : ops[i]? = some oi) (hy : ∀ a, EnvOK n K a → YieldsIf P ops (Sat w0 HK) oi v a) (hf : fitsK n oi.dst = true)
    (k : RK P n w0 ops m Q r (listed.setIfInBounds i true) (putK oi.dst v K) HS HK) : RK P n w0 ops m Q ((i, true) :: r) listed K HS HK := fun hwk hinv hc ht a w e s => by
  simp only [chk, Bool.and_eq_true, decide_eq_true_eq] at hc; obtain ⟨⟨⟨him, hr⟩, hfr⟩, hc'⟩ := hc; have inv := hinv i true r rfl him; have hr' : i ∈ Region.ready .any ops listed := by simpa using hr
  have ht' := ht; rw [Bool.and_eq_true] at ht'; exact rany_first hi (Region.noSelect_spec ht'.1) him ht'.2 _ listed a w inv (Region.free_spec hi hfr) hr' (hy a e) (hwk.sat s)
    (k hwk (fun _ _ _ _ _ => inv.set hr' him) hc' ht _ _ (e.put v hf) s)
theorem rk_v {i : Nat} {oi : Oper} {v : Value} (hi : ops[i]? = some oi) (hw : wantK ops K oi.guard = some true) (hv : StepV P n w0 K HK oi v) (hf : fitsK n oi.dst = true)
    (k : RK P n w0 ops m Q r (listed.setIfInBounds i true) (putK oi.dst v K) HS HK) : RK P n w0 ops m Q ((i, true) :: r) listed K HS HK :=
  rk_yield hi (fun a e => .inl ⟨e.wanted hw, fun w s => hv a w e s⟩) hf k
theorem rk_only {i : Nat} {oi : Oper} (hi : ops[i]? = some oi) (h : (∀ i' s' r', r = (i', s') :: r' → i' < m → i < m) → chk ops m r (listed.setIfInBounds i true) = true → (m ≤ i → ∀ j, j < m → (listed.setIfInBounds i true).getD j false = true) →
      (Region.noSelect ops && tailOK ops m) = true → (i < m → HeadInv .any ops m (listed.setIfInBounds i true)) → WkL HS HK →
      ∀ a w, EnvOK n K a → Sat w0 HS w → wpOp P ops (OnlyN Q) i (fun a' w' => (i < m → Sat w0 HK w') ∧ RAny P ops Q (Sat w0 HK) m r.length (listed.setIfInBounds i true) a' w') a w) :
    RK P n w0 ops m Q ((i, false) :: r) listed K HS HK := fun hwk hinv hc ht a w e s => by
  simp only [chk, Bool.and_eq_true, decide_eq_true_eq, Bool.or_eq_true, List.all_eq_true, List.mem_range] at hc; obtain ⟨⟨hr, hd⟩, hc'⟩ := hc; have hmem : i ∈ Region.ready .any ops listed := by rw [hr]; simp
  refine ⟨fun h0 => (by rw [hr] at h0; cases h0), fun j hj => ?_⟩; rw [hr] at hj; have : j = i := by simpa using hj
  subst this; refine h (fun i' s' r' e' hlt => ?_) hc' (fun hmi j' hj' => ?_) ht (fun him => (hinv j false r rfl him).set hmem him) hwk a w e s
  · rcases hd with hd | hd
    · exact hd
    · have := hd.2 (i', s') (by rw [e']; simp)
      simp only at this
      omega
  · rcases hd with hd | hd
    · omega
    · exact getD_set_true (hd.1 j' hj')
theorem rk_fv {i : Nat} {oi : Oper} {v : Value} (hi : ops[i]? = some oi) (hw : wantK ops K oi.guard = some true) (hv : StepV P n w0 K HS oi v) (hf : fitsK n oi.dst = true)
    (k : RK P n w0 ops m Q r (listed.setIfInBounds i true) (putK oi.dst v K) HS HK) : RK P n w0 ops m Q ((i, false) :: r) listed K HS HK :=
  rk_only hi fun h1 h2 _ h4 h5 hwk a w e s => by
    have hy : YieldsIf P ops (Sat w0 HS) oi v a := .inl ⟨e.wanted hw, fun w s => hv a w e s⟩; exact hy.wpOp hi s ⟨fun _ => hwk.sat s, k hwk (fun i' s' r' e' hlt => h5 (h1 i' s' r' e' hlt)) h2 h4 _ _ (e.put v hf) s⟩
theorem rk_x {i : Nat} {oi : Oper} {T : Value → PH → Prop} (hi : ops[i]? = some oi) (hw : wantK ops K oi.guard = some true) (hx : StepX P n w0 K HS oi emp T) (hf : fitsK n oi.dst = true)
    (k : ∀ v h', T v h' → RK P n w0 ops m Q r (listed.setIfInBounds i true) (putK oi.dst v K) (h' :: HS) (h' :: HK)) : RK P n w0 ops m Q ((i, false) :: r) listed K HS HK :=
  rk_only hi fun h1 h2 _ h4 h5 hwk a w e s => by
    unfold wpOp
    simp only [hi]; rw [if_pos (e.wanted hw)]; refine .inl (Oper.wp_imp (hx a w e s) (fun a' w' ⟨v, h', ha, u, ht⟩ => ?_) (fun _ _ _ f => f.elim)); subst ha; exact ⟨fun _ => hwk.sat (s.same u), rany_mono (fun _ t => t.drop) _ _ _ _ (k v h' ht ⟨.inl rfl, hwk⟩ (fun i' s' r' e' hlt => h5 (h1 i' s' r' e' hlt)) h2 h4 _ _ (e.put v hf) (s.new u))⟩
/-- Ahead of the tail or in it: a part that nothing hoisted looks at is turned. -/
theorem rk_m {i : Nat} {oi : Oper} (p : Nat) {h : PH} {T : Value → PH → Prop} (hi : ops[i]? = some oi) (hb : HK[p]? = some emp) (hw : wantK ops K oi.guard = some true) (hp : HS[p]? = some h) (hx : StepX P n w0 K HS oi h T) (hf : fitsK n oi.dst = true)
    (k : ∀ v h', T v h' → RK P n w0 ops m Q r (listed.setIfInBounds i true) (putK oi.dst v K) (HS.set p h') HK) : RK P n w0 ops m Q ((i, false) :: r) listed K HS HK :=
  rk_only hi fun h1 h2 _ h4 h5 hwk a w e s => by
    unfold wpOp
    simp only [hi]; rw [if_pos (e.wanted hw)]; refine .inl (Oper.wp_imp (hx a w e s) (fun a' w' ⟨v, h', ha, u, ht⟩ => ?_) (fun _ _ _ f => f.elim)); subst ha; have hwk' : WkL (HS.set p h') HK := hwk.set hb; exact ⟨fun _ => hwk'.sat (s.upd hp u), k v h' ht hwk' (fun i' s' r' e' hlt => h5 (h1 i' s' r' e' hlt)) h2 h4 _ _ (e.put v hf) (s.upd hp u)⟩
/-- In the tail. -/
theorem rk_mt {i : Nat} {oi : Oper} (p : Nat) {h : PH} {T : Value → PH → Prop} (hi : ops[i]? = some oi) (hmi : decide (m ≤ i) = true) (hw : wantK ops K oi.guard = some true) (hp : HS[p]? = some h) (hx : StepX P n w0 K HS oi h T) (hf : fitsK n oi.dst = true)
    (k : ∀ v h', T v h' → RK P n w0 ops m Q r (listed.setIfInBounds i true) (putK oi.dst v K) (HS.set p h') (HS.set p h')) : RK P n w0 ops m Q ((i, false) :: r) listed K HS HK :=
  rk_only hi fun h1 h2 h3 h4 h5 _ a w e s => by
    unfold wpOp
    simp only [hi]; rw [if_pos (e.wanted hw)]; refine .inl (Oper.wp_imp (hx a w e s) (fun a' w' ⟨v, h', ha, u, ht⟩ => ?_) (fun _ _ _ f => f.elim)); subst ha; have hmi' := of_decide_eq_true hmi; exact ⟨fun hlt => absurd hlt (by omega), rany_tail _ _ _ _ (h3 hmi') (k v h' ht (WkL.refl _) (fun i' s' r' e' hlt => h5 (h1 i' s' r' e' hlt)) h2 h4 _ _ (e.put v hf) (s.upd hp u))⟩
end
end Go.Proofs.YtiefkcaplhnnmaaGreat
namespace Go.Proofs.YtiefkcaplhnnmaaGreat
set_option maxRecDepth 100000
open Go.RowKit
structure Stp where
  a : Int
  b : Int
def stepCells (ss : List Stp) : List Value := ss.flatMap fun s => [num s.a, num s.b]
theorem stepCells_len : ∀ ss : List Stp, (stepCells ss).length = ss.length * 2
  | [] => rfl
  | s :: r => by
    have := stepCells_len r; simp only [stepCells, List.flatMap_cons, List.length_append, List.length_cons, List.length_nil] at *
    omega
theorem stepCells_at : ∀ {ss : List Stp} {i : Nat} {s : Stp}, ss[i]? = some s → ((stepCells ss).drop (i * 2)).take 2 = [num s.a, num s.b]
  | [], i, s, h => by simp at h
  | u :: r, 0, s, h => by cases h; rfl
  | u :: r, i + 1, s, h => by
    have ih := stepCells_at (ss := r) (i := i) (s := s) (by simpa using h); rw [show (i + 1) * 2 = i * 2 + 1 + 1 by omega]; exact ih
theorem stepCells_append (a b : List Stp) : stepCells (a ++ b) = stepCells a ++ stepCells b := by simp [stepCells]
theorem stepCells_one (ss : List Stp) : ∀ v ∈ stepCells ss, v.oneCell' = true := fun v hv => by
  simp only [stepCells, List.mem_flatMap] at hv; obtain ⟨s, _, hv⟩ := hv
  simp at hv
  rcases hv with rfl | rfl <;> rfl
abbrev stepV (a b : Int) : Value := .agg [num a, num b].toArray
def StepsR (ss : List Stp) (v : Value) (h : PH) : Prop := RowR (stepCells ss) ss.length 2 v h
def StepsO (ss : List Stp) (v : Value) (h : PH) : Prop := RowO 114 (stepCells ss) ss.length 2 v h
theorem StepsR.mono {ss : List Stp} {v : Value} {h h' : PH} (r : StepsR ss v h) (l : PLe h h') : StepsR ss v h' := RowR.mono r l
theorem StepsO.toR {ss : List Stp} {v : Value} {h : PH} (r : StepsO ss v h) : StepsR ss v h := RowO.toR r
theorem StepsR.sl {ss : List Stp} {v : Value} {h : PH} (r : StepsR ss v h) : SlL v ss.length := RowR.sl r
theorem StepsR.le {ss : List Stp} {v : Value} {h : PH} (r : StepsR ss v h) : (ss.length : Int) ≤ 9223372036854775807 := by
  obtain ⟨_, a, c, _, ⟨h, _⟩, _⟩ := r
  unfold maxLen at h
  omega
theorem StepsR.at {ss : List Stp} {v : Value} {h : PH} (r : StepsR ss v h) : ∃ cells, RowR cells ss.length 2 v h ∧ ∀ i, i < ss.length → ∃ x, ss[i]? = some x ∧ (cells.drop (i * 2)).take 2 = [num x.a, num x.b] :=
  ⟨_, r, fun _ hi => ⟨_, List.getElem?_eq_getElem hi, stepCells_at (List.getElem?_eq_getElem hi)⟩⟩
theorem StepsO.nil : StepsO [] (.slice none 0 0) emp := ⟨rfl, .inl ⟨rfl, rfl, rfl⟩⟩
section
variable {P : Program} {n : Nat} {w0 : World} {K : Env} {HS : List PH} {d : Option Tmp} {ty : TypeId} {ps : String} {af : Array Edge} {g : Option (Nat × Bool)}
theorem m_appS {t : TypeId} {x y : Operand} {z : Value} {ss us : List Stp} {v u : Value} {h hy' : PH} (p q : Nat) (ht : P.underlying t = some (.slice 114)) (he : TyF P 114 z 2 16 true) (hz : z.cells = [num 0, num 0].toArray)
    (hx : ev K x = some v) (hy : ev K y = some u) (hp' : HS[p]? = some h) (r : StepsO ss v h) (hq : HS[q]? = some hy') (ru : StepsR us u hy') (h47 : ss.length + us.length ≤ 8796093022208) :
    StepX P n w0 K HS ⟨d, .call ⟨.builtin .append, #[x, y], #[t, t]⟩, ty, ps, af, g⟩ h (StepsO (ss ++ us)) := by
  have := m_append (P := P) (n := n) (w0 := w0) (HS := HS) (d := d) (ty := ty) (ps := ps) (af := af) (g := g) p q ht he hz rfl (by decide) hx hy hp' r hq ru (stepCells_one us) (by unfold maxLen; omega) (by omega)
  unfold StepsO
  rw [List.length_append, stepCells_append]; exact this
theorem v_nilCheck {x : Operand} {a : Addr} (hx : ev K x = some (.pointer (some a))) : StepV P n w0 K HS ⟨d, .nilCheck x, ty, ps, af, g⟩ (.pointer (some a)) := fun ac w e _ => by simp [execOp, e.ev hx]
end
structure Lv where
  n : Int
  l : List Int
def LvR (x : Lv) (cs : List Value) (h : PH) : Prop := ∃ v, cs = [num x.n, v] ∧ IntsR x.l v h
theorem LvR.mono {x : Lv} {cs : List Value} {h h' : PH} (r : LvR x cs h) (l : PLe h h') : LvR x cs h' := let ⟨v, e, r⟩ := r; ⟨v, e, r.mono l⟩
def LiveR (xs : List Lv) (v : Value) (h : PH) : Prop := RowsR 2 LvR xs v h
theorem LiveR.mono {xs : List Lv} {v : Value} {h h' : PH} (r : LiveR xs v h) (l : PLe h h') : LiveR xs v h' := RowsR.mono (R := LvR) LvR.mono r l
theorem LiveR.sl {xs : List Lv} {v : Value} {h : PH} (r : LiveR xs v h) : SlL v xs.length := RowsR.sl r
theorem LiveR.le {xs : List Lv} {v : Value} {h : PH} (r : LiveR xs v h) : (xs.length : Int) ≤ 9223372036854775807 := RowsR.le r
theorem LiveR.at {xs : List Lv} {v : Value} {h : PH} (r : LiveR xs v h) : ∃ cells, RowR cells xs.length 2 v h ∧ ∀ i, i < xs.length → ∃ x a, xs[i]? = some x ∧ (cells.drop (i * 2)).take 2 = [num x.n, a] ∧ IntsR x.l a h := by
  obtain ⟨cells, rr, hc⟩ := r; refine ⟨cells, rr, fun i hi => ?_⟩; have ht : xs[i]? = some xs[i] := List.getElem?_eq_getElem hi; obtain ⟨a, e, r1⟩ := hc i _ ht; exact ⟨_, a, ht, e, r1⟩
/-- The elements' cells, read in h. -/
def LvL (xs : List Lv) (cs : List Value) (h : PH) : Prop := cs.length = xs.length * 2 ∧ ∀ (i : Nat) (x : Lv), xs[i]? = some x → LvR x ((cs.drop (i * 2)).take 2) h
theorem LvL.nil (h : PH) : LvL [] [] h := ⟨rfl, fun i x e => by simp at e⟩
theorem LvL.mono {xs : List Lv} {cs : List Value} {h h' : PH} (r : LvL xs cs h) (l : PLe h h') : LvL xs cs h' := ⟨r.1, fun i x e => (r.2 i x e).mono l⟩
theorem LvL.snoc {xs : List Lv} {cs : List Value} {h : PH} (r : LvL xs cs h) {x : Lv} {a : Value} (r1 : IntsR x.l a h) : LvL (xs ++ [x]) (cs ++ [num x.n, a]) h := by
  refine ⟨by simp [r.1]; omega, fun i y e => ?_⟩
  by_cases hi : i < xs.length
  · rw [List.getElem?_append_left hi] at e; have := r.2 i y e; have e2 : ((cs ++ [num x.n, a]).drop (i * 2)).take 2 = (cs.drop (i * 2)).take 2 := by
      rw [List.drop_append, List.take_append]; have hl : 2 - (cs.drop (i * 2)).length = 0 := by simp [r.1]; omega
      rw [hl, List.take_zero, List.append_nil]
    rw [e2]; exact this
  · have hlt := (List.getElem?_eq_some_iff.1 e).1
    simp at hlt
    have : i = xs.length := by omega
    subst this; rw [List.getElem?_append_right (by omega)] at e
    simp at e
    subst e; have e2 : ((cs ++ [num x.n, a]).drop (xs.length * 2)).take 2 = [num x.n, a] := by
      rw [← r.1, List.drop_left]; rfl
    rw [e2]; exact ⟨a, rfl, r1⟩
theorem LvL.live {xs : List Lv} {cs : List Value} {v : Value} {h : PH} (r : LvL xs cs h) (rr : RowR cs xs.length 2 v h) : LiveR xs v h := ⟨cs, rr, r.2⟩
def joinI (a b : List Int) : List Int := a ++ b.filter fun x => decide (x ∉ a)
structure Sh where
  all : List (List Int)
  gone : List Bool
def Sh.lab (s : Sh) (i : Nat) : List Int := s.all.getD i []
def Sh.ok (s : Sh) : Prop := s.gone.length = s.all.length
def Sh.live (s : Sh) (a : Int) : Prop := 0 ≤ a ∧ a < s.all.length ∧ s.gone.getD a.toNat false = false
def Sh.ixs (s : Sh) : List Nat := (List.range s.all.length).filter fun i => !s.gone.getD i false
def Sh.lv (s : Sh) : List Lv := s.ixs.map fun (i : Nat) => ⟨i, s.lab i⟩
def Sh.kept (op : List Int) (s : Sh) (a b : Nat) (x : Int) : Prop := x ∈ op ∨ ∃ i ∈ s.ixs, i ≠ a ∧ i ≠ b ∧ x ∈ s.lab i
open Classical in
noncomputable def Sh.res (op : List Int) (s : Sh) (a b : Nat) : List Int := (joinI (s.lab a) (s.lab b)).filter fun x => decide (s.kept op a b x)
noncomputable def Sh.step (op : List Int) (s : Sh) (a b : Nat) : Sh := ⟨s.all ++ [s.res op a b], ((s.gone.set a true).set b true) ++ [false]⟩
theorem Sh.step_ok {op : List Int} {s : Sh} (h : s.ok) (a b : Nat) : (s.step op a b).ok := by simp only [Sh.ok, Sh.step, List.length_append, List.length_set] at *; simp [h]
theorem ixs_nodup (s : Sh) : s.ixs.Nodup := List.Pairwise.filter _ List.nodup_range
theorem mem_ixs {s : Sh} {i : Nat} : i ∈ s.ixs ↔ i < s.all.length ∧ s.gone.getD i false = false := by simp [Sh.ixs]
theorem live_ixs {s : Sh} {a : Int} : s.live a ↔ 0 ≤ a ∧ a.toNat ∈ s.ixs := by
  rw [mem_ixs]
  unfold Sh.live
  constructor
  · rintro ⟨h1, h2, h3⟩; exact ⟨h1, by omega, h3⟩
  · rintro ⟨h1, h2, h3⟩; exact ⟨h1, by omega, h3⟩
theorem lv_len (s : Sh) : s.lv.length = s.ixs.length := by simp [Sh.lv]
theorem lv_get {s : Sh} {k : Nat} {x : Lv} (h : s.lv[k]? = some x) : ∃ i, s.ixs[k]? = some i ∧ x = ⟨i, s.lab i⟩ := by
  simp only [Sh.lv, List.getElem?_map, Option.map_eq_some_iff] at h; obtain ⟨i, h1, h2⟩ := h; exact ⟨i, h1, h2.symm⟩
theorem ixs_inj {s : Sh} {k j i : Nat} (h : s.ixs[k]? = some i) (h' : s.ixs[j]? = some i) : k = j := by
  have hk := (List.getElem?_eq_some_iff.1 h).1; exact (List.getElem?_inj hk (ixs_nodup s)).1 (h.trans h'.symm)
/-- The place of a number among what is live. -/
def Sh.place (s : Sh) (a : Int) : Int := findI (s.ixs.map Int.ofNat) a
theorem place_ge {s : Sh} {a : Int} : 0 ≤ s.place a ↔ s.live a := by
  rw [Sh.place, findI_ge, live_ixs, List.mem_map]
  constructor
  · rintro ⟨i, hi, rfl⟩; exact ⟨Int.natCast_nonneg i, by simpa using hi⟩
  · rintro ⟨h1, h2⟩; exact ⟨_, h2, show ((a.toNat : Nat) : Int) = a by omega⟩
theorem place_at {s : Sh} {a : Int} (h : s.live a) : s.ixs[(s.place a).toNat]? = some a.toNat ∧ (s.place a).toNat < s.ixs.length := by
  have hm : a ∈ s.ixs.map Int.ofNat := findI_ge.1 (place_ge.2 h); have hg := findI_get hm; rw [List.length_map] at hg; refine ⟨?_, hg.1⟩; have h2 := hg.2; have hk : (findI (s.ixs.map Int.ofNat) a).toNat < s.ixs.length := hg.1; simp only [List.getD, List.getElem?_map, List.getElem?_eq_getElem hk, Option.map_some, Option.getD_some] at h2; rw [Sh.place, List.getElem?_eq_getElem hk]
  congr 1
  have h3 : ((s.ixs[(findI (s.ixs.map Int.ofNat) a).toNat] : Nat) : Int) = a := h2
  omega
/-- What is live besides the places p and q, of the first k. -/
def dropTo (lv : List Lv) (p q : Nat) : Nat → List Lv
  | 0 => []
  | k + 1 => if k ≠ p ∧ k ≠ q then dropTo lv p q k ++ (lv[k]?).toList else dropTo lv p q k
theorem dropTo_lv {s : Sh} {p q a b : Nat} (hp : s.ixs[p]? = some a) (hq : s.ixs[q]? = some b) : ∀ k, k ≤ s.ixs.length → dropTo s.lv p q k = ((s.ixs.take k).filter fun i => decide (i ≠ a ∧ i ≠ b)).map fun (i : Nat) => ⟨i, s.lab i⟩
  | 0, _ => by simp [dropTo]
  | k + 1, hk => by
    have ih := dropTo_lv hp hq k (by omega); have hi : s.ixs[k]? = some s.ixs[k] := List.getElem?_eq_getElem (by omega); have e1 : k = p ↔ s.ixs[k] = a := ⟨fun e => by subst e; rw [hi] at hp; exact Option.some.inj hp, fun e => ixs_inj (e ▸ hi) hp⟩
    have e2 : k = q ↔ s.ixs[k] = b := ⟨fun e => by subst e; rw [hi] at hq; exact Option.some.inj hq, fun e => ixs_inj (e ▸ hi) hq⟩
    rw [List.take_succ_eq_append_getElem (by omega), List.filter_append, List.map_append, dropTo, ih]; have hl : s.lv[k]? = some ⟨s.ixs[k], s.lab s.ixs[k]⟩ := by rw [Sh.lv, List.getElem?_map, hi]; rfl
    rw [hl]
    by_cases hc : k ≠ p ∧ k ≠ q
    · have : s.ixs[k] ≠ a ∧ s.ixs[k] ≠ b := ⟨fun e => hc.1 (e1.2 e), fun e => hc.2 (e2.2 e)⟩
      rw [if_pos hc]
      simp [this]
    · have : ¬ (s.ixs[k] ≠ a ∧ s.ixs[k] ≠ b) := fun e => hc ⟨fun e' => e.1 (e1.1 e'), fun e' => e.2 (e2.1 e')⟩; rw [if_neg hc]
      simp [this]
theorem getD_append_left {α : Type} {l r : List α} {i : Nat} {d : α} (h : i < l.length) : (l ++ r).getD i d = l.getD i d := by simp [List.getD, List.getElem?_append_left h]
theorem step_ixs {op : List Int} {s : Sh} (h : s.ok) {a b : Nat} : (s.step op a b).ixs = (s.ixs.filter fun i => decide (i ≠ a ∧ i ≠ b)) ++ [s.all.length] := by
  have hl : (s.step op a b).all.length = s.all.length + 1 := by simp [Sh.step]
  have hg : (s.step op a b).gone.getD s.all.length false = false := by
    have : ((s.gone.set a true).set b true).length = s.all.length := by simpa [Sh.ok] using h
    simp only [Sh.step, List.getD]; rw [List.getElem?_append_right (by omega), this]
    simp
  unfold Sh.ixs
  rw [hl, List.range_succ, List.filter_append, List.filter_filter]
  congr 1
  · apply List.filter_congr
    intro i hi; have hi' : i < s.all.length := by simpa using hi
    have e : (s.step op a b).gone.getD i false = if i = a ∨ i = b then true else s.gone.getD i false := by
      have hlen : i < s.gone.length := by rw [h]; exact hi'
      rw [Sh.step, getD_append_left (by simpa using hlen)]; simp only [List.getD, List.getElem?_set, List.length_set]
      by_cases e1 : b = i
      · subst e1; simp [hlen]
      · by_cases e2 : a = i
        · subst e2; simp [hlen, e1]
        · simp [e1, e2, Ne.symm e1, Ne.symm e2]
    rw [e]
    by_cases hc : i = a ∨ i = b
    · rw [if_pos hc]; rcases hc with rfl | rfl <;> simp
    · rw [if_neg hc]; have : i ≠ a ∧ i ≠ b := ⟨fun e => hc (.inl e), fun e => hc (.inr e)⟩
      simp [this]
  · rw [List.filter_cons_of_pos (by rw [hg]; rfl)]; rfl
theorem step_lab {op : List Int} {s : Sh} {a b i : Nat} (hi : i < s.all.length) : (s.step op a b).lab i = s.lab i := by rw [Sh.lab, Sh.step, getD_append_left hi]; rfl
theorem step_lab_new {op : List Int} {s : Sh} {a b : Nat} : (s.step op a b).lab s.all.length = s.res op a b := by simp [Sh.lab, Sh.step, List.getD]
/-- The program's list of what is live, behind a step. -/
theorem step_lv {op : List Int} {s : Sh} (h : s.ok) {p q a b : Nat} (hp : s.ixs[p]? = some a) (hq : s.ixs[q]? = some b) : (s.step op a b).lv = dropTo s.lv p q s.lv.length ++ [⟨(s.all.length : Nat), s.res op a b⟩] := by
  rw [lv_len, dropTo_lv hp hq _ (Nat.le_refl _), List.take_length, Sh.lv, step_ixs h, List.map_append]
  congr 1
  · refine List.map_congr_left fun i hi => ?_; have := (mem_ixs.1 (List.mem_filter.1 hi).1).1; rw [step_lab this]
  · simp [step_lab_new]
/-- In terms of places. -/
theorem kept_places {op : List Int} {s : Sh} {p q a b : Nat} (hp : s.ixs[p]? = some a) (hq : s.ixs[q]? = some b) (x : Int) : s.kept op a b x ↔ x ∈ op ∨ ∃ k, k < s.lv.length ∧ k ≠ p ∧ k ≠ q ∧ ∃ y, s.lv[k]? = some y ∧ x ∈ y.l := by
  unfold Sh.kept
  refine or_congr Iff.rfl ⟨?_, ?_⟩
  · rintro ⟨i, hi, h1, h2, h3⟩; obtain ⟨k, hk⟩ := List.getElem?_of_mem hi; refine ⟨k, by rw [lv_len]; exact (List.getElem?_eq_some_iff.1 hk).1, ?_, ?_, ⟨i, s.lab i⟩, by rw [Sh.lv, List.getElem?_map, hk]; rfl, h3⟩
    · rintro rfl; rw [hk] at hp; exact h1 (Option.some.inj hp)
    · rintro rfl; rw [hk] at hq; exact h2 (Option.some.inj hq)
  · rintro ⟨k, hk, h1, h2, y, hy, h3⟩; obtain ⟨i, hi, rfl⟩ := lv_get hy; exact ⟨i, List.mem_of_getElem? hi, fun e => h1 (ixs_inj (e ▸ hi) hp), fun e => h2 (ixs_inj (e ▸ hi) hq), h3⟩
end Go.Proofs.YtiefkcaplhnnmaaGreat
namespace Go.Proofs.YtiefkcaplhnnmaaGreat
set_option maxRecDepth 100000
open Go.RowKit
def bplaces (P : Program) (t : TypeId) : Option (Array Value × List (Nat × Nat)) :=
  match P.info? t, P.underlying t with
  | some it, some (.struct fields) =>
    match it.zero, fields.toList.mapM (fun f => (P.info? f.type).map fun i => (f.offset, i.size)) with
    | some z, some places => some (z.cells, places)
    | _, _ => none
  | _, _ => none
theorem built_of {P : Program} {t : TypeId} {z : Array Value} {places : List (Nat × Nat)} (h : bplaces P t = some (z, places)) (parts : List (Nat × Value)) : P.built t parts = Instr.fill (places.toArray[·]?) z parts := by
  unfold bplaces at h
  unfold Program.built
  cases hi : P.info? t with
  | none => simp [hi] at h
  | some it =>
    cases hu : P.underlying t with
    | none => simp [hi, hu] at h
    | some d =>
      cases d <;> simp only [hi, hu] at h ⊢ <;> try (cases h; done)
      split at h
      · rename_i z' places' e1 e2
        simp only [Option.some.injEq, Prod.mk.injEq] at h; obtain ⟨rfl, rfl⟩ := h; simp only [e1, e2]
      · cases h
theorem fill_at {place : Nat → Option (Nat × Nat)} {A us B cs : List Value} {i off sz : Nat} {v : Value} {rest : List (Nat × Value)} (hp : place i = some (off, sz)) (hv : v.cells = us.toArray) (hu : us.length = sz) (ha : A.length = off) (hc : cs.length = sz) :
    Instr.fill place (A ++ cs ++ B).toArray ((i, v) :: rest) = Instr.fill place (A ++ us ++ B).toArray rest := by
  simp only [Instr.fill, hp, hv]; rw [if_neg (by simp; omega)]
  congr 1
  have hs := Great.foldl_set off us 0 (A ++ cs ++ B).toArray; rw [← Array.foldl_toList, Array.toList_zipIdx]
  apply Array.ext_getElem?
  intro k; rw [hs.2 k]; simp only [Nat.add_zero, List.size_toArray, List.getElem?_toArray, List.length_append]; subst ha
  by_cases h1 : k < A.length
  · rw [if_neg (by omega), List.append_assoc, List.append_assoc, List.getElem?_append_left h1, List.getElem?_append_left h1]
  · by_cases h2 : k < A.length + us.length
    · rw [if_pos (by omega), List.append_assoc, List.getElem?_append_right (by omega), List.getElem?_append_left (by omega)]
    · rw [if_neg (by omega), List.append_assoc, List.append_assoc, List.getElem?_append_right (by omega), List.getElem?_append_right (by omega), List.getElem?_append_right (by omega), List.getElem?_append_right (by omega)]
      congr 1
      omega
abbrev stCells (arr : List Int) (vo lvv : Value) (nx : Int) : List Value := ints arr ++ [vo, lvv, num nx]
theorem pre_get {xs : List Int} {cs : List Value} {u : Value} (h : xs.length = 100) (j : Nat) (hj : cs[j]? = some u) : (ints xs ++ cs)[100 + j]? = some u := by
  rw [List.getElem?_append_right (by rw [ints_length]; omega), ints_length, h, Nat.add_sub_cancel_left]; exact hj
theorem pre_set {xs : List Int} {cs : List Value} {u : Value} (h : xs.length = 100) (j : Nat) : (ints xs ++ cs).set (100 + j) u = ints xs ++ cs.set j u := by
  rw [List.set_append_right _ _ (by rw [ints_length]; omega), ints_length, h, Nat.add_sub_cancel_left]
section
variable {P : Program} {n : Nat} {w0 : World} {K : Env} {HS : List PH} {d : Option Tmp} {ty : TypeId} {ps : String} {af : Array Edge} {g : Option (Nat × Bool)}
end
abbrev ptrV (b : Nat) : Value := .pointer (some ⟨b, 0, none⟩)
/-- The state as it is read. -/
structure StR (arr : List Int) (vo lvv : Value) (s : Sh) (b : Nat) (h : PH) : Prop where
  len : arr.length = 100
  ok : s.ok
  cells : ∀ (j : Nat) (u : Value), (stCells arr vo lvv s.all.length)[j]? = some u → cellP h b j = some u
  live : LiveR s.lv lvv h
theorem StR.mono {arr : List Int} {vo lvv : Value} {s : Sh} {b : Nat} {h h' : PH} (r : StR arr vo lvv s b h) (l : PLe h h') : StR arr vo lvv s b h' := ⟨r.len, r.ok, fun j u e => cellP.mono l (r.cells j u e), r.live.mono l⟩
theorem StR.c100 {arr : List Int} {vo lvv : Value} {s : Sh} {b : Nat} {h : PH} (r : StR arr vo lvv s b h) : cellP h b 100 = some vo := r.cells 100 _ (pre_get r.len 0 rfl)
theorem StR.c101 {arr : List Int} {vo lvv : Value} {s : Sh} {b : Nat} {h : PH} (r : StR arr vo lvv s b h) : cellP h b 101 = some lvv := r.cells 101 _ (pre_get r.len 1 rfl)
theorem StR.arr {arr : List Int} {vo lvv : Value} {s : Sh} {b : Nat} {h : PH} (r : StR arr vo lvv s b h) : (ints arr).length = 100 ∧ ∀ (j : Nat) (u : Value), (ints arr)[j]? = some u → cellP h b (0 + 0 + j) = some u :=
  ⟨by rw [ints_length]; exact r.len, fun j u e => by
    rw [show 0 + 0 + j = j by omega]; refine r.cells j u ?_; rw [List.getElem?_append_left (List.getElem?_eq_some_iff.1 e).1]; exact e⟩
/-- The state that a call has for its own; 'hs' is what its slices lie in. -/
def StO (arr : List Int) (vo : Value) (s : Sh) (b : Nat) (h : PH) : Prop := arr.length = 100 ∧ s.ok ∧ ∃ lvv hs, LiveR s.lv lvv hs ∧ Made h [box b (stCells arr vo lvv s.all.length) 144, hs]
theorem StR.box {arr : List Int} {vo lvv : Value} {s : Sh} {b : Nat} {h : PH} (hl : arr.length = 100) (hok : s.ok) (hb : PLe (box b (stCells arr vo lvv s.all.length) 144) h) (r : LiveR s.lv lvv h) : StR arr vo lvv s b h :=
  ⟨hl, hok, fun j u e => cellP.mono hb (by rw [cellP_box]; exact e), r⟩
theorem StO.toR {arr : List Int} {vo : Value} {s : Sh} {b : Nat} {h : PH} (r : StO arr vo s b h) : ∃ lvv, StR arr vo lvv s b h := by
  obtain ⟨h1, h2, lvv, hs, h3, md⟩ := r; exact ⟨lvv, StR.box h1 h2 (md.le _ (by simp)) (h3.mono (md.le hs (by simp)))⟩
theorem ct_i_place (arr : List Int) (vo lvv : Value) (s : Sh) (b : Nat) (n : Int) (w : World) (r : StR arr vo lvv s b (hp w)) :
    Calls Tryz.prog 117 [.pointer (some ⟨b, 0, none⟩), num n].toArray w (RetV w (num (s.place n))) := by
  have rl := r.live; refine calls_in Tryz.func117 rfl Tryz.ntmps117 rfl (Sat.start w) ?_; have hle0 := rl.le; obtain ⟨cs_rl, rr_rl, hc_rl⟩ := rl.at; refine wp_sc (wp_sq (sq_v rfl (v_assign rfl) rfl (sq_end (qs_n (wp_sc (wp_sc (wp_sq (sq_v rfl (v_move rfl) rfl (sq_v rfl (v_nilCheck rfl) rfl (sq_v rfl (v_fieldAddr fd_144_2 ty_142 (by decide) rfl) rfl (sq_v rfl (v_load 0 ty_142 rfl rfl r.c101) rfl (sq_v rfl (v_len Tryz.underlying142 rfl rl.sl) rfl (sq_v rfl (v_move rfl) rfl (sq_end (qs_n (wp_bl ?_)))))))))))))))); refine wp_lp (σ := Nat) (fun z_ => [(1, num n), (4, num 0), (10, lvv), (11, num s.lv.length), (12, num z_)]) (fun z_ => [hp w]) (fun z_ => z_ ≤ s.lv.length ∧ (∀ j, j < z_ → (s.ixs.map Int.ofNat).getD j 0 ≠ n)) (fun z_ => s.lv.length - z_) 0 (⟨by omega, fun j hj => by omega⟩) ⟨rfl, rfl, rfl, rfl, (by first | rfl | exact ksub rfl (by first | omega | (simp; done) | (simp; omega))), trivial⟩ (fun _ s => s) ?_; rintro i ⟨hi, hn⟩; have hll := lv_len s; refine wp_sc (wp_sq (sq_v rfl (v_lss rfl rfl) rfl (sq_end (qs_n (wp_sc ?_))))); refine wp_cd rfl (fun c13 => ?_) (fun c13 => ?_)
  · refine wp_sk (qs_n (wp_sc (wp_bl (wp_sc (wp_sq (sq_v rfl (v_move rfl) rfl ?_)))))); obtain ⟨x15, a15, hx15, hcs15, rl15⟩ := hc_rl (i) (by first | omega | (rw [List.length_set]; omega)); refine sq_v rfl (v_indexAddr Tryz.underlying142 ty_146 rfl rfl rr_rl (by decide) (by omega) (by omega)) rfl ?_; refine sq_v rfl (v_loadNE 0 ty_146 rfl rfl rr_rl (by have := rr_rl.1; omega) rfl hcs15) rfl ?_; refine sq_x rfl (x_alloc ty_146 rfl) rfl ?_; rintro _ _ ⟨b6, rfl, rfl⟩; refine sq_v rfl (v_assign rfl) rfl ?_; refine sq_m 0 rfl rfl (m_store 0 ty_146 rfl rfl rfl rfl (by simp [one_int, rl15.sl.one]) rfl (Nat.le_of_ble_eq_true rfl)) rfl ?_; rintro _ _ ⟨rfl, rfl⟩; refine sq_end ?_; obtain ⟨ix, hix, ex⟩ := lv_get hx15; subst ex; have hmg : (s.ixs.map Int.ofNat).getD i 0 = ix := by simp [List.getD, hix]
    refine qs_n (wp_sc (wp_sq (sq_v rfl (v_fieldAddr fd_146_0 ty_3 (by decide) rfl) rfl (sq_v rfl (v_loadB 0 ty_3 rfl rfl rfl) rfl (sq_v rfl (v_move rfl) rfl (sq_v rfl (v_eql rfl rfl) rfl (sq_end (qs_n ?_)))))))); refine wp_cd rfl (fun c20 => ?_) (fun c20 => ?_)
    · refine wp_sc (wp_sq (sq_v rfl (v_move rfl) rfl (sq_v rfl (v_assign rfl) rfl (sq_end (qs_n (wp_rt (qs_br (qs_r (qs_r (qs_br (qs_r ?_))))))))))); exact qs_ret1 rfl rfl (fin_q (i := 1) rfl (by rw [Sh.place, idx_first hn (by rw [List.length_map]; omega) (by rw [hmg]; exact c20)]))
    · refine wp_sk (qs_bn (qs_n (wp_sq ?_))); refine sq_v rfl (v_add rfl rfl ((by unfold I64; omega))) rfl ?_; refine sq_v rfl (v_move rfl) rfl (sq_end ?_); exact qs_bk (i + 1) ⟨by omega, step_all hn (by rw [hmg]; exact c20)⟩ (by omega) ⟨rfl, rfl, rfl, rfl, (by first | rfl | exact ksub rfl (by first | omega | (simp; done) | (simp; omega))), trivial⟩ (fun _ s => s.pick [1] (by decide) rfl)
  · refine wp_ex (qs_x (qs_x (qs_bx (qs_n (wp_sc (wp_sq (sq_v rfl (v_assign rfl) rfl (sq_end (qs_n (wp_rt ?_)))))))))); exact qs_ret1 rfl rfl (fin_q (i := 0) rfl (by rw [Sh.place, findI_none (not_mem_of (fun j hj => hn j (by rw [List.length_map] at hj; omega)))]))
end Go.Proofs.YtiefkcaplhnnmaaGreat
