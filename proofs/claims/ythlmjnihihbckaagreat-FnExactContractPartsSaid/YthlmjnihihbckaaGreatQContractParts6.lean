/-
  Parts of the proof of FnExactContractParts: laws of heaps, contracts of functions.
  Conditions: none.
-/
import Derived.Test.YthlmjnihihbckaaGreatQContractParts5
namespace Go.Proofs.YthlmjnihihbckaaGreat
set_option maxRecDepth 100000
open Go.RowKit
theorem dotTo_cons (a b : Int) (xs ys : List Int) : ∀ m, dotTo (a :: xs) (b :: ys) (m + 1) = a * b + dotTo xs ys m
  | 0 => by simp [dotTo]
  | m + 1 => by
    have ih := dotTo_cons a b xs ys m; rw [dotTo, ih, dotTo]; simp only [List.getD_cons_succ]
    omega
theorem dotL_cons (a b : Int) (xs ys : List Int) : dotL (a :: xs) (b :: ys) = a * b + dotL xs ys := by
  unfold dotL
  rw [List.length_cons, dotTo_cons]
theorem steps_skip {labels ls ds : List Int} {l d : Int} (h : l ∉ labels) : stepsL labels (l :: ls) (d :: ds) = stepsL labels ls ds :=
  List.map_congr_left fun x hx => by simp only [strOf]; rw [if_neg (fun e => h (by rw [← e]; exact hx))]
theorem sl_full : ∀ {ls ds is : List Int}, ls.Nodup → ls.length = ds.length → is.length = ls.length → dotL (stepsL ls ls ds) is = offL ds is
  | [], [], [], _, _, _ => by simp [dotL, stepsL, dotTo, offL]
  | l :: ls, d :: ds, i :: is, hn, hl, hi => by
    have hn' := List.nodup_cons.1 hn; have ih := sl_full (ls := ls) (ds := ds) (is := is) hn'.2 (by simpa using hl) (by simpa using hi); have e : stepsL (l :: ls) (l :: ls) (d :: ds) = prodI ds :: stepsL ls ls ds := by
      rw [← steps_skip (l := l) (d := d) hn'.1]
      simp [stepsL, strOf]
    rw [e, dotL_cons, ih, offL, Int.mul_comm]
  | [], _ :: _, _, _, hl, _ => by simp at hl
  | _ :: _, [], _, _, hl, _ => by simp at hl
  | [], [], _ :: _, _, _, hi => by simp at hi
  | _ :: _, _ :: _, [], _, _, hi => by simp at hi
theorem sl_dot : ∀ {ls ds is : List Int} {j : Nat} (v : Int), ls.Nodup → ls.length = ds.length → j < ls.length → is.length + 1 = ls.length → v * strOf ls ds (ls.getD j 0) + dotL (stepsL (ls.eraseIdx j) ls ds) is = offL ds (is.insertIdx j v)
  | l :: ls, d :: ds, is, 0, v, hn, hl, _, hi => by
    have hn' := List.nodup_cons.1 hn; have h := sl_full (ls := ls) (ds := ds) (is := is) hn'.2 (by simpa using hl) (by simpa using hi); rw [List.eraseIdx_zero, List.tail_cons, steps_skip hn'.1, h]
    simp [strOf, offL]
  | l :: ls, d :: ds, i :: is, j + 1, v, hn, hl, hj, hi => by
    have hn' := List.nodup_cons.1 hn; have hj' : j < ls.length := by simpa using hj
    have ih := sl_dot (ls := ls) (ds := ds) (is := is) (j := j) v hn'.2 (by simpa using hl) hj' (by simpa using hi); have hne : ls.getD j 0 ≠ l := fun e => hn'.1 (e ▸ mem_getD hj'); have hm : l ∉ ls.eraseIdx j := fun h => hn'.1 (List.mem_of_mem_eraseIdx h); have e : stepsL (l :: ls.eraseIdx j) (l :: ls) (d :: ds) = prodI ds :: stepsL (ls.eraseIdx j) ls ds := by
      rw [← steps_skip (l := l) (d := d) hm]
      simp [stepsL, strOf]
    rw [List.eraseIdx_cons_succ, e, dotL_cons, List.insertIdx_succ_cons, offL, ← ih, List.getD_cons_succ]; simp only [strOf]; rw [if_neg hne, Int.mul_comm (prodI ds)]
    omega
  | [], _, _, _, _, _, _, hj, _ => by simp at hj
  | _ :: _, [], _, _, _, _, hl, _, _ => by simp at hl
  | l :: ls, _ :: _, [], j + 1, _, _, _, hj, hi => by
    have h1 : (l :: ls).length = ls.length + 1 := rfl; have h2 : ([] : List Int).length = 0 := rfl
    omega
theorem idxL_cons (d : Int) (ds : List Int) (n : Int) : idxL (d :: ds) n = (n / prodI ds % d) :: idxL ds n := by
  unfold idxL
  rw [List.length_cons, List.range_succ_eq_map, List.map_cons, List.map_map]
  rfl
theorem idxL_shift : ∀ {ds : List Int} (_ : ∀ d ∈ ds, 1 ≤ d) (q m : Int), idxL ds (q * prodI ds + m) = idxL ds m
  | [], _, q, m => rfl
  | d :: ds, hd, q, m => by
    have h1 := prodI_one (ds := ds) fun x hx => hd x (by simp [hx]); have hd1 := hd d (by simp); have ih := idxL_shift (ds := ds) (fun x hx => hd x (by simp [hx])) (q * d) m; have e : q * prodI (d :: ds) + m = q * d * prodI ds + m := by rw [prodI_cons, Int.mul_assoc]
    rw [e, idxL_cons, idxL_cons, ih]
    congr 1
    rw [Int.add_comm, Int.add_mul_ediv_right _ _ (by omega), Int.add_mul_emod_self_right]
theorem range_blocks (b : Nat) : ∀ a : Nat, List.range (a * b) = (List.range a).flatMap fun q => (List.range b).map fun r => q * b + r
  | 0 => by simp
  | a + 1 => by
    rw [Nat.add_mul, Nat.one_mul, List.range_add, range_blocks b a, List.range_succ, List.flatMap_append]
    simp
theorem one_block {α : Type} (g : Nat → List α) {v : Nat} : ∀ {a : Nat}, v < a → (List.range a).flatMap (fun q => if q = v then g q else []) = g v
  | 0, h => by omega
  | a + 1, h => by
    rw [List.range_succ, List.flatMap_append]
    by_cases e : a = v
    · subst e; have h0 : (List.range a).flatMap (fun q => if q = a then g q else []) = [] := List.flatMap_eq_nil_iff.2 fun q hq => by
        have := List.mem_range.1 hq; rw [if_neg (by omega)]
      rw [h0]; simp
    · rw [one_block g (show v < a by omega)]; simp [e]
theorem flatMap_congr' {α β : Type} {l : List α} {f g : α → List β} (h : ∀ x ∈ l, f x = g x) : l.flatMap f = l.flatMap g := by
  induction l with
  | nil => rfl
  | cons x l ih => rw [List.flatMap_cons, List.flatMap_cons, h x (by simp), ih fun y hy => h y (by simp [hy])]
theorem filter_flatMap {α β : Type} (p : β → Bool) (f : α → List β) (l : List α) : (l.flatMap f).filter p = l.flatMap fun x => (f x).filter p := by
  induction l with
  | nil => rfl
  | cons x l ih => rw [List.flatMap_cons, List.flatMap_cons, List.filter_append, ih]
theorem map_flatMap' {α β γ : Type} (g : β → γ) (f : α → List β) (l : List α) : (l.flatMap f).map g = l.flatMap fun x => (f x).map g := by
  induction l with
  | nil => rfl
  | cons x l ih => rw [List.flatMap_cons, List.flatMap_cons, List.map_append, ih]
def slHas (ds : List Int) (j : Nat) (v : Int) (n : Nat) : Bool := decide ((idxL ds n).getD j 0 = v)
def slTo (ds : List Int) (j : Nat) (v : Int) (m : Nat) : List Nat := (List.range m).filter (slHas ds j v)
def slAt (ds : List Int) (j : Nat) (v : Int) (m : Nat) : Nat := (offL ds ((idxL (ds.eraseIdx j) m).insertIdx j v)).toNat
theorem ins_in {ds is : List Int} {j : Nat} {v : Int} (hj : j < ds.length) (hv : 0 ≤ v ∧ v < ds.getD j 0) (h : idxIn (ds.eraseIdx j) is) : idxIn ds (is.insertIdx j v) := by
  have hl := h.1; rw [List.length_eraseIdx_of_lt hj] at hl; refine ⟨by rw [List.length_insertIdx_of_le_length (by omega)]; omega, fun i hi => ?_⟩
  rcases Nat.lt_trichotomy i j with c | c | c
  · have e1 : (is.insertIdx j v).getD i 0 = is.getD i 0 := by simp only [List.getD]; rw [List.getElem?_insertIdx_of_lt c]
    have e2 : (ds.eraseIdx j).getD i 0 = ds.getD i 0 := by simp only [List.getD]; rw [List.getElem?_eraseIdx_of_lt c]
    have := h.2 i (by rw [List.length_eraseIdx_of_lt hj]; omega); rw [e1, ← e2]; exact this
  · subst c; have e1 : (is.insertIdx i v).getD i 0 = v := by simp only [List.getD]; rw [List.getElem?_insertIdx_self, if_pos (by omega)]; rfl
    rw [e1]; exact hv
  · have e1 : (is.insertIdx j v).getD i 0 = is.getD (i - 1) 0 := by simp only [List.getD]; rw [List.getElem?_insertIdx_of_gt c]
    have e2 : (ds.eraseIdx j).getD (i - 1) 0 = ds.getD i 0 := by
      simp only [List.getD]; rw [List.getElem?_eraseIdx_of_ge (by omega), show i - 1 + 1 = i by omega]
    have := h.2 (i - 1) (by rw [List.length_eraseIdx_of_lt hj]; omega); rw [e1, ← e2]; exact this
theorem erase_mem {ds : List Int} {j : Nat} {p : Int → Prop} (h : ∀ d ∈ ds, p d) : ∀ d ∈ ds.eraseIdx j, p d := fun d hd => h d (List.mem_of_mem_eraseIdx hd)
theorem sl_in {ds : List Int} (hd : ∀ d ∈ ds, 1 ≤ d) {j : Nat} (hj : j < ds.length) {v : Int} (hv : 0 ≤ v ∧ v < ds.getD j 0) (m : Int) : 0 ≤ offL ds ((idxL (ds.eraseIdx j) m).insertIdx j v) ∧ offL ds ((idxL (ds.eraseIdx j) m).insertIdx j v) ≤ prodI ds - 1 :=
  offL_in hd (ins_in hj hv (idxL_in (erase_mem hd) m))
theorem sl_eq : ∀ {ds : List Int} (_ : ∀ d ∈ ds, 1 ≤ d) {j : Nat} (_ : j < ds.length) {v : Int} (_ : 0 ≤ v ∧ v < ds.getD j 0), slTo ds j v (prodI ds).toNat = (List.range (prodI (ds.eraseIdx j)).toNat).map (slAt ds j v)
  | [], _, j, hj, _, _ => by simp at hj
  | d :: ds, hd, 0, _, v, hv => by
    have hd' : ∀ x ∈ ds, 1 ≤ x := fun x hx => hd x (by simp [hx]); have hd1 := hd d (by simp); have hP := prodI_one hd'; have hv' : 0 ≤ v ∧ v < d := by simpa using hv
    have eP : (prodI (d :: ds)).toNat = d.toNat * (prodI ds).toNat := by rw [prodI_cons, Int.toNat_mul (by omega) (by omega)]
    rw [slTo, eP, range_blocks, filter_flatMap, List.eraseIdx_zero, List.tail_cons]; have e : ∀ q ∈ List.range d.toNat, ((List.range (prodI ds).toNat).map fun r => q * (prodI ds).toNat + r).filter (slHas (d :: ds) 0 v) = if q = v.toNat then (List.range (prodI ds).toNat).map fun r => q * (prodI ds).toNat + r else [] := fun q hq => by
      have hq' := List.mem_range.1 hq; have hdig : ∀ r, r < (prodI ds).toNat → slHas (d :: ds) 0 v (q * (prodI ds).toNat + r) = decide (q = v.toNat) := fun r hr => by
        unfold slHas
        rw [idxL_cons]; have e1 : ((q * (prodI ds).toNat + r : Nat) : Int) = r + q * prodI ds := by
          rw [Int.natCast_add, Int.natCast_mul, show (((prodI ds).toNat : Nat) : Int) = prodI ds by omega, Int.add_comm]
        rw [e1, Int.add_mul_ediv_right _ _ (by omega), Int.ediv_eq_zero_of_lt (by omega) (by omega), Int.zero_add, Int.emod_eq_of_lt (by omega) (by omega), Bool.eq_iff_iff, decide_eq_true_eq, decide_eq_true_eq]; simp only [List.getD_cons_zero]
        omega
      by_cases c : q = v.toNat
      · rw [if_pos c, List.filter_eq_self]; intro x hx; obtain ⟨r, hr, rfl⟩ := List.mem_map.1 hx; rw [hdig r (List.mem_range.1 hr)]; simpa using c
      · rw [if_neg c, List.filter_eq_nil_iff]; intro x hx; obtain ⟨r, hr, rfl⟩ := List.mem_map.1 hx; rw [hdig r (List.mem_range.1 hr)]; simpa using c
    rw [flatMap_congr' e, one_block _ (show v.toNat < d.toNat by omega)]; refine List.map_congr_left fun r hr => ?_; have hr' := List.mem_range.1 hr
    unfold slAt
    rw [List.eraseIdx_zero, List.tail_cons, List.insertIdx_zero, offL, offL_idx hd' (by omega) (by omega), Int.toNat_add (Int.mul_nonneg hv'.1 (by omega)) (by omega), Int.toNat_mul hv'.1 (by omega)]
    simp
  | d :: ds, hd, j + 1, hj, v, hv => by
    have hd' : ∀ x ∈ ds, 1 ≤ x := fun x hx => hd x (by simp [hx]); have hd1 := hd d (by simp); have hP := prodI_one hd'; have hj' : j < ds.length := by simpa using hj
    have hv' : 0 ≤ v ∧ v < ds.getD j 0 := by simpa using hv
    have he := erase_mem (j := j) hd'; have hP' := prodI_one he; have ih := sl_eq hd' hj' hv'; have eP : (prodI (d :: ds)).toNat = d.toNat * (prodI ds).toNat := by rw [prodI_cons, Int.toNat_mul (by omega) (by omega)]
    have eP' : (prodI ((d :: ds).eraseIdx (j + 1))).toNat = d.toNat * (prodI (ds.eraseIdx j)).toNat := by rw [List.eraseIdx_cons_succ, prodI_cons, Int.toNat_mul (by omega) (by omega)]
    rw [slTo, eP, eP', range_blocks, range_blocks, filter_flatMap, map_flatMap']; refine flatMap_congr' fun q hq => ?_; have hq' := List.mem_range.1 hq; rw [List.filter_map]; have e2 : (slHas (d :: ds) (j + 1) v ∘ fun r => q * (prodI ds).toNat + r) = slHas ds j v := by
      funext r
      simp only [Function.comp, slHas]; rw [idxL_cons, List.getD_cons_succ]; have e1 : ((q * (prodI ds).toNat + r : Nat) : Int) = q * prodI ds + r := by
        rw [Int.natCast_add, Int.natCast_mul, show (((prodI ds).toNat : Nat) : Int) = prodI ds by omega]
      rw [e1, idxL_shift hd']
    rw [e2]; have ih' : (List.range (prodI ds).toNat).filter (slHas ds j v) = (List.range (prodI (ds.eraseIdx j)).toNat).map (slAt ds j v) := ih; rw [ih', List.map_map, List.map_map]; refine List.map_congr_left fun m hm => ?_; have hm' := List.mem_range.1 hm; have hin := sl_in hd' hj' hv' m; simp only [Function.comp, slAt]; have e1 : ((q * (prodI (ds.eraseIdx j)).toNat + m : Nat) : Int) = m + q * prodI (ds.eraseIdx j) := by
      rw [Int.natCast_add, Int.natCast_mul, show (((prodI (ds.eraseIdx j)).toNat : Nat) : Int) = prodI (ds.eraseIdx j) by omega, Int.add_comm]
    rw [List.eraseIdx_cons_succ, idxL_cons, e1, Int.add_mul_ediv_right _ _ (by omega), Int.ediv_eq_zero_of_lt (by omega) (by omega), Int.zero_add, Int.emod_eq_of_lt (by omega) (by omega), List.insertIdx_succ_cons, offL, Int.add_comm (m : Int), idxL_shift he,
      Int.toNat_add (Int.mul_nonneg (by omega) (by omega)) hin.1, Int.toNat_mul (by omega) (by omega)]
    simp
end Go.Proofs.YthlmjnihihbckaaGreat
namespace Go.Proofs.YthlmjnihihbckaaGreat
set_option maxRecDepth 100000
open Go.RowKit
structure Sm (A : Type) where
  zero : A
  one : A
  add : A → A → A
  mul : A → A → A
  addC : ∀ a b, add a b = add b a
  addA : ∀ a b c, add (add a b) c = add a (add b c)
  add0 : ∀ a, add zero a = a
  mulC : ∀ a b, mul a b = mul b a
  mulA : ∀ a b c, mul (mul a b) c = mul a (mul b c)
  mul1 : ∀ a, mul one a = a
  mul0 : ∀ a, mul zero a = zero
  dist : ∀ a b c, mul (add a b) c = add (mul a c) (mul b c)
section
variable {A : Type} (R : Sm A)
def upd (a : Int → Int) (x v : Int) : Int → Int := fun y => if y = x then v else a y
variable (f : Int → Int)
end
end Go.Proofs.YthlmjnihihbckaaGreat
namespace Go.Proofs.YthlmjnihihbckaaGreat
set_option maxRecDepth 100000
open Go.RowKit
set_option maxHeartbeats 8000000 in
theorem ct_s_l08Pair (k p n : Int) (t u : Ten) (f : Int → Int) (K ks : List Int) (a b c a' b' c' v : Value) (w : World) (r1 : IntsR t.l a (hp w)) (r2 : IntsR t.d b (hp w)) (r3 : IntsR t.x c (hp w)) (r1' : IntsR u.l a' (hp w)) (r2' : IntsR u.d b' (hp w)) (r3' : IntsR u.x c' (hp w)) (rk : IntsR ks v (hp w)) (ok : PairOK k p n t u f) (hK : (joinI t.l u.l).filter (fun x => decide (x ∈ ks)) = K) (hk : KeepOK t u f K) (hkr : K.length ≤ 12) :
    Calls Tryz.prog 66 [ringV k p n, tenV a b c, tenV a' b' c', v].toArray w (Ret w emp (TenT (pairT k p n f t u K))) := by
  have hring := ok.tt.1; have hat := ten_axes ok.tt; have hau := ten_axes ok.uu; have htp := ten_prod ok.tt; have hup := ten_prod ok.uu; have htl := hat.2.1; have hul := hau.2.1; have h12 := hat.1; have h12' := hau.1; have hun := axes_nodup hau; have hKd := map_dim ok.dim hk.sub; have hKi := map_dims fun x hx => ok.dim x (hk.sub x hx); have hKp := hk.small; have hst := ok.ht; have hsu := ok.hu; have hwr := width_range hring; have hKl : K.length = (K.map f).length := by simp
  obtain ⟨L, hL⟩ : ∃ L, joinI t.l u.l = L := ⟨_, rfl⟩
  obtain ⟨D, hD⟩ : ∃ D, L.map f = D := ⟨_, rfl⟩
  have hjl := joinI_len t.l u.l; have hnd := ok.nd; have hDd := map_dim ok.dim (fun _ h => h); have hwk := ok.work; have hmt : ∀ l ∈ t.l, l ∈ joinI t.l u.l := fun l hl => mem_joinI.2 (.inl hl); have hmu : ∀ l ∈ u.l, l ∈ joinI t.l u.l := fun l hl => mem_joinI.2 (.inr hl); have hmk := hk.sub; rw [hL] at hjl hnd hDd hwk hmt hmu hmk hK; rw [hD] at hDd hwk; have hDi : dimsIn D := fun j hj => hDd _ (mem_getD hj); have hD1 : ∀ d ∈ D, 1 ≤ d := fun d hd => (hDd d hd).1; have hD0 := prodI_one hD1; have hDl : D.length = L.length := by rw [← hD]; simp
  have hsA := stepsL_len L t.l t.d; have hsB := stepsL_len L u.l u.d; have hsC := stepsL_len L K (K.map f); have hA : ∀ a ∈ stepsL L t.l t.d, 0 ≤ a ∧ a ≤ 4096 := fun a h => by have := steps_in (fun d hd => (dims_mem (axes_dims hat) d hd).1) a h; omega
  have hB : ∀ a ∈ stepsL L u.l u.d, 0 ≤ a ∧ a ≤ 4096 := fun a h => by have := steps_in (fun d hd => (dims_mem (axes_dims hau) d hd).1) a h; omega
  have hC : ∀ a ∈ stepsL L K (K.map f), 0 ≤ a ∧ a ≤ 4096 := fun a h => by have := steps_in (fun d hd => (hKd d hd).1) a h; omega
  refine calls_in Tryz.func66 rfl Tryz.ntmps66 rfl (Sat.start w) ?_; have hle0 := r1.le; have hle1 := r2.le; have hle2 := r3.le; have hle3 := r1'.le; have hle4 := r2'.le; have hle5 := r3'.le; have hle6 := rk.le; refine wp_sc (wp_sq ?_); refine sq_x rfl (x_box rfl rfl) rfl ?_; rintro _ _ ⟨b4, rfl, rfl⟩; refine sq_x rfl (x_box rfl rfl) rfl ?_; rintro _ _ ⟨b5, rfl, rfl⟩; refine sq_x rfl (x_box rfl rfl) rfl ?_; rintro _ _ ⟨b6, rfl, rfl⟩; refine sq_x rfl (x_alloc ty_34 rfl) rfl ?_; rintro _ _ ⟨b8, rfl, rfl⟩; refine sq_end (qs_n (wp_sc (wp_sq (sq_v rfl (v_loadNB 2 ty_34 rfl rfl rfl rfl) rfl (sq_v rfl (v_loadNB 1 ty_34 rfl rfl rfl rfl) rfl ?_))))); refine sq_x rfl (x_call rfl en_155 (fun w s => ct_u_l08Join f _ _ _ _ _ _ _ _ w (r1.mono (s.get 4 rfl)) (r2.mono (s.get 4 rfl)) (r1'.mono (s.get 4 rfl)) (r2'.mono (s.get 4 rfl)) (by first | assumption | omega) (by first | assumption | omega) (by first | assumption | omega) (by first | assumption | omega))) rfl ?_; rintro _ h27 ⟨v1, v2, rfl, q1, q2⟩; refine sq_v rfl (v_move rfl) rfl (sq_v rfl (v_extract rfl rfl) rfl (sq_v rfl (v_extract rfl rfl) rfl (sq_v rfl (v_extract rfl rfl) rfl (sq_v rfl (v_assign rfl) rfl (sq_v rfl (v_assign rfl) rfl (sq_v rfl (v_assign rfl) rfl (sq_end ?_))))))); rw [hL] at q1; rw [hL, hD] at q2; refine qs_n (wp_sc (wp_sq (sq_v rfl (v_move rfl) rfl (sq_v rfl (v_move rfl) rfl (sq_v rfl (v_move rfl) rfl ?_))))); refine sq_x rfl (x_call rfl en_158 (fun w s => ct_s_l08Keep _ _ _ _ _ _ w (q1.mono (s.get 0 rfl)) (q2.mono (s.get 0 rfl)) (rk.mono (s.get 5 rfl)) (by first | assumption | omega) (by first | assumption | omega))) rfl ?_; rintro _ h34 ⟨k1, k2, g1, g2, rfl, rk1, rk2, mdk⟩; refine sq_x rfl (x_alloc ty_34 rfl) rfl ?_; rintro _ _ ⟨b12, rfl, rfl⟩; refine sq_m 0 rfl rfl (m_store 0 ty_34 rfl rfl rfl rfl (by simp [(rk1.toR.mono (mdk.le g1 (by simp))).sl.one, (rk2.toR.mono (mdk.le g2 (by simp))).sl.one, one_sl]) rfl (Nat.le_of_ble_eq_true rfl)) rfl ?_; rintro _ _ ⟨rfl, rfl⟩; refine sq_end ?_; rw [hK] at rk1; rw [← hD, selP_map, hK] at rk2; refine qs_n (wp_sc (wp_sq (sq_v rfl (v_loadNB 6 ty_37 rfl rfl rfl rfl) rfl (sq_v rfl (v_fieldAddr fd_34_0 ty_25 (by decide) rfl) rfl (sq_v rfl (v_loadB 0 ty_25 rfl rfl rfl) rfl (sq_v rfl (v_fieldAddr fd_34_1 ty_25 (by decide) rfl) rfl (sq_v rfl (v_loadB 0 ty_25 rfl rfl rfl) rfl ?_))))))); refine sq_x rfl (x_call rfl en_159 (fun w s => ct_s_l05Zero _ _ _ _ _ _ _ w (by first | assumption | omega) ((rk1.toR.mono (mdk.le g1 (by simp))).mono (s.get 1 rfl)) ((rk2.toR.mono (mdk.le g2 (by simp))).mono (s.get 1 rfl)) (by first | assumption | omega) (by first | assumption | omega) (by first | assumption | omega) (by first | assumption | omega))) rfl ?_; rintro _ h40 ⟨va40, vb40, vc40, rfl, o40⟩; refine sq_m 1 rfl rfl (m_store 1 ty_34 rfl rfl rfl rfl (by simp [o40.toR.1.sl.one, o40.toR.2.1.sl.one, o40.toR.2.2.sl.one]) rfl (Nat.le_of_ble_eq_true rfl)) rfl ?_; rintro _ _ ⟨rfl, rfl⟩; refine sq_end ?_; obtain ⟨go1, go2, go3, qo1, qo2, qo3, mdo⟩ := o40; refine qs_s [box b12 [va40, vb40, vc40] 34, h34, h27, box b8 [.slice none 0 0, .slice none 0 0, .slice none 0 0] 34, box b6 [a', b', c'] 34, box b5 [a, b, c] 34, box b4 [num k, num p, num n] 37, hp w, go1, go2, go3] (fun _ s => Sat.open (A := [box b12 [va40, vb40, vc40] 34, h34, h27, box b8 [.slice none 0 0, .slice none 0 0, .slice none 0 0] 34, box b6 [a', b', c'] 34, box b5 [a, b, c] 34, box b4 [num k, num p, num n] 37, hp w]) mdo (s.pick [0, 1, 2, 3, 4, 5, 6, 7, 8] (by decide) rfl)) (qs_n (wp_sc (wp_sq (sq_v rfl (v_loadNB 5 ty_34 rfl rfl rfl rfl) rfl (sq_v rfl (v_move rfl) rfl ?_))))); refine sq_x rfl (x_call rfl en_160 (fun w s => ct_s_l08Steps _ _ _ _ _ _ _ _ w (r1.mono (s.get 7 rfl)) (r2.mono (s.get 7 rfl)) (r3.mono (s.get 7 rfl)) (q1.mono (s.get 2 rfl)) (by first | assumption | omega) (by first | assumption | omega) (dims_mem (axes_dims hat)) (by first | assumption | omega) (by first | assumption | omega) (by first | assumption | omega))) rfl ?_; rintro v43 h43 r43; refine sq_v rfl (v_assign rfl) rfl (sq_end (qs_n (wp_sc (wp_sq (sq_v rfl (v_loadNB 5 ty_34 rfl rfl rfl rfl) rfl (sq_v rfl (v_move rfl) rfl ?_)))))); refine sq_x rfl (x_call rfl en_160 (fun w s => ct_s_l08Steps _ _ _ _ _ _ _ _ w (r1'.mono (s.get 8 rfl)) (r2'.mono (s.get 8 rfl)) (r3'.mono (s.get 8 rfl)) (q1.mono (s.get 3 rfl)) (by first | assumption | omega) (by first | assumption | omega) (dims_mem (axes_dims hau)) (by first | assumption | omega) (by first | assumption | omega) (by first | assumption | omega))) rfl ?_; rintro v46 h46 r46; refine sq_v rfl (v_assign rfl) rfl (sq_end (qs_n (wp_sc (wp_sq (sq_v rfl (v_loadNB 2 ty_34 rfl rfl rfl rfl) rfl (sq_v rfl (v_move rfl) rfl ?_)))))); refine sq_x rfl (x_call rfl en_160 (fun w s => ct_s_l08Steps K (K.map f) _ _ _ _ _ _ w (qo1.toR.mono (s.get 10 rfl)) (qo2.toR.mono (s.get 11 rfl)) (qo3.toR.mono (s.get 12 rfl)) (q1.mono (s.get 4 rfl)) (by first | assumption | omega) (by first | assumption | omega) hKd (by first | assumption | omega) (by first | assumption | omega) (by first | assumption | omega))) rfl ?_; rintro v49 h49 r49; refine sq_v rfl (v_assign rfl) rfl (sq_end (qs_n (wp_sc (wp_sq (sq_v rfl (v_move rfl) rfl (sq_v rfl (v_len Tryz.underlying25 rfl q1.sl) rfl ?_)))))); refine sq_x rfl (x_makeI Tryz.underlying25 ty_3 rfl rfl (by omega) (by omega) (by omega)) rfl ?_; intro v52 h52 r52; refine sq_v rfl (v_assign rfl) rfl (sq_end (qs_n (wp_sc (wp_sc (wp_sq (sq_v rfl (v_move rfl) rfl (sq_u rfl (x_callv rfl en_156 (fun w s => ct_s_l05Product _ _ _ w (q2.mono (s.get 6 rfl)) (by first | assumption | omega) (by first | assumption | omega))) rfl ?_)))))))
  refine sq_v rfl (v_assign rfl) rfl (sq_end (qs_n (wp_bl ?_))); refine wp_lp (σ := Nat × PH × PH) (fun z_ => [(4, .pointer (some ⟨b4, 0, none⟩)), (5, .pointer (some ⟨b5, 0, none⟩)), (6, .pointer (some ⟨b6, 0, none⟩)), (8, .pointer (some ⟨b8, 0, none⟩)), (10, v2), (12, .pointer (some ⟨b12, 0, none⟩)), (13, v43), (14, v46), (15, v49), (16, v52), (17, num (prodI D - z_.1)), (34, .agg [k1, k2, .slice none 0 0].toArray)]) (fun z_ => [z_.2.1, h49, h46, h43, box b12 [va40, vb40, vc40] 34, h34, h27, box b8 [.slice none 0 0, .slice none 0 0, .slice none 0 0] 34, box b6 [a', b', c'] 34, box b5 [a, b, c] 34, box b4 [num k, num p, num n] 37, hp w, go1, go2, z_.2.2]) (fun z_ => z_.1 ≤ (prodI D).toNat ∧ IntsO (idxL D z_.1) v52 z_.2.1 ∧ IntsO (pairX k p n f t u K z_.1) vc40 z_.2.2) (fun z_ => (prodI D).toNat - z_.1) (0, h52, go3) (⟨by (try dsimp only); omega, by (try dsimp only); rw [show ((0 : Nat) : Int) = 0 from rfl, idxL_zero, hDl]; simpa using r52, qo3⟩) ⟨rfl, rfl, rfl, rfl, rfl, rfl, rfl, rfl, rfl, rfl, (by first | rfl | exact ksub rfl (by first | omega | (simp; done) | (simp; omega))), rfl, trivial⟩ (fun _ s => s) ?_; rintro ⟨m, gi, gx⟩ ⟨hm, qi, qx⟩; dsimp only at hm qi qx ⊢; have hle_qi := qi.toR.le; have hle_qx := qx.toR.le; have hil := idxL_len D m; have hil2 := idxL_len D (m + 1); have hii := idxL_in hD1 m; have hib : ∀ b ∈ idxL D m, 0 ≤ b ∧ b ≤ 8 := all_of fun j hj => by have := hii.2 j (by omega); have := hDi j (by omega); omega
  have hpx := ok.small hk m; refine wp_sc (wp_sc (wp_sq (sq_v rfl (v_move rfl) rfl (sq_v rfl (v_gtr rfl rfl) rfl (sq_end (qs_n ?_)))))); refine wp_cd rfl (fun c56 => ?_) (fun c56 => ?_)
  · refine wp_sk (qs_n (wp_sc (wp_bl (wp_sc (wp_sq (sq_v rfl (v_assign rfl) rfl (sq_end (qs_n (wp_sc (wp_sq (sq_v rfl (v_assign rfl) rfl (sq_end (qs_n (wp_sc (wp_sq (sq_v rfl (v_assign rfl) rfl (sq_end (qs_n (wp_sc (wp_sc (wp_sq (sq_v rfl (v_move rfl) rfl (sq_v rfl (v_len Tryz.underlying25 rfl qi.toR.sl) rfl (sq_v rfl (v_move rfl) rfl (sq_end (qs_n (wp_bl ?_))))))))))))))))))))))))))); refine wp_lp (σ := Nat × Int × Int × Int) (fun z_ => [(4, .pointer (some ⟨b4, 0, none⟩)), (5, .pointer (some ⟨b5, 0, none⟩)), (6, .pointer (some ⟨b6, 0, none⟩)), (8, .pointer (some ⟨b8, 0, none⟩)), (10, v2), (12, .pointer (some ⟨b12, 0, none⟩)), (13, v43), (14, v46), (15, v49), (16, v52), (17, num (prodI D - m)), (18, num z_.2.1), (19, num z_.2.2.1), (20, num z_.2.2.2), (34, .agg [k1, k2, .slice none 0 0].toArray), (55, num (prodI D - m)), (56, .bool (decide ((0 : Int) < prodI D - m))), (59, v52), (60, num (idxL D m).length), (61, num z_.1)]) (fun z_ => [gi, h49, h46, h43, box b12 [va40, vb40, vc40] 34, h34, h27, box b8 [.slice none 0 0, .slice none 0 0, .slice none 0 0] 34, box b6 [a', b', c'] 34, box b5 [a, b, c] 34, box b4 [num k, num p, num n] 37, hp w, go1, go2, gx]) (fun z_ => z_.1 ≤ L.length ∧ z_.2.1 = dotTo (stepsL L t.l t.d) (idxL D m) z_.1 ∧ z_.2.2.1 = dotTo (stepsL L u.l u.d) (idxL D m) z_.1 ∧ z_.2.2.2 = dotTo (stepsL L K (K.map f)) (idxL D m) z_.1) (fun z_ => L.length - z_.1) (0, 0, 0, 0) (⟨by (try dsimp only); omega, rfl, rfl, rfl⟩) ⟨rfl, rfl, rfl, rfl, rfl, rfl, rfl, rfl, rfl, rfl, rfl, rfl, rfl, rfl, rfl, rfl, rfl, rfl, rfl, rfl, trivial⟩ (fun _ s => s) ?_; rintro ⟨j, x, y, z⟩ ⟨hj, hx, hy, hz⟩; dsimp only at hj hx hy hz ⊢; refine wp_sc (wp_sq (sq_v rfl (v_lss rfl rfl) rfl (sq_end (qs_n (wp_sc ?_))))); refine wp_cd rfl (fun c62 => ?_) (fun c62 => ?_)
    · refine wp_sk (qs_n (wp_sc (wp_bl (wp_sc (wp_sq (sq_v rfl (v_move rfl) rfl (sq_v rfl (v_idxI Tryz.underlying25 ty_3 rfl rfl qi.toR (by omega) (by omega)) rfl (sq_v rfl (v_loadI (k := j) 0 ty_3 rfl rfl qi.toR (by omega)) rfl (sq_v rfl (v_assign rfl) rfl (sq_v rfl (v_assign rfl) rfl (sq_end ?_))))))))))); have hx0 := dotTo_in hA hib j (by omega) (by omega); have hx1 := dotTo_in hA hib (j + 1) (by omega) (by omega); have ex : dotTo (stepsL L t.l t.d) (idxL D m) (j + 1) = dotTo (stepsL L t.l t.d) (idxL D m) j + (stepsL L t.l t.d).getD j 0 * (idxL D m).getD j 0 := rfl; rw [Int.mul_comm] at ex; have hy0 := dotTo_in hB hib j (by omega) (by omega); have hy1 := dotTo_in hB hib (j + 1) (by omega) (by omega); have ey : dotTo (stepsL L u.l u.d) (idxL D m) (j + 1) = dotTo (stepsL L u.l u.d) (idxL D m) j + (stepsL L u.l u.d).getD j 0 * (idxL D m).getD j 0 := rfl; rw [Int.mul_comm] at ey; have hz0 := dotTo_in hC hib j (by omega) (by omega); have hz1 := dotTo_in hC hib (j + 1) (by omega) (by omega); have ez : dotTo (stepsL L K (K.map f)) (idxL D m) (j + 1) = dotTo (stepsL L K (K.map f)) (idxL D m) j + (stepsL L K (K.map f)).getD j 0 * (idxL D m).getD j 0 := rfl; rw [Int.mul_comm] at ez; refine qs_n (wp_sc (wp_sq (sq_v rfl (v_move rfl) rfl (sq_v rfl (v_move rfl) rfl (sq_v rfl (v_move rfl) rfl (sq_v rfl (v_move rfl) rfl (sq_v rfl (v_idxI Tryz.underlying25 ty_3 rfl rfl r43.toR (by omega) (by omega)) rfl (sq_v rfl (v_loadI (k := j) 3 ty_3 rfl rfl r43.toR (by omega)) rfl ?_)))))))); refine sq_v rfl (v_mul rfl rfl ((by unfold I64; omega))) rfl ?_; refine sq_v rfl (v_add rfl rfl ((by unfold I64; omega))) rfl ?_; refine sq_v rfl (v_assign rfl) rfl (sq_end (qs_n (wp_sc (wp_sq (sq_v rfl (v_move rfl) rfl (sq_v rfl (v_move rfl) rfl (sq_v rfl (v_move rfl) rfl (sq_v rfl (v_move rfl) rfl (sq_v rfl (v_idxI Tryz.underlying25 ty_3 rfl rfl r46.toR (by omega) (by omega)) rfl (sq_v rfl (v_loadI (k := j) 2 ty_3 rfl rfl r46.toR (by omega)) rfl ?_)))))))))); refine sq_v rfl (v_mul rfl rfl ((by unfold I64; omega))) rfl ?_; refine sq_v rfl (v_add rfl rfl ((by unfold I64; omega))) rfl ?_; refine sq_v rfl (v_assign rfl) rfl (sq_end (qs_n (wp_sq (sq_v rfl (v_move rfl) rfl (sq_v rfl (v_move rfl) rfl (sq_v rfl (v_move rfl) rfl (sq_v rfl (v_move rfl) rfl (sq_v rfl (v_idxI Tryz.underlying25 ty_3 rfl rfl r49.toR (by omega) (by omega)) rfl (sq_v rfl (v_loadI (k := j) 1 ty_3 rfl rfl r49.toR (by omega)) rfl ?_))))))))); refine sq_v rfl (v_mul rfl rfl ((by unfold I64; omega))) rfl ?_; refine sq_v rfl (v_add rfl rfl ((by unfold I64; omega))) rfl ?_; refine sq_v rfl (v_assign rfl) rfl (sq_end (qs_bn (qs_n (wp_sq ?_)))); refine sq_v rfl (v_add rfl rfl ((by unfold I64; omega))) rfl ?_; refine sq_v rfl (v_move rfl) rfl (sq_end ?_); exact qs_bk (j + 1, x + (idxL D m).getD j 0 * (stepsL L t.l t.d).getD j 0, y + (idxL D m).getD j 0 * (stepsL L u.l u.d).getD j 0, z + (idxL D m).getD j 0 * (stepsL L K (K.map f)).getD j 0) ⟨by (try dsimp only); omega, by (try dsimp only); omega, by (try dsimp only); omega, by (try dsimp only); omega⟩ (by simp only; omega) ⟨rfl, rfl, rfl, rfl, rfl, rfl, rfl, rfl, rfl, rfl, rfl, rfl, rfl, rfl, rfl, rfl, rfl, rfl, rfl, rfl, trivial⟩ (fun _ s => s)
    · refine wp_ex (qs_x (qs_x (qs_bx (qs_n (wp_sc (wp_rj 19 [(0, true), (1, true), (2, true), (3, true), (4, true), (5, true), (6, true), (8, true), (9, true), (10, true), (11, true), (13, true), (14, true), (15, true), (7, false), (12, false), (16, false), (17, false), (18, false), (19, false)] mixed_ok (by kernel_rfl) ?_)))))); obtain ⟨px, hpe⟩ : ∃ px, pairX k p n f t u K m = px := ⟨_, rfl⟩; have ex : x = atI f (joinI t.l u.l) t.l m := (by rw [hx, show j = L.length by omega, atI, dotL, stepsL_len, ← hst, hL, hD]); have ey : y = atI f (joinI t.l u.l) u.l m := (by rw [hy, show j = L.length by omega, atI, dotL, stepsL_len, ← hsu, hL, hD]); have ez : z = atI f (joinI t.l u.l) K m := (by rw [hz, show j = L.length by omega, atI, dotL, stepsL_len, hL, hD]); have hx0 := ok.at_t m; have hy0 := ok.at_u m; have hz0 := ok.at_k hk m; have hXr := ok.el_t m; have hYr := ok.el_u m; have hZr := (ok.all hk m).el hring hz0.1 hz0.2; have hzf := ok.fits hk m; rw [← ex] at hx0 hXr; rw [← ey] at hy0 hYr; rw [← ez] at hz0 hZr hzf; rw [hpe] at hZr hzf hpx qx; have hMr := mulL_in hring hXr hYr; have hSr := addL_in hring hZr hMr; have hxf := elt_fits ok.tt (i := x) hx0.2; have hyf := elt_fits ok.uu (i := y) hy0.2; refine rj_v rfl rfl (v_loadNB 10 ty_37 rfl rfl rfl rfl) rfl (rj_v rfl rfl (v_loadNB 4 ty_34 rfl rfl rfl rfl) rfl (rj_v rfl rfl (v_move rfl) rfl (rj_v rfl rfl (v_loadNB 10 ty_37 rfl rfl rfl rfl) rfl (rj_v rfl rfl (v_loadNB 10 ty_37 rfl rfl rfl rfl) rfl (rj_v rfl rfl (v_loadNB 4 ty_34 rfl rfl rfl rfl) rfl (rj_v rfl rfl (v_move rfl) rfl (rj_v rfl rfl (v_loadNB 10 ty_37 rfl rfl rfl rfl) rfl (rj_v rfl rfl (v_loadNB 10 ty_37 rfl rfl rfl rfl) rfl (rj_v rfl rfl (v_loadNB 9 ty_34 rfl rfl rfl rfl) rfl ?_))))))))); refine rj_v rfl rfl (v_move rfl) rfl (rj_v rfl rfl (v_loadNB 10 ty_37 rfl rfl rfl rfl) rfl (rj_v rfl rfl (v_loadNB 8 ty_34 rfl rfl rfl rfl) rfl (rj_v rfl rfl (v_move rfl) rfl ?_))); refine rj_x rfl rfl (x_call rfl en_163 (fun w s => ct_s_l05Get _ _ _ _ _ _ _ _ w (by first | assumption | omega) (qx.toR.mono (s.get 14 rfl)) (by first | assumption | omega) (by first | assumption | omega) (by first | assumption | omega))) rfl ?_; rintro v98 h98 r98; refine rj_x rfl rfl (x_call rfl en_163 (fun w s => ct_s_l05Get _ _ _ _ _ _ _ _ w (by first | assumption | omega) (r3.mono (s.get 12 rfl)) (by first | assumption | omega) (by first | assumption | omega) (by first | assumption | omega))) rfl ?_; rintro v103 h103 r103; refine rj_x rfl rfl (x_call rfl en_163 (fun w s => ct_s_l05Get _ _ _ _ _ _ _ _ w (by first | assumption | omega) (r3'.mono (s.get 13 rfl)) (by first | assumption | omega) (by first | assumption | omega) (by first | assumption | omega))) rfl ?_; rintro v107 h107 r107; refine rj_x rfl rfl (x_call rfl en_164 (fun w s => ct_s_l02Mul _ _ _ _ _ _ _ w (by first | assumption | omega) (r103.toR.mono (s.get 1 rfl)) (r107.toR.mono (s.get 0 rfl)) (by first | assumption | omega) (by first | assumption | omega))) rfl ?_; rintro v108 h108 r108; refine rj_x rfl rfl (x_call rfl en_162 (fun w s => ct_s_l02Add _ _ _ _ _ _ _ w (by first | assumption | omega) (r98.toR.mono (s.get 3 rfl)) (r108.toR.mono (s.get 0 rfl)) (by first | assumption | omega) (by first | assumption | omega))) rfl ?_; rintro v109 h109 r109; refine rj_m 19 rfl rfl rfl rfl (x_call rfl en_161 (fun w s => ct_s_l05Put _ _ _ _ _ _ _ _ _ _ _ _ w _ (by first | assumption | omega) (s.get 19 rfl) (qo1.toR.mono (s.getR 19 17 rfl rfl (by decide))) (qo2.toR.mono (s.getR 19 18 rfl rfl (by decide))) qx (r109.toR.mono (s.getR 19 0 rfl rfl (by decide))) hSr.1 (by first | assumption | omega) (by first | assumption | omega) (by first | assumption | omega))) rfl ?_; rintro _ h110 r110; refine rj_end (qs_n (wp_sc (wp_sq (sq_v rfl (v_move rfl) rfl (sq_v rfl (v_len Tryz.underlying25 rfl qi.toR.sl) rfl ?_))))); refine sq_v rfl (v_sub rfl rfl ((by unfold I64; omega))) rfl ?_; refine sq_v rfl (v_assign rfl) rfl (sq_end (qs_n (wp_bl ?_)))
      refine wp_lp (σ := Nat × PH) (fun z_ => [(4, .pointer (some ⟨b4, 0, none⟩)), (5, .pointer (some ⟨b5, 0, none⟩)), (6, .pointer (some ⟨b6, 0, none⟩)), (8, .pointer (some ⟨b8, 0, none⟩)), (10, v2), (12, .pointer (some ⟨b12, 0, none⟩)), (13, v43), (14, v46), (15, v49), (16, v52), (17, num (prodI D - m)), (18, num x), (19, num y), (20, num z), (23, num ((z_.1 : Int) - 1)), (34, .agg [k1, k2, .slice none 0 0].toArray), (55, num (prodI D - m)), (56, .bool (decide ((0 : Int) < prodI D - m))), (59, v52), (60, num (idxL D m).length), (61, num j), (62, .bool (decide ((j : Int) < (idxL D m).length))), (91, .agg [num k, num p, num n].toArray), (92, .agg [va40, vb40, vc40].toArray), (93, num z), (94, .agg [num k, num p, num n].toArray), (95, .agg [num k, num p, num n].toArray), (96, .agg [va40, vb40, vc40].toArray), (97, num z), (98, v98), (99, .agg [num k, num p, num n].toArray), (100, .agg [num k, num p, num n].toArray), (101, .agg [a, b, c].toArray), (102, num x), (103, v103), (104, .agg [num k, num p, num n].toArray), (105, .agg [a', b', c'].toArray), (106, num y), (107, v107), (108, v108), (109, v109), (111, v52), (112, num (idxL D m).length), (113, num ((idxL D m).length - 1))]) (fun z_ => [h109, h108, h107, h103, h98, z_.2, h49, h46, h43, box b12 [va40, vb40, vc40] 34, h34, h27, box b8 [.slice none 0 0, .slice none 0 0, .slice none 0 0] 34, box b6 [a', b', c'] 34, box b5 [a, b, c] 34, box b4 [num k, num p, num n] 37, hp w, go1, go2, h110]) (fun z_ => z_.1 ≤ D.length ∧ ((m : Int) + 1) % prodI (D.drop z_.1) = 0 ∧ IntsO (mixL (idxL D m) (idxL D (m + 1)) z_.1) v52 z_.2) (fun z_ => z_.1) (D.length, gi) (⟨by (try dsimp only); omega, by (try dsimp only); simp [prodI, Int.emod_one], by (try dsimp only); rw [mix_end (by omega) (by omega)]; exact qi⟩) ⟨rfl, rfl, rfl, rfl, rfl, rfl, rfl, rfl, rfl, rfl, rfl, rfl, rfl, rfl, (by first | rfl | exact ksub rfl (by first | omega | (simp; done) | (simp; omega))), rfl, rfl, rfl, rfl, rfl, rfl, rfl, rfl, rfl, rfl, rfl, rfl, rfl, rfl, rfl, rfl, rfl, rfl, rfl, rfl, rfl, rfl, rfl, rfl, rfl, rfl, rfl, rfl, rfl, trivial⟩ (fun _ s => s) ?_; rintro ⟨q, g2⟩ ⟨hq, hP, qj⟩; dsimp only at hq hP qj ⊢; have hle_qj := qj.toR.le; have hml := mix_len (A := idxL D m) (B := idxL D (m + 1)) (k := q) (by omega) (by omega); have em : ((q : Int) - 1).toNat = q - 1 := by omega
      refine wp_sc (wp_sc (wp_sq (sq_v rfl (v_move rfl) rfl (sq_v rfl (v_geq rfl rfl) rfl (sq_end (qs_n ?_)))))); refine wp_cd rfl (fun c115 => ?_) (fun c115 => ?_)
      · refine wp_sk (qs_n (wp_sc (wp_bl (wp_sc (wp_sq (sq_v rfl (v_move rfl) rfl (sq_v rfl (v_move rfl) rfl ?_))))))); have hk1 : q - 1 < D.length := (by omega); have hdm := hDd _ (mem_getD hk1); have hlow : (mixL (idxL D m) (idxL D (m + 1)) q).getD ((q : Int) - 1).toNat 0 = digI D m (q - 1) := (by rw [em, mix_low (by omega) (by omega), idxL_get hk1]); have hdg := (idxL_in hD1 m).2 (q - 1) hk1; rw [idxL_get hk1] at hdg; refine sq_v rfl (v_idxI Tryz.underlying25 ty_3 rfl rfl qj.toR (by omega) (by omega)) rfl (sq_v rfl (v_loadI  5 ty_3 rfl rfl qj.toR (by omega)) rfl ?_); refine sq_v rfl (v_add rfl rfl ((by unfold I64; omega))) rfl ?_; refine sq_v rfl (v_idxI Tryz.underlying25 ty_3 rfl rfl qj.toR (by omega) (by omega)) rfl ?_; refine sq_m 5 rfl rfl (m_storeI 5 ty_3 rfl rfl rfl qj (by omega)) rfl ?_; rintro _ h_q25_6 ⟨rfl, q25_6⟩; refine sq_end ?_; rw [hlow, em] at q25_6; refine qs_n (wp_sc (wp_sc (wp_rj 9 [(0, true), (1, true), (2, true), (3, true), (4, true), (5, true), (6, true), (7, true), (8, true)] mixed_ok (by kernel_rfl) (rj_v rfl rfl (v_move rfl) rfl (rj_v rfl rfl (v_move rfl) rfl ?_))))); refine rj_v rfl rfl (v_idxI Tryz.underlying25 ty_3 rfl rfl q25_6.toR (by omega) (by first | omega | (simp; omega) | (simp only [List.length_append, List.length_cons, List.length_nil]; omega) | (rw [List.length_set]; omega))) rfl ?_; refine rj_v rfl rfl (v_loadI  5 ty_3 rfl rfl q25_6.toR (by first | omega | (simp; omega) | (simp only [List.length_append, List.length_cons, List.length_nil]; omega) | (rw [List.length_set]; omega))) rfl ?_; refine rj_v rfl rfl (v_move rfl) rfl (rj_v rfl rfl (v_move rfl) rfl (rj_v rfl rfl (v_idxI Tryz.underlying25 ty_3 rfl rfl q2 (by omega) (by omega)) rfl (rj_v rfl rfl (v_loadI  11 ty_3 rfl rfl q2 (by omega)) rfl (rj_v rfl rfl (v_lss rfl rfl) rfl (rj_end ?_))))); have hg4 : ((mixL (idxL D m) (idxL D (m + 1)) q).set (q - 1) (digI D m (q - 1) + 1)).getD ((q : Int) - 1).toNat 0 = digI D m (q - 1) + 1 := by rw [em]; simp only [List.getD]; rw [List.getElem?_set_self (by omega)]; rfl
        have hc : (((mixL (idxL D m) (idxL D (m + 1)) q).set (q - 1) (digI D m (q - 1) + 1)).getD ((q : Int) - 1).toNat 0 < D.getD ((q : Int) - 1).toNat 0) ↔ digI D m (q - 1) + 1 < D.getD (q - 1) 0 := by rw [hg4, em]
        refine qs_n ?_; refine wp_cd rfl (fun c132 => ?_) (fun c132 => ?_)
        · refine wp_ex (qs_x (qs_by rfl (qs_x (qs_x (qs_bx (qs_bn (qs_n (wp_sq (sq_v rfl (v_move rfl) rfl ?_))))))))); refine sq_v rfl (v_sub rfl rfl ((by unfold I64; omega))) rfl ?_; refine sq_v rfl (v_assign rfl) rfl (sq_end ?_); exact qs_bk (m + 1, h_q25_6, h110) ⟨by (try dsimp only); omega, by (try dsimp only); rw [show ((m + 1 : Nat) : Int) = (m : Int) + 1 from rfl, ← idx_yes hD1 (by omega) (by omega) hq hP (hc.1 c132)]; exact q25_6, by (try dsimp only); rw [pairX, hpe, ← ex, ← ey, ← ez]; exact r110⟩ (by simp only; omega) ⟨rfl, rfl, rfl, rfl, rfl, rfl, rfl, rfl, rfl, rfl, (by first | rfl | exact ksub rfl (by first | omega | (simp; done) | (simp; omega))), rfl, trivial⟩ (fun _ s => s.pick [5, 6, 7, 8, 9, 10, 11, 12, 13, 14, 15, 16, 17, 18, 19] (by decide) rfl)
        · refine wp_sk (qs_n (wp_sq (sq_v rfl (v_move rfl) rfl (sq_v rfl (v_move rfl) rfl ?_)))); refine sq_v rfl (v_idxI Tryz.underlying25 ty_3 rfl rfl q25_6.toR (by omega) (by first | omega | (simp; omega) | (simp only [List.length_append, List.length_cons, List.length_nil]; omega) | (rw [List.length_set]; omega))) rfl ?_; refine sq_m 5 rfl rfl (m_storeI 5 ty_3 rfl rfl rfl q25_6 (by first | omega | (simp; omega) | (simp only [List.length_append, List.length_cons, List.length_nil]; omega) | (rw [List.length_set]; omega))) rfl ?_; rintro _ h_q27_3 ⟨rfl, q27_3⟩; refine sq_end ?_; have hno := idx_no hD1 (by omega) (show 1 ≤ q by omega) hq hP (fun h => c132 (hc.2 h)); rw [em, List.set_set, hno.1] at q27_3; refine qs_bn (qs_n (wp_sq (sq_v rfl (v_move rfl) rfl ?_))); refine sq_v rfl (v_sub rfl rfl ((by unfold I64; omega))) rfl ?_; refine sq_v rfl (v_assign rfl) rfl (sq_end ?_); exact qs_bk (q - 1, h_q27_3) ⟨by (try dsimp only); omega, hno.2, q27_3⟩ (by simp only; omega) ⟨rfl, rfl, rfl, rfl, rfl, rfl, rfl, rfl, rfl, rfl, rfl, rfl, rfl, rfl, (by first | rfl | exact ksub rfl (by first | omega | (simp; done) | (simp; omega))), rfl, rfl, rfl, rfl, rfl, rfl, rfl, rfl, rfl, rfl, rfl, rfl, rfl, rfl, rfl, rfl, rfl, rfl, rfl, rfl, rfl, rfl, rfl, rfl, rfl, rfl, rfl, rfl, rfl, trivial⟩ (fun _ s => s)
      · refine wp_ex (qs_x (qs_x (qs_bx (qs_bn (qs_n (wp_sq (sq_v rfl (v_move rfl) rfl ?_))))))); refine sq_v rfl (v_sub rfl rfl ((by unfold I64; omega))) rfl ?_; refine sq_v rfl (v_assign rfl) rfl (sq_end ?_); exact qs_bk (m + 1, g2, h110) ⟨by (try dsimp only); omega, by (try dsimp only); rw [show q = 0 by omega, mix_zero] at qj; exact qj, by (try dsimp only); rw [pairX, hpe, ← ex, ← ey, ← ez]; exact r110⟩ (by simp only; omega) ⟨rfl, rfl, rfl, rfl, rfl, rfl, rfl, rfl, rfl, rfl, (by first | rfl | exact ksub rfl (by first | omega | (simp; done) | (simp; omega))), rfl, trivial⟩ (fun _ s => s.pick [5, 6, 7, 8, 9, 10, 11, 12, 13, 14, 15, 16, 17, 18, 19] (by decide) rfl)
  · refine wp_ex (qs_x (qs_x (qs_bx (qs_n (wp_sc (wp_sq (sq_v rfl (v_loadNB 4 ty_34 rfl rfl rfl rfl) rfl ?_))))))); refine sq_m 7 rfl rfl (m_store 7 ty_34 rfl rfl rfl rfl (by simp [qo1.toR.sl.one, qo2.toR.sl.one, qx.toR.sl.one]) rfl (Nat.le_of_ble_eq_true rfl)) rfl ?_; rintro _ _ ⟨rfl, rfl⟩; refine sq_end (qs_n (wp_rt ?_)); refine qs_close [box b8 _ _, hp w] [go1, go2, gx] (fun _ s => s.pick [7, 11, 12, 13, 14] (by decide) rfl) (fun md => ?_); exact qs_retc 1 rfl ty_34 rfl rfl rfl (fin_t 0 (i := 2) rfl rfl rfl ⟨_, _, _, rfl, _, _, _, qo1, qo2, (by rw [pairT, hL, hD, show (prodI D).toNat = m by omega]; exact qx), md⟩)
end Go.Proofs.YthlmjnihihbckaaGreat
namespace Go.Proofs.YthlmjnihihbckaaGreat
set_option maxRecDepth 100000
open Go.RowKit
theorem triO_none : TriO ⟨[], [], []⟩ (.slice none 0 0) (.slice none 0 0) (.slice none 0 0) emp :=
  ⟨emp, emp, emp, IntsO.nil, IntsO.nil, IntsO.nil, ⟨by simp [sepL, PDj.emp], fun x hx => by simp at hx; subst hx; exact PLe.emp _, fun k o e => by cases e⟩⟩
def keepL (t u : Ten) (ks : List Int) : List Int := (joinI t.l u.l).filter fun x => decide (x ∈ ks)
def pairP (k p n : Int) (t u : Ten) (ks : List Int) : Prop := tensorL k p n t.l t.d t.x ∧ tensorL k p n u.l u.d u.x ∧ ¬ mism t u ∧ prodI (joinD t u) ≤ 65536 ∧ 0 ≤ sizeI (keepL t u ks) ((keepL t u ks).map (dimJ t u))
open Classical in
noncomputable def pairB (k p n : Int) (t u : Ten) (ks : List Int) : Bool := decide (pairP k p n t u ks)
open Classical in
noncomputable def pairR (k p n : Int) (t u : Ten) (ks : List Int) : Ten := if pairP k p n t u ks then pairT k p n (dimJ t u) t u (keepL t u ks) else ⟨[], [], []⟩
theorem PairNo {k p n : Int} {t u : Ten} {ks : List Int} (h : ¬ pairP k p n t u ks) : TenB (pairR k p n t u ks) (pairB k p n t u ks) (.tuple [tenV (.slice none 0 0) (.slice none 0 0) (.slice none 0 0), .bool false].toArray) emp :=
  ⟨.slice none 0 0, .slice none 0 0, .slice none 0 0, by simp [pairB, h], by rw [pairR, if_neg h]; exact triO_none⟩
theorem PairYes {k p n : Int} {t u : Ten} {ks : List Int} {a b c : Value} {h : PH} (hp : pairP k p n t u ks) (r : TriO (pairT k p n (dimJ t u) t u (keepL t u ks)) a b c h) : TenB (pairR k p n t u ks) (pairB k p n t u ks) (.tuple [tenV a b c, .bool true].toArray) h :=
  ⟨a, b, c, by simp [pairB, hp], by rw [pairR, if_pos hp]; exact r⟩
theorem pairP.dims {k p n : Int} {t u : Ten} (h1 : tensorL k p n t.l t.d t.x) (h2 : tensorL k p n u.l u.d u.x) (h3 : ¬ mism t u) : t.d = t.l.map (dimJ t u) ∧ u.d = u.l.map (dimJ t u) ∧ joinD t u = (joinI t.l u.l).map (dimJ t u) := by
  have e1 := dimJ_l (u := u) (axes_nodup (ten_axes h1)) (ten_axes h1).2.1; have e2 := dimJ_r (axes_nodup (ten_axes h2)) (ten_axes h2).2.1 h3; exact ⟨e1, e2, joinD_map e1 e2⟩
theorem pair_ok {k p n : Int} {t u : Ten} (h1 : tensorL k p n t.l t.d t.x) (h2 : tensorL k p n u.l u.d u.x) (h3 : ¬ mism t u) (h4 : prodI (joinD t u) ≤ 65536) : PairOK k p n t u (dimJ t u) := by
  have e := pairP.dims h1 h2 h3; exact ⟨h1, h2, e.1, e.2.1, by rw [← e.2.2]; exact h4⟩
theorem keep_ok {k p n : Int} {t u : Ten} {ks : List Int} (ok : PairOK k p n t u (dimJ t u)) (h : 0 ≤ sizeI (keepL t u ks) ((keepL t u ks).map (dimJ t u))) : KeepOK t u (dimJ t u) (keepL t u ks) :=
  ⟨fun _ hl => (List.mem_filter.1 hl).1, List.Pairwise.filter _ ok.nd, (sizeI_ge.1 h).2⟩
theorem selP_prod (p : Int → Bool) : ∀ ls ds : List Int, (∀ d ∈ ds, 1 ≤ d) → 1 ≤ prodI (selP p ls ds) ∧ prodI (selP p ls ds) ≤ prodI ds
  | [], ds, h => by
    have := prodI_one h
    cases ds <;> simp [selP, prodI] at * <;> omega
  | l :: ls, [], _ => by simp [selP, prodI]
  | l :: ls, d :: ds, h => by
    have ih := selP_prod p ls ds (fun x hx => h x (by simp [hx])); have hd := h d (by simp); simp only [selP]; have h1 : 1 * prodI ds ≤ d * prodI ds := Int.mul_le_mul_of_nonneg_right hd (by omega)
    split
    · rw [prodI_cons, prodI_cons]; have h2 : d * prodI (selP p ls ds) ≤ d * prodI ds := Int.mul_le_mul_of_nonneg_left ih.2 (by omega); have h3 : 1 * 1 ≤ d * prodI (selP p ls ds) := Int.mul_le_mul hd ih.1 (by omega) (by omega)
      omega
    · rw [prodI_cons]; omega
theorem joinD_prod {k p n : Int} {t u : Ten} (h1 : tensorL k p n t.l t.d t.x) (h2 : tensorL k p n u.l u.d u.x) : dimsIn (joinD t u) ∧ 1 ≤ prodI (joinD t u) ∧ prodI (joinD t u) ≤ 16777216 := by
  have a1 := dims_mem (axes_dims (ten_axes h1)); have a2 := dims_mem (axes_dims (ten_axes h2)); have p1 := prodI_one fun d hd => (a1 d hd).1; have s := selP_prod (fun x => decide (x ∉ t.l)) u.l u.d fun d hd => (a2 d hd).1; have b1 := ten_prod h1; have b2 := ten_prod h2; have hm : ∀ (p : Int → Bool) (ls ds : List Int) d, d ∈ selP p ls ds → d ∈ ds := by
    intro p ls
    induction ls with
    | nil => intro ds d hd; cases ds <;> simp [selP] at hd
    | cons l ls ih =>
      intro ds d hd
      cases ds with
      | nil => simp [selP] at hd
      | cons e ds =>
        simp only [selP] at hd
        split at hd
        · rcases List.mem_cons.1 hd with rfl | hd
          · simp
          · exact List.mem_cons_of_mem _ (ih ds d hd)
        · exact List.mem_cons_of_mem _ (ih ds d hd)
  refine ⟨fun j hj => ?_, ?_⟩
  · have := mem_getD hj
    rcases List.mem_append.1 this with h | h
    · exact a1 _ h
    · exact a2 _ (hm _ _ _ _ h)
  · rw [joinD, prodI_append]; have h3 : 1 * 1 ≤ prodI t.d * prodI (selP (fun x => decide (x ∉ t.l)) u.l u.d) := Int.mul_le_mul p1 s.1 (by omega) (by omega); have h4 : prodI t.d * prodI (selP (fun x => decide (x ∉ t.l)) u.l u.d) ≤ 4096 * 4096 := Int.mul_le_mul b1 (by omega) (by omega) (by omega)
    omega
theorem ct_u_joinAxes (t u : Ten) (a b c a' b' c' : Value) (w : World) (r1 : IntsR t.l a (hp w)) (r2 : IntsR t.d b (hp w)) (r3 : IntsR t.x c (hp w)) (r1' : IntsR u.l a' (hp w)) (r2' : IntsR u.d b' (hp w)) (r3' : IntsR u.x c' (hp w)) (ht : t.l.length = t.d.length) (hu : u.l.length = u.d.length) (htn : t.l.Nodup) (hn : u.l.Nodup) (hs : t.l.length + u.l.length ≤ 100000) :
    Calls Tryz.prog 173 [tenV a b c, tenV a' b' c'].toArray w (Ret w emp (fun x h => ∃ v1 v2 bb L D, x = .tuple [v1, v2, .bool bb].toArray ∧ IntsR L v1 h ∧ IntsR D v2 h ∧ (bb = true ↔ ¬ mism t u) ∧ (bb = true → L = joinI t.l u.l ∧ D = joinD t u))) :=
  (ct_i_joinAxes t u a b c a' b' c' w r1 r2 r3 r1' r2' r3' ht hu htn hn hs).mono fun _ _ hh => by
    obtain ⟨x, h', h1, h2, h3⟩ := hh; refine ⟨x, h', h1, h2, ?_⟩
    by_cases hm : mism t u
    · exact ⟨_, _, false, [], [], h3.1 hm, IntsR.nil _, IntsR.nil _, ⟨fun e => (by cases e), fun e => absurd hm e⟩, fun e => (by cases e)⟩
    · obtain ⟨v1, v2, e, q1, q2⟩ := h3.2 hm; exact ⟨v1, v2, true, _, _, e, q1, q2, ⟨fun _ => hm, fun _ => rfl⟩, fun _ => ⟨rfl, rfl⟩⟩
theorem setif_yes {A B L : List Int} {i j : Nat} {y z : Int} (hB : B = if y ∈ L.take j then A.set i z else A) (hj : j < L.length) (e : L.getD j 0 = y) : B.set i z = if y ∈ L.take (j + 1) then A.set i z else A := by
  rw [if_pos (by rw [take_succ hj, e]; simp), hB]
  split
  · rw [List.set_set]
  · rfl
theorem setif_no {A B L : List Int} {i j : Nat} {y z : Int} (hB : B = if y ∈ L.take j then A.set i z else A) (hj : j < L.length) (e : ¬ L.getD j 0 = y) : B = if y ∈ L.take (j + 1) then A.set i z else A := by
  have : y ∈ L.take (j + 1) ↔ y ∈ L.take j := by
    rw [take_succ hj, List.mem_append]; exact ⟨fun h => h.resolve_right fun h => by simp at h; exact e h.symm, .inl⟩
  rw [hB]
  by_cases h : y ∈ L.take j
  · rw [if_pos h, if_pos (this.2 h)]
  · rw [if_neg h, if_neg fun h' => h (this.1 h')]
set_option maxHeartbeats 8000000 in
theorem ct_i_ContractPair (k p n : Int) (t u : Ten) (ks : List Int) (a b c a' b' c' v : Value) (w : World) (r1 : IntsR t.l a (hp w)) (r2 : IntsR t.d b (hp w)) (r3 : IntsR t.x c (hp w)) (r1' : IntsR u.l a' (hp w)) (r2' : IntsR u.d b' (hp w)) (r3' : IntsR u.x c' (hp w)) (rk : IntsR ks v (hp w)) :
    Calls Tryz.prog 73 [ringV k p n, tenV a b c, tenV a' b' c', v].toArray w (Ret w emp (TenB (pairR k p n t u ks) (pairB k p n t u ks))) := by
  have hkr : ∀ {L : List Int} {d : List Int}, 0 ≤ sizeI L d → L.length ≤ 12 ∧ d.length ≤ 12 ∧ dimsIn d := fun {L d} h => by
    have := (sizeI_ge.1 h).1; have h1 := this.1; have h2 := this.2.1; exact ⟨h1, by omega, axes_dims this⟩
  refine calls_in Tryz.func73 rfl Tryz.ntmps73 rfl (Sat.start w) ?_; have hle0 := r1.le; have hle1 := r2.le; have hle2 := r3.le; have hle3 := r1'.le; have hle4 := r2'.le; have hle5 := r3'.le; have hle6 := rk.le; refine wp_sc (wp_sq ?_); refine sq_x rfl (x_box rfl rfl) rfl ?_; rintro _ _ ⟨b4, rfl, rfl⟩; refine sq_x rfl (x_box rfl rfl) rfl ?_; rintro _ _ ⟨b5, rfl, rfl⟩; refine sq_x rfl (x_box rfl rfl) rfl ?_; rintro _ _ ⟨b6, rfl, rfl⟩; refine sq_x rfl (x_alloc ty_34 rfl) rfl ?_; rintro _ _ ⟨b8, rfl, rfl⟩; refine sq_v rfl (v_assign rfl) rfl (sq_end (qs_n (wp_sc (wp_sc (wp_sq (sq_v rfl (v_loadNB 3 ty_37 rfl rfl rfl rfl) rfl (sq_v rfl (v_loadNB 2 ty_34 rfl rfl rfl rfl) rfl (sq_u rfl (x_callv rfl en_127 (fun w s => ct_i_TensorOk _ _ _ _ _ _ _ _ _ w (r1.mono (s.get 4 rfl)) (r2.mono (s.get 4 rfl)) (r3.mono (s.get 4 rfl)))) rfl ?_)))))))); refine sq_bb 26 rfl (fun c26 => ?_) (fun c26 => ?_)
  · refine sq_v rfl (v_not rfl) rfl (sq_v rfl (v_move rfl) rfl (sq_v rfl (v_loadNB 3 ty_37 rfl rfl rfl rfl) rfl (sq_v rfl (v_loadNB 1 ty_34 rfl rfl rfl rfl) rfl (sq_u rfl (x_callv rfl en_127 (fun w s => ct_i_TensorOk _ _ _ _ _ _ _ _ _ w (r1'.mono (s.get 4 rfl)) (r2'.mono (s.get 4 rfl)) (r3'.mono (s.get 4 rfl)))) rfl (sq_v rfl (v_not rfl) rfl (sq_v rfl (v_pickf rfl rfl) rfl (sq_end (qs_n ?_)))))))); refine wp_cn _ rfl (fun c33 => ?_) (fun c33 => ?_)
    · refine wp_sc (wp_sq (sq_v rfl (v_build [.slice none 0 0, .slice none 0 0, .slice none 0 0] rfl (by kernel_rfl)) rfl ?_)); refine sq_m 0 rfl rfl (m_store 0 ty_34 rfl rfl rfl rfl (by simp [one_sl]) rfl (Nat.le_of_ble_eq_true rfl)) rfl ?_; rintro _ _ ⟨rfl, rfl⟩; refine sq_v rfl (v_assign rfl) rfl (sq_end (qs_n (wp_rt (qs_r ?_)))); exact qs_retct 0 rfl ty_34 rfl rfl rfl rfl (fin_e (i := 4) rfl (PairNo (fun h => by first | exact tensorB_false.1 c26 h.1 | exact tensorB_false.1 c33 h.2.1)))
    · refine wp_sk (qs_n (wp_sc (wp_sq ?_))); have h1 := tensorB_true.1 c26; have h2 := tensorB_true.1 c33; have hat := ten_axes h1; have hau := ten_axes h2; have htl := hat.2.1; have hul := hau.2.1; have h12 := hat.1; have h12' := hau.1; have htn := axes_nodup hat; have hun := axes_nodup hau; have htp := ten_prod h1; have hup := ten_prod h2; have hjd := joinD_prod h1 h2; refine sq_v rfl (v_loadNB 2 ty_34 rfl rfl rfl rfl) rfl (sq_v rfl (v_loadNB 1 ty_34 rfl rfl rfl rfl) rfl ?_); refine sq_x rfl (x_call rfl en_173 (fun w s => ct_u_joinAxes _ _ _ _ _ _ _ _ w (r1.mono (s.get 4 rfl)) (r2.mono (s.get 4 rfl)) (r3.mono (s.get 4 rfl)) (r1'.mono (s.get 4 rfl)) (r2'.mono (s.get 4 rfl)) (r3'.mono (s.get 4 rfl)) (by first | assumption | omega) (by first | assumption | omega) (by first | assumption | omega) (by first | assumption | omega) (by first | assumption | omega))) rfl ?_; rintro _ h38 ⟨v1, v2, bb, L, D, rfl, q1, q2, hbb, hLD⟩; refine sq_v rfl (v_move rfl) rfl (sq_v rfl (v_extract rfl rfl) rfl (sq_v rfl (v_extract rfl rfl) rfl (sq_v rfl (v_extract rfl rfl) rfl (sq_v rfl (v_assign rfl) rfl (sq_v rfl (v_assign rfl) rfl (sq_v rfl (v_assign rfl) rfl (sq_end (qs_n (wp_sc (wp_sc (wp_sq ?_))))))))))); refine sq_bb 12 rfl (fun c12 => ?_) (fun c12 => ?_)
      · refine sq_v rfl (v_move rfl) rfl (sq_v rfl (v_not rfl) rfl (sq_v rfl (v_move rfl) rfl (sq_v rfl (v_move rfl) rfl ?_))); have hnm := hbb.1 c12; obtain ⟨eL, eD⟩ := hLD c12; rw [← eD] at hjd; have hjd1 := hjd.1; have hjl := joinI_len t.l u.l; rw [← eL] at hjl; refine sq_u rfl (x_callv rfl en_133 (fun w s => ct_i_productOf _ _ w (q2.mono (s.get 0 rfl)) (by first | assumption | omega) (by first | assumption | omega))) rfl (sq_v rfl (v_gtr rfl rfl) rfl (sq_v rfl (v_pickf rfl rfl) rfl (sq_end (qs_n ?_)))); refine wp_cd rfl (fun c48 => ?_) (fun c48 => ?_)
        · refine wp_sc (wp_sq (sq_v rfl (v_build [.slice none 0 0, .slice none 0 0, .slice none 0 0] rfl (by kernel_rfl)) rfl ?_)); refine sq_m 1 rfl rfl (m_store 1 ty_34 rfl rfl rfl rfl (by simp [one_sl]) rfl (Nat.le_of_ble_eq_true rfl)) rfl ?_; rintro _ _ ⟨rfl, rfl⟩; refine sq_v rfl (v_assign rfl) rfl (sq_end (qs_n (wp_rt (qs_r ?_)))); exact qs_retct 1 rfl ty_34 rfl rfl rfl rfl (fin_e (i := 5) rfl (PairNo (fun h => by first | exact absurd (c12.symm.trans (hbb.2 h.2.2.1)) (by decide) | (have := h.2.2.2.1; rw [← eD] at this; omega))))
        · refine wp_sk (qs_n (wp_sc (wp_sq (sq_v rfl (v_move rfl) rfl (sq_v rfl (v_move rfl) rfl ?_))))); refine sq_x rfl (x_call rfl en_174 (fun w s => ct_i_keptOnly _ _ _ _ w (q1.mono (s.get 0 rfl)) (rk.mono (s.get 5 rfl)) (by first | assumption | omega))) rfl ?_; rintro v52 h52 r52; refine sq_v rfl (v_assign rfl) rfl (sq_end ?_); obtain ⟨K, hK⟩ : ∃ K, K = L.filter (fun x => decide (x ∈ ks)) := ⟨_, rfl⟩
          have hfl := List.length_filter_le (fun x => decide (x ∈ ks)) L; rw [← hK] at r52 hfl; have hKk : K = keepL t u ks := by rw [hK, eL, keepL]
          have ok := pair_ok h1 h2 hnm (by rw [← eD]; omega); obtain ⟨ht, hu, eJ⟩ := pairP.dims h1 h2 hnm; obtain ⟨f, hf⟩ : ∃ f, f = dimJ t u := ⟨_, rfl⟩
          rw [← hf] at ok ht hu eJ; have eDf : D = L.map f := by rw [eD, eJ, eL]
          have hDL : D.length = L.length := by rw [eDf]; simp
          have hKm : (K.map f).length = K.length := by simp
          have hKL : ∀ x ∈ K, x ∈ L := fun x hx => by rw [hK] at hx; exact (List.mem_filter.1 hx).1
          refine qs_n (wp_sc (wp_sq (sq_v rfl (v_move rfl) rfl (sq_v rfl (v_move rfl) rfl (sq_v rfl (v_len Tryz.underlying25 rfl r52.toR.sl) rfl ?_))))); refine sq_x rfl (x_makeI Tryz.underlying25 ty_3 rfl rfl (by omega) (by omega) (by omega)) rfl ?_; intro v56 h56 r56; refine sq_v rfl (v_build [v52, v56, .slice none 0 0] rfl (by obtain ⟨_, _, rfl⟩ := r52.toR.sl; obtain ⟨_, _, rfl⟩ := r56.toR.sl; kernel_rfl)) rfl ?_; refine sq_x rfl (x_alloc ty_34 rfl) rfl ?_; rintro _ _ ⟨b14, rfl, rfl⟩; refine sq_m 0 rfl rfl (m_store 0 ty_34 rfl rfl rfl rfl (by simp [r52.toR.sl.one, r56.toR.sl.one, one_sl]) rfl (Nat.le_of_ble_eq_true rfl)) rfl ?_; rintro _ _ ⟨rfl, rfl⟩; refine sq_end (qs_n (wp_sc (wp_sc (wp_sq (sq_v rfl (v_move rfl) rfl (sq_v rfl (v_len Tryz.underlying25 rfl r52.toR.sl) rfl (sq_v rfl (v_move rfl) rfl (sq_end (qs_n (wp_bl ?_)))))))))); refine wp_lp (σ := Nat × PH) (fun z_ => [(4, .pointer (some ⟨b4, 0, none⟩)), (5, .pointer (some ⟨b5, 0, none⟩)), (6, .pointer (some ⟨b6, 0, none⟩)), (8, .pointer (some ⟨b8, 0, none⟩)), (9, .bool false), (10, v1), (11, v2), (14, .pointer (some ⟨b14, 0, none⟩)), (58, v52), (59, num K.length), (60, num z_.1)]) (fun z_ => [box b14 [v52, v56, .slice none 0 0] 34, z_.2, h52, h38, box b8 [.slice none 0 0, .slice none 0 0, .slice none 0 0] 34, box b6 [a', b', c'] 34, box b5 [a, b, c] 34, box b4 [num k, num p, num n] 37, hp w]) (fun z_ => z_.1 ≤ K.length ∧ IntsO ((K.map f).take z_.1 ++ List.replicate ((K.map f).length - z_.1) 0) v56 z_.2) (fun z_ => K.length - z_.1) (0, h56) (⟨by (try dsimp only); omega, by (try dsimp only); simpa using r56⟩) ⟨rfl, rfl, rfl, rfl, rfl, rfl, rfl, rfl, rfl, rfl, rfl, trivial⟩ (fun _ s => s) ?_; rintro ⟨i, g⟩ ⟨hi, q⟩; dsimp only at hi q ⊢; have hle_q := q.toR.le; have hll : ((K.map f).take i ++ List.replicate ((K.map f).length - i) 0).length = K.length := by simp; omega
          refine wp_sc (wp_sq (sq_v rfl (v_lss rfl rfl) rfl (sq_end (qs_n (wp_sc ?_))))); refine wp_cd rfl (fun c61 => ?_) (fun c61 => ?_)
          · refine wp_sk (qs_n (wp_sc (wp_bl (wp_sc (wp_sq (sq_v rfl (v_move rfl) rfl (sq_v rfl (v_idxI Tryz.underlying25 ty_3 rfl rfl r52.toR (by omega) (by omega)) rfl (sq_v rfl (v_loadI (k := i) 2 ty_3 rfl rfl r52.toR (by omega)) rfl (sq_v rfl (v_assign rfl) rfl (sq_v rfl (v_assign rfl) rfl (sq_end (qs_n (wp_sc (wp_sq (sq_v rfl (v_move rfl) rfl (sq_v rfl (v_len Tryz.underlying25 rfl q1.sl) rfl (sq_v rfl (v_move rfl) rfl (sq_end (qs_n (wp_bl ?_)))))))))))))))))))); refine wp_lp (σ := Nat × (List Int) × PH) (fun z_ => [(4, .pointer (some ⟨b4, 0, none⟩)), (5, .pointer (some ⟨b5, 0, none⟩)), (6, .pointer (some ⟨b6, 0, none⟩)), (8, .pointer (some ⟨b8, 0, none⟩)), (9, .bool false), (10, v1), (11, v2), (14, .pointer (some ⟨b14, 0, none⟩)), (15, num i), (16, num (K.getD i 0)), (58, v52), (59, num K.length), (60, num i), (61, .bool (decide ((i : Int) < K.length))), (62, num i), (64, num (K.getD i 0)), (65, v1), (66, num L.length), (67, num z_.1)]) (fun z_ => [box b14 [v52, v56, .slice none 0 0] 34, z_.2.2, h52, h38, box b8 [.slice none 0 0, .slice none 0 0, .slice none 0 0] 34, box b6 [a', b', c'] 34, box b5 [a, b, c] 34, box b4 [num k, num p, num n] 37, hp w]) (fun z_ => z_.1 ≤ L.length ∧ (z_.2.1 = if K.getD i 0 ∈ L.take z_.1 then ((K.map f).take i ++ List.replicate ((K.map f).length - i) 0).set i (f (K.getD i 0)) else ((K.map f).take i ++ List.replicate ((K.map f).length - i) 0)) ∧ z_.2.1.length = K.length ∧ IntsO z_.2.1 v56 z_.2.2) (fun z_ => L.length - z_.1) (0, ((K.map f).take i ++ List.replicate ((K.map f).length - i) 0), g) (⟨by (try dsimp only); omega, by (try dsimp only); simp, hll, q⟩) ⟨rfl, rfl, rfl, rfl, rfl, rfl, rfl, rfl, rfl, rfl, rfl, rfl, rfl, rfl, rfl, rfl, rfl, rfl, rfl, trivial⟩ (fun _ s => s) ?_; rintro ⟨j, B, g2⟩ ⟨hj, hB, hBl, q2b⟩; dsimp only at hj hB hBl q2b ⊢; have hle_q2b := q2b.toR.le; refine wp_sc (wp_sq (sq_v rfl (v_lss rfl rfl) rfl (sq_end (qs_n (wp_sc ?_))))); refine wp_cd rfl (fun c68 => ?_) (fun c68 => ?_)
            · refine wp_sk (qs_n (wp_sc (wp_bl (wp_sc (wp_sq (sq_v rfl (v_move rfl) rfl (sq_v rfl (v_idxI Tryz.underlying25 ty_3 rfl rfl q1 (by omega) (by omega)) rfl (sq_v rfl (v_loadI (k := j) 3 ty_3 rfl rfl q1 (by omega)) rfl (sq_v rfl (v_assign rfl) rfl (sq_v rfl (v_assign rfl) rfl (sq_end (qs_n (wp_sc (wp_sq (sq_v rfl (v_move rfl) rfl (sq_v rfl (v_move rfl) rfl (sq_v rfl (v_eql rfl rfl) rfl (sq_end (qs_n ?_))))))))))))))))))); refine wp_cd rfl (fun c74 => ?_) (fun c74 => ?_)
              · refine wp_rj 8 [(0, true), (1, true), (2, true), (3, true), (4, true), (5, true), (6, true), (7, true), (8, false)] mixed_ok (by kernel_rfl) (rj_v rfl rfl (v_fieldAddr fd_34_1 ty_25 (by decide) rfl) rfl (rj_v rfl rfl (v_loadB 0 ty_25 rfl rfl rfl) rfl (rj_v rfl rfl (v_move rfl) rfl (rj_v rfl rfl (v_move rfl) rfl (rj_v rfl rfl (v_move rfl) rfl (rj_v rfl rfl (v_idxI Tryz.underlying25 ty_3 rfl rfl q2 (by omega) (by omega)) rfl (rj_v rfl rfl (v_loadI (k := j) 3 ty_3 rfl rfl q2 (by omega)) rfl (rj_v rfl rfl (v_idxI Tryz.underlying25 ty_3 rfl rfl q2b.toR (by omega) (by omega)) rfl ?_)))))))); refine rj_m 1 rfl rfl rfl rfl (m_storeI (k := i) 1 ty_3 rfl rfl rfl q2b (by omega)) rfl ?_; rintro _ h_q15_8 ⟨rfl, q15_8⟩; refine rj_end ?_; have eDj : D.getD j 0 = f (K.getD i 0) := by rw [eDf, map_getD (by omega), c74]
                rw [eDj] at q15_8; refine qs_bn (qs_n (wp_sq ?_)); refine sq_v rfl (v_add rfl rfl ((by unfold I64; omega))) rfl ?_; refine sq_v rfl (v_move rfl) rfl (sq_end ?_); exact qs_bk (j + 1, B.set i (f (K.getD i 0)), h_q15_8) ⟨by (try dsimp only); omega, setif_yes hB (by omega) c74, by (try dsimp only); rw [List.length_set]; exact hBl, q15_8⟩ (by simp only; omega) ⟨rfl, rfl, rfl, rfl, rfl, rfl, rfl, rfl, rfl, rfl, rfl, rfl, rfl, rfl, rfl, rfl, rfl, rfl, rfl, trivial⟩ (fun _ s => s)
              · refine wp_sk (qs_bn (qs_n (wp_sq ?_))); refine sq_v rfl (v_add rfl rfl ((by unfold I64; omega))) rfl ?_; refine sq_v rfl (v_move rfl) rfl (sq_end ?_); exact qs_bk (j + 1, B, g2) ⟨by (try dsimp only); omega, setif_no hB (by omega) c74, hBl, q2b⟩ (by simp only; omega) ⟨rfl, rfl, rfl, rfl, rfl, rfl, rfl, rfl, rfl, rfl, rfl, rfl, rfl, rfl, rfl, rfl, rfl, rfl, rfl, trivial⟩ (fun _ s => s)
            · refine wp_ex (qs_x (qs_x (qs_bx (qs_bn (qs_n (wp_sq ?_)))))); refine sq_v rfl (v_add rfl rfl ((by unfold I64; omega))) rfl ?_; refine sq_v rfl (v_move rfl) rfl (sq_end ?_); exact qs_bk (i + 1, g2) ⟨by (try dsimp only); omega, by (try dsimp only); rw [← set_prefix (by omega), map_getD (by omega)]; rw [if_pos (by rw [List.take_of_length_le (by omega)]; exact hKL _ (mem_getD (by omega)))] at hB; rw [← hB]; exact q2b⟩ (by simp only; omega) ⟨rfl, rfl, rfl, rfl, rfl, rfl, rfl, rfl, rfl, rfl, rfl, trivial⟩ (fun _ s => s)
          · refine wp_ex (qs_x (qs_x (qs_bx (qs_n (wp_sc (wp_sc (wp_sq ?_))))))); rw [List.take_of_length_le (by omega), show (K.map f).length - i = 0 by omega, List.replicate_zero, List.append_nil] at q; refine sq_v rfl (v_loadNB 0 ty_34 rfl rfl rfl rfl) rfl (sq_u rfl (x_callv rfl en_129 (fun w s => ct_i_TensorSize _ _ _ _ _ w (r52.toR.mono (s.get 2 rfl)) (q.toR.mono (s.get 1 rfl)))) rfl (sq_v rfl (v_eql rfl rfl) rfl (sq_end (qs_n ?_)))); refine wp_cd rfl (fun c87 => ?_) (fun c87 => ?_)
            · refine wp_sc (wp_sq (sq_v rfl (v_build [.slice none 0 0, .slice none 0 0, .slice none 0 0] rfl (by kernel_rfl)) rfl ?_)); refine sq_m 4 rfl rfl (m_store 4 ty_34 rfl rfl rfl rfl (by simp [one_sl]) rfl (Nat.le_of_ble_eq_true rfl)) rfl ?_; rintro _ _ ⟨rfl, rfl⟩; refine sq_v rfl (v_assign rfl) rfl (sq_end (qs_n (wp_rt (qs_r ?_)))); exact qs_retct 4 rfl ty_34 rfl rfl rfl rfl (fin_e (i := 8) rfl (PairNo (fun h => by have := h.2.2.2.2; rw [← hKk, ← hf] at this; omega)))
            · refine wp_sk (qs_n (wp_sc (wp_rj 8 [(0, true), (1, true), (2, true), (3, true), (4, true), (5, true), (6, false), (7, false), (8, false)] mixed_ok (by kernel_rfl) ?_))); have hsz : 0 ≤ sizeI K (K.map f) := (by have := sizeI_range K (K.map f); omega); obtain ⟨hK1, hK2, hKi⟩ := hkr hsz; have hk : KeepOK t u f K := (by rw [hf, hKk]; rw [hf] at ok; exact keep_ok ok (by rw [← hKk, ← hf]; exact hsz)); have hKp := hk.small; have hwr := width_range h1.1; have hring := h1.1; have hzl := zeroL_len k p n; refine rj_v rfl rfl (v_loadNB 7 ty_37 rfl rfl rfl rfl) rfl (rj_v rfl rfl (v_fieldAddr fd_34_0 ty_25 (by decide) rfl) rfl (rj_v rfl rfl (v_loadB 0 ty_25 rfl rfl rfl) rfl (rj_v rfl rfl (v_fieldAddr fd_34_1 ty_25 (by decide) rfl) rfl (rj_v rfl rfl (v_loadB 0 ty_25 rfl rfl rfl) rfl (rj_v rfl rfl (v_loadNB 7 ty_37 rfl rfl rfl rfl) rfl ?_))))); refine rj_x rfl rfl (x_call rfl en_131 (fun w s => ct_i_rawZero _ _ _ w (by first | assumption | omega))) rfl ?_; rintro v95 h95 r95; refine rj_x rfl rfl (x_call rfl en_175 (fun w s => ct_i_fillTensor _ _ _ _ _ _ _ _ _ w (r52.toR.mono (s.get 3 rfl)) (q.toR.mono (s.get 2 rfl)) (r95.toR.mono (s.get 0 rfl)) (by first | assumption | omega) (by first | assumption | omega) (by first | assumption | omega) (by first | assumption | omega) (by first | assumption | omega))) rfl ?_; rintro _ h96 ⟨va96, vb96, vc96, rfl, o96⟩; refine rj_m 2 rfl rfl rfl rfl (m_store 2 ty_34 rfl rfl rfl rfl (by simp [o96.toR.1.sl.one, o96.toR.2.1.sl.one, o96.toR.2.2.sl.one]) rfl (Nat.le_of_ble_eq_true rfl)) rfl ?_; rintro _ _ ⟨rfl, rfl⟩; refine rj_end ?_; obtain ⟨go1, go2, go3, qo1, qo2, qo3, mdo⟩ := o96; have hKd := map_dim ok.dim hk.sub; have hnd := ok.nd; have hDd := map_dim ok.dim (fun _ h => h); rw [← eL] at hnd hDd; rw [← eDf] at hDd; have hD1 : ∀ d ∈ D, 1 ≤ d := fun d hd => (hDd d hd).1; have hsA := stepsL_len L t.l t.d; have hsB := stepsL_len L u.l u.d; have hsC := stepsL_len L K (K.map f); have hA : ∀ a ∈ stepsL L t.l t.d, 0 ≤ a ∧ a ≤ 1048576 := fun a h => by have := steps_in (fun d hd => (dims_mem (axes_dims hat) d hd).1) a h; omega
              have hBs : ∀ a ∈ stepsL L u.l u.d, 0 ≤ a ∧ a ≤ 1048576 := fun a h => by have := steps_in (fun d hd => (dims_mem (axes_dims hau) d hd).1) a h; omega
              have hC : ∀ a ∈ stepsL L K (K.map f), 0 ≤ a ∧ a ≤ 1048576 := fun a h => by have := steps_in (fun d hd => (hKd d hd).1) a h; omega
              refine qs_s [h95, box b14 [va96, vb96, vc96] 34, g, h52, h38, box b8 [.slice none 0 0, .slice none 0 0, .slice none 0 0] 34, box b6 [a', b', c'] 34, box b5 [a, b, c] 34, box b4 [num k, num p, num n] 37, hp w, go1, go2, go3] (fun _ s => Sat.open (A := [h95, box b14 [va96, vb96, vc96] 34, g, h52, h38, box b8 [.slice none 0 0, .slice none 0 0, .slice none 0 0] 34, box b6 [a', b', c'] 34, box b5 [a, b, c] 34, box b4 [num k, num p, num n] 37, hp w]) mdo (s.pick [0, 1, 2, 3, 4, 5, 6, 7, 8, 9, 10] (by decide) rfl)) (qs_n (wp_sc (wp_rj 12 [(0, true), (1, true), (3, true), (4, true), (6, true), (7, true), (2, false), (5, false), (8, false), (9, true), (10, true), (11, true)] mixed_ok (by kernel_rfl) (rj_v rfl rfl (v_loadNB 7 ty_34 rfl rfl rfl rfl) rfl (rj_v rfl rfl (v_move rfl) rfl (rj_v rfl rfl (v_loadNB 6 ty_34 rfl rfl rfl rfl) rfl (rj_v rfl rfl (v_move rfl) rfl (rj_v rfl rfl (v_loadNB 1 ty_34 rfl rfl rfl rfl) rfl (rj_v rfl rfl (v_move rfl) rfl ?_))))))))); refine rj_x rfl rfl (x_call rfl en_176 (fun w s => ct_i_stridesOf _ _ _ _ _ _ _ w (r1.mono (s.get 9 rfl)) (r2.mono (s.get 9 rfl)) (q1.mono (s.get 4 rfl)) (by first | assumption | omega) (dims_mem (axes_dims hat)) (by first | assumption | omega) (by first | assumption | omega))) rfl ?_; rintro v99 h99 r99; refine rj_x rfl rfl (x_call rfl en_176 (fun w s => ct_i_stridesOf _ _ _ _ _ _ _ w (r1'.mono (s.get 10 rfl)) (r2'.mono (s.get 10 rfl)) (q1.mono (s.get 5 rfl)) (by first | assumption | omega) (dims_mem (axes_dims hau)) (by first | assumption | omega) (by first | assumption | omega))) rfl ?_; rintro v102 h102 r102; refine rj_x rfl rfl (x_call rfl en_176 (fun w s => ct_i_stridesOf K (K.map f) _ _ _ _ _ w (qo1.toR.mono (s.get 12 rfl)) (qo2.toR.mono (s.get 13 rfl)) (q1.mono (s.get 6 rfl)) (by first | assumption | omega) hKd (by first | assumption | omega) (by first | assumption | omega))) rfl ?_; rintro v105 h105 r105; refine rj_v rfl rfl (v_assign rfl) rfl (rj_v rfl rfl (v_assign rfl) rfl (rj_v rfl rfl (v_assign rfl) rfl (rj_end (qs_n (wp_sc (wp_sq (sq_v rfl (v_move rfl) rfl (sq_v rfl (v_len Tryz.underlying25 rfl q1.sl) rfl ?_)))))))); refine sq_x rfl (x_makeI Tryz.underlying25 ty_3 rfl rfl (by omega) (by omega) (by omega)) rfl ?_; intro v108 h108 r108; refine sq_v rfl (v_assign rfl) rfl (sq_end (qs_n (wp_sc (wp_sq (sq_v rfl (v_loadNB 12 ty_37 rfl rfl rfl rfl) rfl (sq_u rfl (x_callv rfl en_177 (fun w s => ct_i_rawWidth _ _ _ w)) rfl ?_)))))); refine sq_x rfl (x_makeI Tryz.underlying25 ty_3 rfl rfl (by omega) (by omega) (by omega)) rfl ?_; intro v111 h111 r111; refine sq_v rfl (v_assign rfl) rfl (sq_end (qs_n (wp_bl ?_))); refine wp_lp (σ := Nat × PH × PH × PH × (List Int)) (fun z_ => [(4, .pointer (some ⟨b4, 0, none⟩)), (5, .pointer (some ⟨b5, 0, none⟩)), (6, .pointer (some ⟨b6, 0, none⟩)), (8, .pointer (some ⟨b8, 0, none⟩)), (9, .bool false), (11, v2), (14, .pointer (some ⟨b14, 0, none⟩)), (19, v99), (20, v102), (21, v105), (22, v108), (23, v111)]) (fun z_ => [z_.2.2.2.1, z_.2.1, h105, h102, h99, h95, box b14 [va96, vb96, vc96] 34, g, h52, h38, box b8 [.slice none 0 0, .slice none 0 0, .slice none 0 0] 34, box b6 [a', b', c'] 34, box b5 [a, b, c] 34, box b4 [num k, num p, num n] 37, hp w, go1, go2, z_.2.2.1]) (fun z_ => z_.1 < (prodI D).toNat ∧ z_.2.2.2.2.length = (widthI k n).toNat ∧ IntsO (idxL D z_.1) v108 z_.2.1 ∧ IntsO (pairX k p n f t u K z_.1) vc96 z_.2.2.1 ∧ IntsO z_.2.2.2.2 v111 z_.2.2.2.1) (fun z_ => (prodI D).toNat - z_.1) (0, h108, go3, h111, (List.replicate (widthI k n : Int).toNat 0)) (⟨by (try dsimp only); omega, by (try dsimp only); simp, by (try dsimp only); rw [show ((0 : Nat) : Int) = 0 from rfl, idxL_zero, hDL]; simpa using r108, qo3, r111⟩) ⟨rfl, rfl, rfl, rfl, rfl, rfl, rfl, rfl, rfl, rfl, rfl, rfl, trivial⟩ (fun _ s => s) ?_; rintro ⟨m, gi, gx, gz, zs⟩ ⟨hm, hzs, qi, qx, qz⟩; dsimp only at hm hzs qi qx qz ⊢; have hle_qi := qi.toR.le; have hle_qx := qx.toR.le; have hle_qz := qz.toR.le; have hil := idxL_len D m; have hii := idxL_in hD1 m; have hib : ∀ b ∈ idxL D m, 0 ≤ b ∧ b ≤ 1048576 := all_of fun j hj => by have := hii.2 j (by omega); have := hjd1 j (by omega); omega
              have hpx := ok.small hk m; have ex : dotL (stepsL L t.l t.d) (idxL D m) = atI f (joinI t.l u.l) t.l m := by rw [atI, ← ht, ← eL, ← eDf]
              have ey : dotL (stepsL L u.l u.d) (idxL D m) = atI f (joinI t.l u.l) u.l m := by rw [atI, ← hu, ← eL, ← eDf]
              have ez : dotL (stepsL L K (K.map f)) (idxL D m) = atI f (joinI t.l u.l) K m := by rw [atI, ← eL, ← eDf]
              have hx0 := ok.at_t m; have hy0 := ok.at_u m; have hz0 := ok.at_k hk m; have hXr := ok.el_t m; have hYr := ok.el_u m; have hZr := (ok.all hk m).el hring hz0.1 hz0.2; have hzf := ok.fits hk m; rw [← ex] at hx0 hXr; rw [← ey] at hy0 hYr; rw [← ez] at hz0 hZr hzf; have hMr := mulL_in hring hXr hYr; have hxf := elt_fits ok.tt hx0.2; have hyf := elt_fits ok.uu hy0.2; have hz1 := Int.mul_nonneg hz0.1 (show 0 ≤ widthI k n by omega); have hz2 := Int.add_mul (dotL (stepsL L K (K.map f)) (idxL D m)) 1 (widthI k n); rw [Int.one_mul] at hz2; have hMl := hMr.1; refine wp_bl (wp_sc (wp_rj 14 [(0, true), (1, true), (2, true), (3, true), (4, true), (5, true), (8, true), (9, true), (10, true), (11, true), (6, false), (7, false), (12, false), (13, false), (14, false)] mixed_ok (by kernel_rfl) (rj_v rfl rfl (v_loadNB 13 ty_37 rfl rfl rfl rfl) rfl (rj_v rfl rfl (v_move rfl) rfl (rj_v rfl rfl (v_loadNB 13 ty_37 rfl rfl rfl rfl) rfl (rj_v rfl rfl (v_loadNB 12 ty_34 rfl rfl rfl rfl) rfl (rj_v rfl rfl (v_move rfl) rfl (rj_v rfl rfl (v_move rfl) rfl (rj_v rfl rfl (v_loadNB 13 ty_37 rfl rfl rfl rfl) rfl (rj_v rfl rfl (v_loadNB 11 ty_34 rfl rfl rfl rfl) rfl (rj_v rfl rfl (v_move rfl) rfl ?_))))))))))); refine rj_v rfl rfl (v_move rfl) rfl (rj_u rfl rfl (x_callv rfl en_179 (fun w s => ct_i_dotOf _ _ _ _ w (r99.toR.mono (s.get 4 rfl)) (qi.toR.mono (s.get 1 rfl)) (by first | assumption | omega) (by first | assumption | omega) (by first | assumption | omega) (by first | assumption | omega))) rfl (rj_u rfl rfl (x_callv rfl en_136 (fun w s => ct_i_rawElem _ _ _ _ _ _ _ _ w (by first | assumption | omega) (r3.mono (s.get 14 rfl)) (by first | assumption | omega) (by first | assumption | omega) (by first | assumption | omega))) rfl (rj_u rfl rfl (x_callv rfl en_179 (fun w s => ct_i_dotOf _ _ _ _ w (r102.toR.mono (s.get 3 rfl)) (qi.toR.mono (s.get 1 rfl)) (by first | assumption | omega) (by first | assumption | omega) (by first | assumption | omega) (by first | assumption | omega))) rfl (rj_u rfl rfl (x_callv rfl en_136 (fun w s => ct_i_rawElem _ _ _ _ _ _ _ _ w (by first | assumption | omega) (r3'.mono (s.get 14 rfl)) (by first | assumption | omega) (by first | assumption | omega) (by first | assumption | omega))) rfl ?_)))); refine rj_m 0 rfl rfl rfl rfl (x_call rfl en_178 (fun w s => ct_i_mulInto _ _ _ _ _ _ _ _ _ w _ (by first | assumption | omega) (s.get 0 rfl) qz ((eltV_read r3 (by first | assumption | omega) (by first | assumption | omega) (by first | assumption | omega)).mono (s.getR 0 14 rfl rfl (by decide))) ((eltV_read r3' (by first | assumption | omega) (by first | assumption | omega) (by first | assumption | omega)).mono (s.getR 0 14 rfl rfl (by decide))) (by first | assumption | omega) (by first | assumption | omega) (by first | assumption | omega))) rfl ?_; rintro _ h126 r126; refine rj_end (qs_n (wp_sc (wp_rj 8 [(0, true), (1, true), (2, true), (3, true), (4, true), (7, true), (5, false), (6, false), (8, false)] mixed_ok (by kernel_rfl) (rj_v rfl rfl (v_loadNB 13 ty_37 rfl rfl rfl rfl) rfl (rj_v rfl rfl (v_loadNB 13 ty_37 rfl rfl rfl rfl) rfl (rj_v rfl rfl (v_loadNB 6 ty_34 rfl rfl rfl rfl) rfl (rj_v rfl rfl (v_move rfl) rfl (rj_v rfl rfl (v_move rfl) rfl (rj_v rfl rfl (v_move rfl) rfl (rj_u rfl rfl (x_callv rfl en_179 (fun w s => ct_i_dotOf _ _ _ _ w (r105.toR.mono (s.get 2 rfl)) (qi.toR.mono (s.get 1 rfl)) (by first | assumption | omega) (by first | assumption | omega) (by first | assumption | omega) (by first | assumption | omega))) rfl (rj_u rfl rfl (x_callv rfl en_136 (fun w s => ct_i_rawElem _ _ _ _ _ _ _ _ w (by first | assumption | omega) (qx.toR.mono (s.get 17 rfl)) (by first | assumption | omega) (by first | assumption | omega) (by first | assumption | omega))) rfl ?_))))))))))); refine rj_m 17 rfl rfl rfl rfl (x_call rfl en_140 (fun w s => ct_i_addInto _ _ _ _ _ ((dotL (stepsL L K (K.map f)) (idxL D m) * widthI k n).toNat) (((dotL (stepsL L K (K.map f)) (idxL D m) + 1) * widthI k n).toNat) vc96 _ w _ (by first | assumption | omega) (s.get 17 rfl) qx (r126.toR.mono (s.getR 17 0 rfl rfl (by decide))) (by omega) (by omega) (by rw [hMl]; exact hZr) hMr)) rfl ?_; rintro _ h135 r135; refine rj_end ?_; rw [hMl] at r135; refine qs_n (wp_sc (wp_sq (sq_v rfl (v_move rfl) rfl (sq_v rfl (v_move rfl) rfl ?_)))); refine sq_m 1 rfl rfl (x_call rfl en_180 (fun w s => ct_i_nextIndex _ _ _ _ w _ (s.get 1 rfl) (q2.mono (s.getR 1 9 rfl rfl (by decide))) qi (by first | assumption | omega) (by first | assumption | omega) (by first | assumption | omega))) rfl ?_; rintro _ h138 ⟨rfl, r138⟩; refine sq_v rfl (v_not rfl) rfl (sq_end (qs_n ?_)); refine wp_cnd rfl (fun c139 => ?_) (fun c139 => ?_)
              · refine wp_sc (wp_sq (sq_v rfl (v_loadNB 6 ty_34 rfl rfl rfl rfl) rfl ?_)); refine sq_m 10 rfl rfl (m_store 10 ty_34 rfl rfl rfl rfl (by simp [qo1.toR.sl.one, qo2.toR.sl.one, r135.toR.sl.one]) rfl (Nat.le_of_ble_eq_true rfl)) rfl ?_; rintro _ _ ⟨rfl, rfl⟩; refine sq_v rfl (v_assign rfl) rfl (sq_end (qs_n (wp_rt (qs_br (qs_r (qs_br ?_)))))); refine qs_close [box b8 _ _, hp w] [go1, go2, h135] (fun _ s => s.pick [10, 14, 15, 16, 17] (by decide) rfl) (fun md => ?_); exact qs_retct 1 rfl ty_34 rfl rfl rfl rfl (fin_t 0 (i := 2) rfl rfl rfl (PairYes ⟨h1, h2, hnm, by rw [← eD]; omega, by rw [← hKk, ← hf]; exact hsz⟩ ⟨_, _, _, (by rw [← hKk, ← hf]; exact qo1), (by rw [← hKk, ← hf]; exact qo2), (by rw [← hKk, ← hf, pairT, ← eL, ← eDf, show (prodI D).toNat = m + 1 by omega, pairX, ← ex, ← ey, ← ez]; exact r135), md⟩))
              · refine wp_sk (qs_bn ?_); exact qs_bk (m + 1, h138, h135, h126, mulL k p n (elt t.x (widthI k n) (dotL (stepsL L t.l t.d) (idxL D m))) (elt u.x (widthI k n) (dotL (stepsL L u.l u.d) (idxL D m)))) ⟨by (try dsimp only); omega, hMl, r138, by (try dsimp only); rw [pairX, ← ex, ← ey, ← ez]; exact r135, r126⟩ (by simp only; omega) ⟨rfl, rfl, rfl, rfl, rfl, rfl, rfl, rfl, rfl, rfl, rfl, rfl, trivial⟩ (fun _ s => s)
      · refine sq_v rfl (v_move rfl) rfl (sq_v rfl (v_not rfl) rfl (sq_v rfl (v_move rfl) rfl (sq_s rfl rfl (sq_s rfl rfl (sq_s rfl rfl (sq_v rfl (v_pickt rfl rfl) rfl (sq_end (qs_n (wp_ct rfl (wp_sc (wp_sq (sq_v rfl (v_build [.slice none 0 0, .slice none 0 0, .slice none 0 0] rfl (by kernel_rfl)) rfl ?_)))))))))))); refine sq_m 1 rfl rfl (m_store 1 ty_34 rfl rfl rfl rfl (by simp [one_sl]) rfl (Nat.le_of_ble_eq_true rfl)) rfl ?_; rintro _ _ ⟨rfl, rfl⟩; refine sq_v rfl (v_assign rfl) rfl (sq_end (qs_n (wp_rt (qs_r ?_)))); exact qs_retct 1 rfl ty_34 rfl rfl rfl rfl (fin_e (i := 5) rfl (PairNo (fun h => by first | exact absurd (c12.symm.trans (hbb.2 h.2.2.1)) (by decide) | (have := h.2.2.2.1; rw [← eD] at this; omega))))
  · refine sq_v rfl (v_not rfl) rfl (sq_v rfl (v_move rfl) rfl (sq_s rfl rfl (sq_s rfl rfl (sq_s rfl rfl (sq_s rfl rfl (sq_v rfl (v_pickt rfl rfl) rfl (sq_end (qs_n (wp_ct rfl (wp_sc (wp_sq (sq_v rfl (v_build [.slice none 0 0, .slice none 0 0, .slice none 0 0] rfl (by kernel_rfl)) rfl ?_)))))))))))); refine sq_m 0 rfl rfl (m_store 0 ty_34 rfl rfl rfl rfl (by simp [one_sl]) rfl (Nat.le_of_ble_eq_true rfl)) rfl ?_; rintro _ _ ⟨rfl, rfl⟩; refine sq_v rfl (v_assign rfl) rfl (sq_end (qs_n (wp_rt (qs_r ?_)))); exact qs_retct 0 rfl ty_34 rfl rfl rfl rfl (fin_e (i := 4) rfl (PairNo (fun h => by first | exact tensorB_false.1 c26 h.1 | exact tensorB_false.1 c33 h.2.1)))
end Go.Proofs.YthlmjnihihbckaaGreat
namespace Go.Proofs.YthlmjnihihbckaaGreat
set_option maxRecDepth 100000
open Go.RowKit
def oneT (k p n : Int) : Ten := ⟨[], [], oneL k p n⟩
theorem one_ten {k p n : Int} (h : ringL k p n) : tensorL k p n (oneT k p n).l (oneT k p n).d (oneT k p n).x := by
  have hs : sizeI [] [] = 1 := by
    have : axesL [] [] := ⟨by decide, rfl, fun j hj => by simp at hj⟩
    rw [sizeI_yes this (by decide)]; rfl
  have ho := oneL_in h; have hw := width_range h; refine ⟨h, by simp only [oneT]; omega, ?_, ho.2⟩; have := ho.1; simp only [oneT]; rw [hs]
  omega
theorem one_mism (k p n : Int) (t : Ten) : ¬ mism t (oneT k p n) := by
  rintro ⟨i, hi, _⟩
  simp [oneT] at hi
theorem one_joinD (k p n : Int) (t : Ten) : joinD t (oneT k p n) = t.d := by simp [joinD, oneT, selP]
theorem keep_axes {k p n : Int} {t u : Ten} {f : Int → Int} {K : List Int} (ok : PairOK k p n t u f) (hs : ∀ l ∈ K, l ∈ joinI t.l u.l) (hn : K.Nodup) (h12 : K.length ≤ 12) : axesL K (K.map f) := by
  refine ⟨h12, by simp, fun j hj => ⟨?_, ?_, nodup_not_take hn hj⟩⟩
  · rcases mem_joinI.1 (hs _ (mem_getD hj)) with h | h
    · obtain ⟨i, hi, e⟩ := getD_of_mem h; rw [← e]; exact ((ten_axes ok.tt).2.2 i hi).1
    · obtain ⟨i, hi, e⟩ := getD_of_mem h; rw [← e]; exact ((ten_axes ok.uu).2.2 i hi).1
  · rw [map_getD hj]; exact ok.dim _ (hs _ (mem_getD hj))
theorem sum_pair {k p n : Int} {t : Ten} (h : tensorL k p n t.l t.d t.x) (ks : List Int) : pairP k p n t (oneT k p n) ks := by
  have h1 := one_ten h.1; have hm := one_mism k p n t; have hp := ten_prod h; have ok := pair_ok h h1 hm (by rw [one_joinD]; omega); have hd := pairP.dims h h1 hm; have ej := hd.2.2; refine ⟨h, h1, hm, by rw [one_joinD]; omega, sizeI_ge.2 ⟨keep_axes ok (fun l hl => (List.mem_filter.1 hl).1) (List.Pairwise.filter _ ok.nd) ?_, ?_⟩⟩
  · have h1 := List.length_filter_le (fun x => decide (x ∈ ks)) (joinI t.l (oneT k p n).l); have h2 := joinI_len t.l (oneT k p n).l; have h3 := (ten_axes h).1; have h4 : (oneT k p n).l.length = 0 := rfl
    unfold keepL
    omega
  · have hs := selP_prod (fun x => decide (x ∈ ks)) (joinI t.l (oneT k p n).l) (joinD t (oneT k p n)) (by rw [one_joinD]; exact fun d hd => (dims_mem (axes_dims (ten_axes h)) d hd).1); rw [ej, selP_map, ← ej, one_joinD] at hs; exact Int.le_trans hs.2 hp
open Classical in
noncomputable def sumR (k p n : Int) (t : Ten) (ks : List Int) : Ten := if tensorL k p n t.l t.d t.x then pairT k p n (dimJ t (oneT k p n)) t (oneT k p n) (keepL t (oneT k p n) ks) else ⟨[], [], []⟩
theorem sumR_no {k p n : Int} {t : Ten} {ks : List Int} (h : ¬ tensorL k p n t.l t.d t.x) : TenT (sumR k p n t ks) (tenV (.slice none 0 0) (.slice none 0 0) (.slice none 0 0)) emp := by
  rw [sumR, if_neg h]; exact ⟨_, _, _, rfl, triO_none⟩
theorem sumR_pair {k p n : Int} {t : Ten} {ks : List Int} (h : tensorL k p n t.l t.d t.x) : pairR k p n t (oneT k p n) ks = sumR k p n t ks := by
  rw [sumR, if_pos h, pairR, if_pos (sum_pair h ks)]
set_option maxHeartbeats 2000000 in
theorem ct_s_l08Sum (k p n : Int) (t : Ten) (ks : List Int) (a b c v : Value) (w : World) (r1 : IntsR t.l a (hp w)) (r2 : IntsR t.d b (hp w)) (r3 : IntsR t.x c (hp w)) (rk : IntsR ks v (hp w)) (ht : tensorL k p n t.l t.d t.x) :
    Calls Tryz.prog 100 [ringV k p n, tenV a b c, v].toArray w (Ret w emp (TenT (sumR k p n t ks))) := by
  have hring := ht.1; have hp := sum_pair ht ks; have ok := pair_ok hp.1 hp.2.1 hp.2.2.1 hp.2.2.2.1; have hk := keep_ok ok hp.2.2.2.2; have h12 := (sizeI_ge.1 hp.2.2.2.2).1.1; refine calls_in Tryz.func100 rfl Tryz.ntmps100 rfl (Sat.start w) ?_; have hle0 := r1.le; have hle1 := r2.le; have hle2 := r3.le; have hle3 := rk.le; refine wp_sc (wp_sq ?_); refine sq_x rfl (x_box rfl rfl) rfl ?_; rintro _ _ ⟨b3, rfl, rfl⟩; refine sq_x rfl (x_box rfl rfl) rfl ?_; rintro _ _ ⟨b4, rfl, rfl⟩; refine sq_x rfl (x_alloc ty_34 rfl) rfl ?_; rintro _ _ ⟨b6, rfl, rfl⟩; refine sq_end (qs_n (wp_sc (wp_rj 7 [(0, true), (1, true), (2, true), (5, true), (3, false), (4, true), (6, false), (7, false)] mixed_ok (by kernel_rfl) (rj_v rfl rfl (v_loadNB 2 ty_37 rfl rfl rfl rfl) rfl (rj_v rfl rfl (v_loadNB 1 ty_34 rfl rfl rfl rfl) rfl (rj_v rfl rfl (v_loadNB 2 ty_37 rfl rfl rfl rfl) rfl (rj_v rfl rfl (v_move rfl) rfl ?_))))))); refine rj_x rfl rfl (x_call rfl en_99 (fun w s => ct_s_l02One _ _ _ w (by first | assumption | omega))) rfl ?_; rintro v10 h10 r10; refine rj_v rfl rfl (v_build [.slice none 0 0, .slice none 0 0, v10] rfl (by obtain ⟨_, _, rfl⟩ := r10.toR.sl; kernel_rfl)) rfl ?_; refine rj_x rfl rfl (x_call rfl en_66 (fun w s => ct_s_l08Pair _ _ _ _ (oneT k p n) (dimJ t (oneT k p n)) (keepL t (oneT k p n) ks) _ _ _ _ _ _ _ _ w (r1.mono (s.get 4 rfl)) (r2.mono (s.get 4 rfl)) (r3.mono (s.get 4 rfl)) (IntsR.nil _) (IntsR.nil _) (r10.toR.mono (s.get 0 rfl)) (rk.mono (s.get 4 rfl)) ok rfl hk h12)) rfl ?_; rintro _ h13 ⟨va13, vb13, vc13, rfl, o13⟩; refine rj_m 2 rfl rfl rfl rfl (m_store 2 ty_34 rfl rfl rfl rfl (by simp [o13.toR.1.sl.one, o13.toR.2.1.sl.one, o13.toR.2.2.sl.one]) rfl (Nat.le_of_ble_eq_true rfl)) rfl ?_; rintro _ _ ⟨rfl, rfl⟩; refine rj_end (qs_n (wp_rt ?_)); exact qs_retc 2 rfl ty_34 rfl rfl rfl (fin_t 0 (i := 5) rfl rfl rfl (by rw [sumR, if_pos ht]; exact ⟨_, _, _, rfl, o13⟩))
set_option maxHeartbeats 2000000 in
theorem ct_i_SumLabels (k p n : Int) (t : Ten) (ks : List Int) (a b c v : Value) (w : World) (r1 : IntsR t.l a (hp w)) (r2 : IntsR t.d b (hp w)) (r3 : IntsR t.x c (hp w)) (rk : IntsR ks v (hp w)) :
    Calls Tryz.prog 60 [ringV k p n, tenV a b c, v].toArray w (Ret w emp (TenT (sumR k p n t ks))) := by
  refine calls_in Tryz.func60 rfl Tryz.ntmps60 rfl (Sat.start w) ?_; have hle0 := r1.le; have hle1 := r2.le; have hle2 := r3.le; have hle3 := rk.le; refine wp_sc (wp_sq ?_); refine sq_x rfl (x_box rfl rfl) rfl ?_; rintro _ _ ⟨b3, rfl, rfl⟩; refine sq_x rfl (x_box rfl rfl) rfl ?_; rintro _ _ ⟨b4, rfl, rfl⟩; refine sq_x rfl (x_alloc ty_34 rfl) rfl ?_; rintro _ _ ⟨b6, rfl, rfl⟩; refine sq_end (qs_n (wp_sc (wp_sc (wp_sq (sq_v rfl (v_loadNB 2 ty_37 rfl rfl rfl rfl) rfl (sq_v rfl (v_loadNB 1 ty_34 rfl rfl rfl rfl) rfl (sq_u rfl (x_callv rfl en_127 (fun w s => ct_i_TensorOk _ _ _ _ _ _ _ _ _ w (r1.mono (s.get 3 rfl)) (r2.mono (s.get 3 rfl)) (r3.mono (s.get 3 rfl)))) rfl (sq_v rfl (v_not rfl) rfl (sq_end (qs_n ?_)))))))))); refine wp_cn _ rfl (fun c12 => ?_) (fun c12 => ?_)
  · refine wp_sc (wp_sq (sq_v rfl (v_build [.slice none 0 0, .slice none 0 0, .slice none 0 0] rfl (by kernel_rfl)) rfl ?_)); refine sq_m 0 rfl rfl (m_store 0 ty_34 rfl rfl rfl rfl (by simp [one_sl]) rfl (Nat.le_of_ble_eq_true rfl)) rfl ?_; rintro _ _ ⟨rfl, rfl⟩; refine sq_end (qs_n (wp_rt (qs_r ?_))); exact qs_retc 0 rfl ty_34 rfl rfl rfl (fin_e (i := 3) rfl (sumR_no (tensorB_false.1 c12)))
  · refine wp_sk (qs_n (wp_sc ?_)); refine wp_ra (σ := Nat × PH × PH × Value × Value × Value × Value × Value × Value) 11 (fun z_ => TriO ⟨[], [], oneL k p n⟩ z_.2.2.2.1 z_.2.2.2.2.1 z_.2.2.2.2.2.1 z_.2.2.1 ∧ TriO (pairR k p n t ⟨[], [], oneL k p n⟩ ks) z_.2.2.2.2.2.2.1 z_.2.2.2.2.2.2.2.1 z_.2.2.2.2.2.2.2.2 z_.2.1) (fun z_ => [(6, .pointer (some ⟨b6, 0, none⟩)), (7, .pointer (some ⟨z_.1, 0, none⟩)), (12, .bool (!(tensorB k p n t.l t.d t.x)))]) (fun z_ => [box z_.1 [z_.2.2.2.2.2.2.1, z_.2.2.2.2.2.2.2.1, z_.2.2.2.2.2.2.2.2] 34, z_.2.1, z_.2.2.1, box b6 [.slice none 0 0, .slice none 0 0, .slice none 0 0] 34, box b4 [a, b, c] 34, box b3 [num k, num p, num n] 37, hp w]) mixed_ok (by kernel_rfl) ?_ ?_
    · refine rak_of ?_; have ht := tensorB_true.1 c12; have hring := ht.1; refine rak_v (i := 0) (by kernel_rfl) rfl rfl (v_loadNB 2 ty_37 rfl rfl rfl rfl) rfl (rak_v (i := 1) (by kernel_rfl) rfl rfl (v_loadNB 1 ty_34 rfl rfl rfl rfl) rfl (rak_v (i := 2) (by kernel_rfl) rfl rfl (v_loadNB 2 ty_37 rfl rfl rfl rfl) rfl (rak_v (i := 4) (by kernel_rfl) rfl rfl (v_move rfl) rfl ?_))); refine rak_2 (i := 3) (j := 9) (by kernel_rfl) ?_ ?_
      · refine rok_x rfl rfl (x_call rfl en_103 (fun w s => ct_i_scalarOne _ _ _ w (by first | assumption | omega))) rfl ?_; rintro _ h18 ⟨va18, vb18, vc18, rfl, o18⟩; refine rak_2 (i := 5) (j := 9) (by kernel_rfl) ?_ ?_
        · refine rok_x rfl rfl (x_call rfl en_73 (fun w s => ct_i_ContractPair _ _ _ _ _ _ _ _ _ _ _ _ _ w (r1.mono (s.get 4 rfl)) (r2.mono (s.get 4 rfl)) (r3.mono (s.get 4 rfl)) (o18.toR.1.mono (s.get 0 rfl)) (o18.toR.2.1.mono (s.get 0 rfl)) (o18.toR.2.2.mono (s.get 0 rfl)) (rk.mono (s.get 4 rfl)))) rfl ?_; rintro _ h20 ⟨va20, vb20, vc20, rfl, o20⟩; refine rak_rk [(6, true), (7, true), (8, true), (9, false), (10, false), (11, false)] (by kernel_rfl) rfl (rk_v rfl rfl (v_move rfl) rfl (rk_v rfl rfl (v_extract rfl rfl) rfl (rk_v rfl rfl (v_extract rfl rfl) rfl ?_))); refine rk_xb rfl rfl (x_alloc ty_34 rfl) rfl ?_; rintro _ _ ⟨b7, rfl, rfl⟩; refine rk_m 0 rfl rfl rfl rfl (m_store 0 ty_34 rfl rfl rfl rfl (by simp [o20.toR.1.sl.one, o20.toR.2.1.sl.one, o20.toR.2.2.sl.one]) rfl (Nat.le_of_ble_eq_true rfl)) rfl ?_; rintro _ _ ⟨rfl, rfl⟩; refine rk_fv rfl rfl (v_assign rfl) rfl (rk_end ?_); exact qs_mid (b7, h20, h18, va18, vb18, vc18, va20, vb20, vc20) ⟨o18, o20⟩ ⟨rfl, rfl, rfl, trivial⟩ (fun _ s => s.pick [0, 1, 2, 3, 4, 5, 6] (by decide) rfl)
        · refine rok_xb rfl rfl (x_alloc ty_34 rfl) rfl ?_; rintro _ _ ⟨b7, rfl, rfl⟩; refine rak_rk [(5, false), (6, true), (7, true), (8, true), (10, false), (11, false)] (by kernel_rfl) rfl ?_; refine rk_x rfl rfl (x_call rfl en_73 (fun w s => ct_i_ContractPair _ _ _ _ _ _ _ _ _ _ _ _ _ w (r1.mono (s.get 5 rfl)) (r2.mono (s.get 5 rfl)) (r3.mono (s.get 5 rfl)) (o18.toR.1.mono (s.get 1 rfl)) (o18.toR.2.1.mono (s.get 1 rfl)) (o18.toR.2.2.mono (s.get 1 rfl)) (rk.mono (s.get 5 rfl)))) rfl ?_; rintro _ h20 ⟨va20, vb20, vc20, rfl, o20⟩; refine rk_v rfl rfl (v_move rfl) rfl (rk_v rfl rfl (v_extract rfl rfl) rfl (rk_v rfl rfl (v_extract rfl rfl) rfl ?_)); refine rk_m 1 rfl rfl rfl rfl (m_store 1 ty_34 rfl rfl rfl rfl (by simp [o20.toR.1.sl.one, o20.toR.2.1.sl.one, o20.toR.2.2.sl.one]) rfl (Nat.le_of_ble_eq_true rfl)) rfl ?_; rintro _ _ ⟨rfl, rfl⟩; refine rk_fv rfl rfl (v_assign rfl) rfl (rk_end ?_); exact qs_mid (b7, h20, h18, va18, vb18, vc18, va20, vb20, vc20) ⟨o18, o20⟩ ⟨rfl, rfl, rfl, trivial⟩ (fun _ s => s.pick [1, 0, 2, 3, 4, 5, 6] (by decide) rfl)
      · refine rok_xb rfl rfl (x_alloc ty_34 rfl) rfl ?_; rintro _ _ ⟨b7, rfl, rfl⟩; refine rak_rk [(3, false), (5, false), (6, true), (7, true), (8, true), (10, false), (11, false)] (by kernel_rfl) rfl ?_; refine rk_x rfl rfl (x_call rfl en_103 (fun w s => ct_i_scalarOne _ _ _ w (by first | assumption | omega))) rfl ?_; rintro _ h18 ⟨va18, vb18, vc18, rfl, o18⟩; refine rk_x rfl rfl (x_call rfl en_73 (fun w s => ct_i_ContractPair _ _ _ _ _ _ _ _ _ _ _ _ _ w (r1.mono (s.get 5 rfl)) (r2.mono (s.get 5 rfl)) (r3.mono (s.get 5 rfl)) (o18.toR.1.mono (s.get 0 rfl)) (o18.toR.2.1.mono (s.get 0 rfl)) (o18.toR.2.2.mono (s.get 0 rfl)) (rk.mono (s.get 5 rfl)))) rfl ?_; rintro _ h20 ⟨va20, vb20, vc20, rfl, o20⟩; refine rk_v rfl rfl (v_move rfl) rfl (rk_v rfl rfl (v_extract rfl rfl) rfl (rk_v rfl rfl (v_extract rfl rfl) rfl ?_)); refine rk_m 2 rfl rfl rfl rfl (m_store 2 ty_34 rfl rfl rfl rfl (by simp [o20.toR.1.sl.one, o20.toR.2.1.sl.one, o20.toR.2.2.sl.one]) rfl (Nat.le_of_ble_eq_true rfl)) rfl ?_; rintro _ _ ⟨rfl, rfl⟩; refine rk_fv rfl rfl (v_assign rfl) rfl (rk_end ?_); exact qs_mid (b7, h20, h18, va18, vb18, vc18, va20, vb20, vc20) ⟨o18, o20⟩ ⟨rfl, rfl, rfl, trivial⟩ (fun _ s => s.pick [2, 0, 1, 3, 4, 5, 6] (by decide) rfl)
    · rintro ⟨b7, h20, h18, va18, vb18, vc18, va20, vb20, vc20⟩ ⟨o18, o20⟩; dsimp only at o18 o20 ⊢; refine qs_n (wp_sc (wp_sq (sq_v rfl (v_loadNB 0 ty_34 rfl rfl rfl rfl) rfl ?_))); refine sq_m 3 rfl rfl (m_store 3 ty_34 rfl rfl rfl rfl (by simp [o20.toR.1.sl.one, o20.toR.2.1.sl.one, o20.toR.2.2.sl.one]) rfl (Nat.le_of_ble_eq_true rfl)) rfl ?_; rintro _ _ ⟨rfl, rfl⟩; refine sq_end (qs_n (wp_rt ?_)); exact qs_retc 3 rfl ty_34 rfl rfl rfl (fin_t 1 (i := 6) rfl rfl rfl (by have ht := tensorB_true.1 c12; rw [← sumR_pair ht]; exact ⟨_, _, _, rfl, o20⟩))
end Go.Proofs.YthlmjnihihbckaaGreat
namespace Go.Proofs.YthlmjnihihbckaaGreat
set_option maxRecDepth 100000
open Go.RowKit
def TensL (ts : List Ten) (cs : List Value) (h : PH) : Prop := cs.length = ts.length * 3 ∧ ∀ (i : Nat) (t : Ten), ts[i]? = some t → TenR t ((cs.drop (i * 3)).take 3) h
theorem TensL.nil (h : PH) : TensL [] [] h := ⟨rfl, fun i x e => by simp at e⟩
theorem TensL.mono {ts : List Ten} {cs : List Value} {h h' : PH} (r : TensL ts cs h) (l : PLe h h') : TensL ts cs h' := ⟨r.1, fun i x e => (r.2 i x e).mono l⟩
theorem TensL.snoc {ts : List Ten} {cs : List Value} {h : PH} (r : TensL ts cs h) {t : Ten} {a b c : Value} (r1 : IntsR t.l a h) (r2 : IntsR t.d b h) (r3 : IntsR t.x c h) : TensL (ts ++ [t]) (cs ++ [a, b, c]) h := by
  refine ⟨by simp [r.1]; omega, fun i y e => ?_⟩
  by_cases hi : i < ts.length
  · rw [List.getElem?_append_left hi] at e; have := r.2 i y e; have e2 : ((cs ++ [a, b, c]).drop (i * 3)).take 3 = (cs.drop (i * 3)).take 3 := by
      rw [List.drop_append, List.take_append]; have hl : 3 - (cs.drop (i * 3)).length = 0 := by simp [r.1]; omega
      rw [hl, List.take_zero, List.append_nil]
    rw [e2]; exact this
  · have hlt := (List.getElem?_eq_some_iff.1 e).1
    simp at hlt
    have : i = ts.length := by omega
    subst this; rw [List.getElem?_append_right (by omega)] at e
    simp at e
    subst e; have e2 : ((cs ++ [a, b, c]).drop (ts.length * 3)).take 3 = [a, b, c] := by
      rw [← r.1, List.drop_left]; rfl
    rw [e2]; exact ⟨a, b, c, rfl, r1, r2, r3⟩
theorem TensL.tens {ts : List Ten} {cs : List Value} {v : Value} {h : PH} (r : TensL ts cs h) (rr : RowR cs ts.length 3 v h) : TensR ts v h := ⟨cs, rr, r.2⟩
theorem PUn.mono_r {a q q' : PH} (l : PLe q q') : PLe (PUn a q) (PUn a q') := fun k o e => by
  unfold PUn at *
  split at e
  · exact e
  · exact l k o e
theorem PUn.mono_l {a b q : PH} (l : PLe a b) (d : PDj b q) : PLe (PUn a q) (PUn b q) := fun k o e => by
  unfold PUn at *
  split at e
  · rename_i x hx; cases e; rw [l k _ hx]
  · rcases d k with h1 | h1
    · rw [h1]; exact e
    · rw [h1] at e; cases e
theorem PDj.rest {w : World} {h hs : PH} (l : PLe hs h) : PDj hs (restP w h) := fun k => by
  cases e : hs k with
  | none => exact .inl rfl
  | some o => right; simp [restP, l k o e]
theorem Sat.join {w0 w : World} {HS : List PH} {a b : PH} (s : Sat w0 (a :: b :: HS) w) : Sat w0 (PUn a b :: HS) w := s.merge
def shTens (f : Int → Int) (s : Sh) : List Ten := s.all.map fun l => ⟨l, l.map f, []⟩
theorem shTens_len (f : Int → Int) (s : Sh) : (shTens f s).length = s.all.length := by simp [shTens]
theorem shTens_at {f : Int → Int} {s : Sh} {i : Nat} {t : Ten} (h : (shTens f s)[i]? = some t) : t = ⟨s.lab i, (s.lab i).map f, []⟩ := by
  simp only [shTens, List.getElem?_map, Option.map_eq_some_iff] at h; obtain ⟨l, h1, h2⟩ := h; have : s.lab i = l := by simp [Sh.lab, List.getD, h1]
  rw [this, h2]
structure SpR (f : Int → Int) (s : Sh) (va vg : Value) (b : Nat) (h : PH) : Prop where
  ok : s.ok
  c0 : cellP h b 0 = some va
  c1 : cellP h b 1 = some vg
  all : TensR (shTens f s) va h
  gone : BoolsR s.gone vg h
def SpO (f : Int → Int) (s : Sh) (bb : Nat) (h q : PH) : Prop :=
  s.ok ∧ ∃ va vg ha hg hs cs, RowO 34 cs s.all.length 3 va ha ∧ BoolsO s.gone vg hg ∧ TensL (shTens f s) cs (PUn hs q) ∧ Made h [box bb [va, vg] 220, ha, hg, hs]
/-- What is to be kept, of the first k. -/
noncomputable def keepTo (op : List Int) (s : Sh) (a b : Int) (k : Nat) : List Int := op ++ ((List.range k).filter fun i => decide (s.gone.getD i false = false ∧ (i : Int) ≠ a ∧ (i : Int) ≠ b)).flatMap s.lab
theorem keepTo_yes {op : List Int} {s : Sh} {a b : Int} {k : Nat} (h : s.gone.getD k false = false ∧ (k : Int) ≠ a ∧ (k : Int) ≠ b) : keepTo op s a b (k + 1) = keepTo op s a b k ++ s.lab k := by
  unfold keepTo
  rw [List.range_succ, List.filter_append, List.filter_cons_of_pos (by simpa using h), List.flatMap_append]
  simp
theorem keepTo_no {op : List Int} {s : Sh} {a b : Int} {k : Nat} (h : ¬ (s.gone.getD k false = false ∧ (k : Int) ≠ a ∧ (k : Int) ≠ b)) : keepTo op s a b (k + 1) = keepTo op s a b k := by
  unfold keepTo
  rw [List.range_succ, List.filter_append, List.filter_cons_of_neg (by simpa using h)]
  simp
theorem keepTo_len {op : List Int} {s : Sh} {a b : Int} (h : ∀ i, (s.lab i).length ≤ 100) : ∀ k, (keepTo op s a b k).length ≤ op.length + 100 * k
  | 0 => by simp [keepTo]
  | k + 1 => by
    have ih := keepTo_len (op := op) (a := a) (b := b) h k
    by_cases hc : s.gone.getD k false = false ∧ (k : Int) ≠ a ∧ (k : Int) ≠ b
    · rw [keepTo_yes hc, List.length_append]; have := h k; omega
    · rw [keepTo_no hc]; omega
theorem mem_keepTo {op : List Int} {s : Sh} {a b : Nat} {x : Int} : x ∈ keepTo op s a b s.all.length ↔ s.kept op a b x := by
  simp only [keepTo, List.mem_append, List.mem_flatMap, List.mem_filter, List.mem_range, decide_eq_true_eq, Sh.kept, mem_ixs]; refine or_congr Iff.rfl (exists_congr fun i => ?_)
  constructor
  · rintro ⟨⟨h1, h2, h3, h4⟩, h5⟩; exact ⟨⟨h1, h2⟩, by omega, by omega, h5⟩
  · rintro ⟨⟨h1, h2⟩, h3, h4, h5⟩; exact ⟨⟨h1, h2, by omega, by omega⟩, h5⟩
theorem ct_s_l17Keep (f : Int → Int) (sh : Sh) (op : List Int) (va vg vo : Value) (bb : Nat) (a b : Int) (w : World) (r : SpR f sh va vg bb (hp w)) (ro : IntsR op vo (hp w)) (hfi : sh.fine) (hall : sh.all.length ≤ 100000) (hop : op.length ≤ 1048576) :
    Calls Tryz.prog 253 [.pointer (some ⟨bb, 0, none⟩), vo, num a, num b].toArray w (Ret w emp (IntsO (keepTo op sh a b sh.all.length))) := by
  have ra := r.all; have rg := r.gone; have hln := shTens_len f sh; have hgl : sh.gone.length = sh.all.length := hfi.1; refine calls_in Tryz.func253 rfl Tryz.ntmps253 rfl (Sat.start w) ?_; have hle0 := ro.le; have hle1 := ra.le; obtain ⟨cs_ra, rr_ra, hc_ra⟩ := ra.at; have hle2 := rg.le; refine wp_sc (wp_sq (sq_v rfl (v_assign rfl) rfl (sq_end (qs_n (wp_sc (wp_sq (sq_v rfl (v_move rfl) rfl ?_))))))); refine sq_x rfl (x_call rfl en_112 (fun w s => ct_s_l05Ints _ _ w (ro.mono (s.get 0 rfl)) (by first | assumption | omega))) rfl ?_; rintro v13 h13 r13; refine sq_v rfl (v_assign rfl) rfl (sq_end (qs_n (wp_sc (wp_sc (wp_sq (sq_v rfl (v_move rfl) rfl (sq_v rfl (v_nilCheck rfl) rfl (sq_v rfl (v_fieldAddr fd_220_0 ty_38 (by decide) rfl) rfl (sq_v rfl (v_load 1 ty_38 rfl rfl r.c0) rfl (sq_v rfl (v_len Tryz.underlying38 rfl ra.sl) rfl (sq_v rfl (v_move rfl) rfl (sq_end (qs_n (wp_bl ?_)))))))))))))); refine wp_lp (σ := Nat × Value × PH) (fun z_ => [(0, .pointer (some ⟨bb, 0, none⟩)), (2, num a), (3, num b), (8, .slice none 0 0), (9, z_.2.1), (17, va), (18, num (shTens f sh).length), (19, num z_.1)]) (fun z_ => [z_.2.2, hp w]) (fun z_ => z_.1 ≤ sh.all.length ∧ IntsO (keepTo op sh a b z_.1) z_.2.1 z_.2.2) (fun z_ => sh.all.length - z_.1) (0, v13, h13) (⟨by (try dsimp only); omega, by (try dsimp only); simpa [keepTo] using r13⟩) ⟨rfl, rfl, rfl, rfl, rfl, rfl, rfl, rfl, trivial⟩ (fun _ s => s) ?_; rintro ⟨i, lv, lh⟩ ⟨hi, q⟩; dsimp only at hi q ⊢; have hle_q := q.toR.le; have hkl := keepTo_len (op := op) (a := a) (b := b) (fun i => hfi.few i) i; refine wp_sc (wp_sq (sq_v rfl (v_lss rfl rfl) rfl (sq_end (qs_n (wp_sc ?_))))); refine wp_cd rfl (fun c20 => ?_) (fun c20 => ?_)
  · refine wp_sk (qs_n (wp_sc (wp_bl (wp_sc (wp_sq (sq_v rfl (v_move rfl) rfl ?_)))))); obtain ⟨t22, a22, b22, c22, ht22, hcs22, rl22, rd22, rx22⟩ := hc_ra (i) (by first | omega | (rw [List.length_set]; omega)); refine sq_v rfl (v_indexAddr Tryz.underlying38 ty_34 rfl rfl rr_ra (by decide) (by omega) (by omega)) rfl ?_; refine sq_v rfl (v_loadNE 1 ty_34 rfl rfl rr_ra (by have := rr_ra.1; omega) rfl hcs22) rfl ?_; refine sq_x rfl (x_alloc ty_34 rfl) rfl ?_; rintro _ _ ⟨b11, rfl, rfl⟩; refine sq_v rfl (v_assign rfl) rfl ?_; refine sq_m 0 rfl rfl (m_store 0 ty_34 rfl rfl rfl rfl (by simp [rl22.sl.one, rd22.sl.one, rx22.sl.one]) rfl (Nat.le_of_ble_eq_true rfl)) rfl ?_; rintro _ _ ⟨rfl, rfl⟩; refine sq_end ?_; have et := shTens_at ht22; have etl : t22.l = sh.lab i := by rw [et]
    have hlf := hfi.few i; rw [← etl] at hlf; refine qs_n (wp_sc (wp_sq (sq_v rfl (v_move rfl) rfl (sq_v rfl (v_nilCheck rfl) rfl (sq_v rfl (v_fieldAddr fd_220_1 ty_161 (by decide) rfl) rfl (sq_v rfl (v_load 2 ty_161 rfl rfl r.c1) rfl (sq_v rfl (v_move rfl) rfl (sq_v rfl (v_idxB Tryz.underlying161 ty_4 rfl rfl rg (by omega) (by omega)) rfl (sq_v rfl (v_loadBl (k := i) 2 ty_4 rfl rfl rg (by omega)) rfl ?_))))))))); refine sq_bb 30 rfl (fun c30 => ?_) (fun c30 => ?_)
    · refine sq_v rfl (v_not rfl) rfl (sq_v rfl (v_move rfl) rfl (sq_s rfl rfl (sq_s rfl rfl (sq_s rfl rfl (sq_v rfl (v_pickf rfl rfl) rfl (sq_v rfl (v_move rfl) rfl (sq_s rfl rfl (sq_s rfl rfl (sq_s rfl rfl ?_))))))))); refine sq_v rfl (v_pickf rfl rfl) rfl (sq_end (qs_n (wp_cf rfl (wp_sk (qs_bn (qs_n (wp_sq ?_))))))); refine sq_v rfl (v_add rfl rfl ((by unfold I64; omega))) rfl ?_; refine sq_v rfl (v_move rfl) rfl (sq_end ?_); exact qs_bk (i + 1, lv, lh) ⟨by (try dsimp only); omega, by (try dsimp only); rw [keepTo_no (fun h => by rw [c30] at h; exact absurd h.1 (by decide))]; exact q⟩ (by simp only; omega) ⟨rfl, rfl, rfl, rfl, rfl, rfl, rfl, rfl, trivial⟩ (fun _ s => s.pick [1, 2] (by decide) rfl)
    · refine sq_v rfl (v_not rfl) rfl (sq_v rfl (v_move rfl) rfl (sq_v rfl (v_move rfl) rfl (sq_v rfl (v_move rfl) rfl (sq_v rfl (v_neq rfl rfl) rfl (sq_v rfl (v_pickt rfl rfl) rfl ?_))))); refine sq_bd 36 rfl (fun c36 => ?_) (fun c36 => ?_)
      · refine sq_v rfl (v_move rfl) rfl (sq_v rfl (v_move rfl) rfl (sq_v rfl (v_move rfl) rfl (sq_v rfl (v_neq rfl rfl) rfl (sq_v rfl (v_pickt rfl rfl) rfl (sq_end (qs_n ?_)))))); refine wp_cd rfl (fun c41 => ?_) (fun c41 => ?_)
        · refine wp_sq (sq_v rfl (v_move rfl) rfl (sq_v rfl (v_fieldAddr fd_34_0 ty_25 (by decide) rfl) rfl (sq_v rfl (v_loadB 0 ty_25 rfl rfl rfl) rfl ?_))); refine sq_m 1 rfl rfl (m_appI 1 2 Tryz.underlying25 ty_3 rfl rfl rfl rfl q rfl rl22 (by omega)) rfl ?_; intro v45 h_r45 r45; refine sq_v rfl (v_assign rfl) rfl (sq_end (qs_bn (qs_n (wp_sq ?_)))); refine sq_v rfl (v_add rfl rfl ((by unfold I64; omega))) rfl ?_; refine sq_v rfl (v_move rfl) rfl (sq_end ?_); exact qs_bk (i + 1, v45, h_r45) ⟨by (try dsimp only); omega, by (try dsimp only); rw [keepTo_yes ⟨c30, by omega, by omega⟩, ← etl]; exact r45⟩ (by simp only; omega) ⟨rfl, rfl, rfl, rfl, rfl, rfl, rfl, rfl, trivial⟩ (fun _ s => s.pick [1, 2] (by decide) rfl)
        · refine wp_sk (qs_bn (qs_n (wp_sq ?_))); refine sq_v rfl (v_add rfl rfl ((by unfold I64; omega))) rfl ?_; refine sq_v rfl (v_move rfl) rfl (sq_end ?_); exact qs_bk (i + 1, lv, lh) ⟨by (try dsimp only); omega, by (try dsimp only); rw [keepTo_no (fun h => h.2.2 (by omega))]; exact q⟩ (by simp only; omega) ⟨rfl, rfl, rfl, rfl, rfl, rfl, rfl, rfl, trivial⟩ (fun _ s => s.pick [1, 2] (by decide) rfl)
      · refine sq_v rfl (v_move rfl) rfl (sq_s rfl rfl (sq_s rfl rfl (sq_s rfl rfl (sq_v rfl (v_pickf rfl rfl) rfl (sq_end (qs_n (wp_cf rfl (wp_sk (qs_bn (qs_n (wp_sq ?_))))))))))); refine sq_v rfl (v_add rfl rfl ((by unfold I64; omega))) rfl ?_; refine sq_v rfl (v_move rfl) rfl (sq_end ?_); exact qs_bk (i + 1, lv, lh) ⟨by (try dsimp only); omega, by (try dsimp only); rw [keepTo_no (fun h => h.2.1 (by omega))]; exact q⟩ (by simp only; omega) ⟨rfl, rfl, rfl, rfl, rfl, rfl, rfl, rfl, trivial⟩ (fun _ s => s.pick [1, 2] (by decide) rfl)
  · refine wp_ex (qs_x (qs_x (qs_bx (qs_n (wp_sc (wp_sq (sq_v rfl (v_move rfl) rfl (sq_v rfl (v_assign rfl) rfl (sq_end (qs_n (wp_rt ?_))))))))))); exact qs_ret1 rfl rfl (fin_t 0 (i := 1) rfl rfl rfl (by rw [show sh.all.length = i by omega]; exact q))
theorem SpR.of {f : Int → Int} {s : Sh} {va vg : Value} {bb : Nat} {h ha hg X : PH} {cs : List Value} (hok : s.ok) (hb : PLe (box bb [va, vg] 220) h) (ra : RowO 34 cs s.all.length 3 va ha) (la : PLe ha h) (rt : TensL (shTens f s) cs X) (lx : PLe X h) (rg : BoolsO s.gone vg hg) (lg : PLe hg h) : SpR f s va vg bb h :=
  ⟨hok, cellP.mono hb (by rw [cellP_box]; rfl), cellP.mono hb (by rw [cellP_box]; rfl), (rt.mono lx).tens (by rw [shTens_len]; exact ra.toR.mono la), rg.toR.mono lg⟩
noncomputable def costL (f : Int → Int) (s : Sh) (a b : Nat) : Int := min 1000000000 (prodI ((joinI (s.lab a) (s.lab b)).map f))
theorem res_keep {op : List Int} {s : Sh} {a b : Nat} : (joinI (s.lab a) (s.lab b)).filter (fun x => decide (x ∈ keepTo op s a b s.all.length)) = s.res op a b := by
  unfold Sh.res
  refine List.filter_congr fun x _ => ?_; rw [decide_eq_decide]; exact mem_keepTo
theorem step_tens {f : Int → Int} {op : List Int} {s : Sh} {a b : Nat} : shTens f (s.step op a b) = shTens f s ++ [⟨s.res op a b, (s.res op a b).map f, []⟩] := by simp [shTens, Sh.step]
set_option maxHeartbeats 2000000 in
theorem ct_s_l17Step (f : Int → Int) (sh : Sh) (op : List Int) (vo : Value) (bb : Nat) (x y : Int) (w : World) (h q : PH) (hle : PLe h (hp w)) (hq : PLe q (restP w h)) (rs : SpO f sh bb h q) (ro : IntsR op vo (restP w h))
    (hfi : sh.fine) (hfit : ∀ i, ∀ l ∈ sh.lab i, 1 ≤ f l ∧ f l ≤ 8) (hst : stepOk sh ⟨x, y⟩) (hall : sh.all.length ≤ 1000) (hop : op.length ≤ 1048576) :
    Calls Tryz.prog 251 [.pointer (some ⟨bb, 0, none⟩), vo, stepV x y].toArray w (Ret w h (fun u h' => u = num (costL f sh x.toNat y.toNat) ∧ SpO f (sh.step op x.toNat y.toNat) bb h' q)) := by
  obtain ⟨hok, va, vg, ha, hg, hs, cs, ra, rg, rt, md⟩ := rs; obtain ⟨⟨hx0, hx1, hx2⟩, ⟨hy0, hy1, hy2⟩, hxy⟩ := hst; dsimp only at hx0 hx1 hx2 hy0 hy1 hy2 hxy; have hgl : sh.gone.length = sh.all.length := hok; have hsl : PLe hs h := md.le hs (by simp); have hdr := PDj.rest (w := w) hsl; have rt' := rt.mono (PUn.mono_r (a := hs) hq); have rox := ro.mono (PLe.un_r hdr); have rr := ra.toR; have hln := shTens_len f sh; have hc : ∀ i, i < sh.all.length → ∃ t a b c, (shTens f sh)[i]? = some t ∧ (cs.drop (i * 3)).take 3 = [a, b, c] ∧ IntsR t.l a (PUn hs (restP w h)) ∧ IntsR t.d b (PUn hs (restP w h)) ∧ IntsR t.x c (PUn hs (restP w h)) := fun i hi => by
    have ht := List.getElem?_eq_getElem (l := shTens f sh) (i := i) (by omega); obtain ⟨a, b, c, e, r1, r2, r3⟩ := rt'.2 i _ ht; exact ⟨_, a, b, c, ht, e, r1, r2, r3⟩
  refine calls_in Tryz.func251 rfl Tryz.ntmps251 rfl (Sat.merge (Sat.pick (HS' := [hs, restP w h, box bb [va, vg] _, ha, hg]) (Sat.open (A := [restP w h]) md (Sat.start2 hle)) [4, 0, 1, 2, 3] (by decide) rfl)) ?_; have hle0 := rox.le; have hle3 := rg.toR.le; refine wp_sc (wp_sq ?_); refine sq_x rfl (x_box rfl rfl) rfl ?_; rintro _ _ ⟨b5, rfl, rfl⟩; refine sq_v rfl (v_assign rfl) rfl (sq_end (qs_n (wp_sc (wp_rj 24 [(0, true), (1, true), (2, true), (3, true), (4, true), (5, true), (6, true), (7, true), (8, true), (9, true), (10, true), (11, true), (12, true), (13, true), (14, true), (15, true), (16, false), (17, true), (18, true), (19, true), (20, true), (21, true), (22, true), (23, true)] mixed_ok (by kernel_rfl) (rj_v rfl rfl (v_move rfl) rfl (rj_v rfl rfl (v_nilCheck rfl) rfl (rj_v rfl rfl (v_fieldAddr fd_220_0 ty_38 (by decide) rfl) rfl (rj_v rfl rfl (v_loadB 2 ty_38 rfl rfl rfl) rfl (rj_v rfl rfl (v_fieldAddr fd_191_0 ty_3 (by decide) rfl) rfl (rj_v rfl rfl (v_loadB 0 ty_3 rfl rfl rfl) rfl ?_)))))))))); obtain ⟨t18, a18, b18, c18, ht18, hcs18, rl18, rd18, rx18⟩ := hc ((x : Int).toNat) (by first | omega | (rw [List.length_set]; omega)); refine rj_v rfl rfl (v_indexAddr Tryz.underlying38 ty_34 rfl rfl rr (by decide) (by omega) (by omega)) rfl ?_; refine rj_v rfl rfl (v_loadNE 3 ty_34 rfl rfl rr (by have := rr.1; omega) rfl hcs18) rfl ?_; refine rj_v rfl rfl (v_move rfl) rfl (rj_v rfl rfl (v_nilCheck rfl) rfl (rj_v rfl rfl (v_fieldAddr fd_220_0 ty_38 (by decide) rfl) rfl (rj_v rfl rfl (v_loadB 2 ty_38 rfl rfl rfl) rfl (rj_v rfl rfl (v_fieldAddr fd_191_1 ty_3 (by decide) rfl) rfl (rj_v rfl rfl (v_loadB 0 ty_3 rfl rfl rfl) rfl ?_))))); obtain ⟨t26, a26, b26, c26, ht26, hcs26, rl26, rd26, rx26⟩ := hc ((y : Int).toNat) (by first | omega | (rw [List.length_set]; omega)); refine rj_v rfl rfl (v_indexAddr Tryz.underlying38 ty_34 rfl rfl rr (by decide) (by omega) (by omega)) rfl ?_; refine rj_v rfl rfl (v_loadNE 3 ty_34 rfl rfl rr (by have := rr.1; omega) rfl hcs26) rfl ?_; have e18 := shTens_at ht18; have e26 := shTens_at ht26; have l18 : t18.l = sh.lab x.toNat := (by rw [e18]); have l26 : t26.l = sh.lab y.toNat := (by rw [e26]); have hf18 := hfi.few x.toNat; have hf26 := hfi.few y.toNat; have hjl := joinI_len t18.l t26.l; rw [l18, l26] at hjl; refine rj_x rfl rfl (x_call rfl en_155 (fun w s => ct_u_l08Join f t18 t26 _ _ _ _ _ _ w (rl18.mono (s.get 1 rfl)) (rd18.mono (s.get 1 rfl)) (rl26.mono (s.get 1 rfl)) (rd26.mono (s.get 1 rfl)) (by rw [e18]) (by rw [e26]) (by rw [l26]; exact (hfi.2 _).1) (by rw [l18, l26]; omega))) rfl ?_; rintro _ h28 ⟨v1, v2, rfl, rj1, rj2⟩; refine rj_v rfl rfl (v_move rfl) rfl (rj_v rfl rfl (v_extract rfl rfl) rfl (rj_v rfl rfl (v_extract rfl rfl) rfl (rj_v rfl rfl (v_extract rfl rfl) rfl (rj_v rfl rfl (v_assign rfl) rfl (rj_v rfl rfl (v_assign rfl) rfl (rj_v rfl rfl (v_assign rfl) rfl (rj_end (qs_n (wp_sc (wp_sq (sq_v rfl (v_move rfl) rfl (sq_v rfl (v_move rfl) rfl (sq_v rfl (v_move rfl) rfl ?_))))))))))))); refine sq_v rfl (v_move rfl) rfl (sq_v rfl (v_fieldAddr fd_191_0 ty_3 (by decide) rfl) rfl (sq_v rfl (v_loadB 1 ty_3 rfl rfl rfl) rfl (sq_v rfl (v_fieldAddr fd_191_1 ty_3 (by decide) rfl) rfl (sq_v rfl (v_loadB 1 ty_3 rfl rfl rfl) rfl ?_)))); refine sq_x rfl (x_call rfl en_253 (fun w s => ct_s_l17Keep f sh _ _ _ _ _ _ _ w (SpR.of hok (s.get 3 rfl) ra (s.get 4 rfl) rt' (s.get 2 rfl) rg (s.get 5 rfl)) (rox.mono (s.get 2 rfl)) (by first | assumption | omega) (by omega) hop)) rfl ?_; rintro v40 h40 r40; refine sq_x rfl (x_call rfl en_158 (fun w s => ct_s_l08Keep _ _ _ _ _ _ w (rj1.mono (s.get 1 rfl)) (rj2.mono (s.get 1 rfl)) (r40.toR.mono (s.get 0 rfl)) (by rw [List.length_map]) (by rw [l18, l26]; omega))) rfl ?_; rintro _ h41 ⟨k1, k2, g1, g2, rfl, rk1, rk2, mdk⟩; refine sq_x rfl (x_alloc ty_34 rfl) rfl ?_; rintro _ _ ⟨b10, rfl, rfl⟩; refine sq_m 0 rfl rfl (m_store 0 ty_34 rfl rfl rfl rfl (by simp [(rk1.toR.mono (mdk.le g1 (by simp))).sl.one, (rk2.toR.mono (mdk.le g2 (by simp))).sl.one, one_sl]) rfl (Nat.le_of_ble_eq_true rfl)) rfl ?_; rintro _ _ ⟨rfl, rfl⟩; refine sq_end (qs_n (wp_sc (wp_rj 7 [(0, true), (1, true), (2, true), (3, true), (4, true), (5, true), (6, true), (7, false)] mixed_ok (by kernel_rfl) (rj_v rfl rfl (v_move rfl) rfl (rj_v rfl rfl (v_nilCheck rfl) rfl (rj_v rfl rfl (v_fieldAddr fd_220_1 ty_161 (by decide) rfl) rfl (rj_v rfl rfl (v_loadB 6 ty_161 rfl rfl rfl) rfl (rj_v rfl rfl (v_fieldAddr fd_191_0 ty_3 (by decide) rfl) rfl (rj_v rfl rfl (v_loadB 4 ty_3 rfl rfl rfl) rfl (rj_v rfl rfl (v_idxB Tryz.underlying161 ty_4 rfl rfl rg.toR (by omega) (by omega)) rfl ?_)))))))))); refine rj_m 8 rfl rfl rfl rfl (m_storeBl 8 ty_4 rfl rfl rfl rg (by omega)) rfl ?_; rintro _ h_q3_7 ⟨rfl, q3_7⟩; refine rj_end (qs_n (wp_sc (wp_rj 7 [(0, true), (1, true), (2, true), (3, true), (4, true), (5, true), (6, true), (7, false)] mixed_ok (by kernel_rfl) (rj_v rfl rfl (v_move rfl) rfl (rj_v rfl rfl (v_nilCheck rfl) rfl (rj_v rfl rfl (v_fieldAddr fd_220_1 ty_161 (by decide) rfl) rfl (rj_v rfl rfl (v_loadB 6 ty_161 rfl rfl rfl) rfl (rj_v rfl rfl (v_fieldAddr fd_191_1 ty_3 (by decide) rfl) rfl (rj_v rfl rfl (v_loadB 4 ty_3 rfl rfl rfl) rfl ?_))))))))); refine rj_v rfl rfl (v_idxB Tryz.underlying161 ty_4 rfl rfl q3_7.toR (by omega) (by first | omega | (simp; omega) | (simp only [List.length_append, List.length_cons, List.length_nil]; omega) | (rw [List.length_set]; omega))) rfl ?_
  refine rj_m 8 rfl rfl rfl rfl (m_storeBl 8 ty_4 rfl rfl rfl q3_7 (by first | omega | (simp; omega) | (simp only [List.length_append, List.length_cons, List.length_nil]; omega) | (rw [List.length_set]; omega))) rfl ?_; rintro _ h_q4_7 ⟨rfl, q4_7⟩; refine rj_end (qs_n (wp_sc (wp_rk [false, false, false, false, false, false, false, true, false] 8 [(0, true), (1, true), (2, true), (3, true), (4, true), (5, true), (6, false), (7, false), (8, false), (9, false), (10, false)] mixed_ok (by kernel_rfl) (rk_v rfl rfl (v_move rfl) rfl (rk_v rfl rfl (v_move rfl) rfl (rk_v rfl rfl (v_nilCheck rfl) rfl (rk_v rfl rfl (v_fieldAddr fd_220_0 ty_38 (by decide) rfl) rfl (rk_v rfl rfl (v_loadB 6 ty_38 rfl rfl rfl) rfl (rk_v rfl rfl (v_loadNB 0 ty_34 rfl rfl rfl rfl) rfl ?_))))))))); refine rk_x rfl rfl (x_buildS [.agg [k1, k2, .slice none 0 0].toArray] Tryz.underlying38 ty_34 (by decide) rfl rfl rfl (by decide) (by decide) (by intro v hv; simp at hv; subst hv; rfl)) rfl ?_; intro v62 h62 (r62 : RowO 34 [k1, k2, .slice none 0 0] 1 3 v62 h62); refine rk_m 8 rfl rfl rfl rfl (m_append 8 0 Tryz.underlying38 ty_34 rfl rfl (by decide) rfl rfl rfl ra rfl r62.toR (by simp [one_sl, (rk1.toR.mono (mdk.le g1 (by simp))).sl.one, (rk2.toR.mono (mdk.le g2 (by simp))).sl.one]) (by unfold maxLen; omega) (by omega)) rfl ?_; intro v63 h_r63 (r63 : RowO 34 (cs ++ [k1, k2, .slice none 0 0]) (sh.all.length + 1) 3 v63 h_r63); refine rk_fv rfl rfl (v_nilCheck rfl) rfl (rk_fv rfl rfl (v_fieldAddr fd_220_0 ty_38 (by decide) rfl) rfl ?_); refine rk_mt 7 rfl rfl rfl rfl (m_store1 7 ty_38 rfl rfl r63.toR.sl.one rfl (Nat.le_of_ble_eq_true rfl)) rfl ?_; rintro _ _ ⟨rfl, rfl⟩; refine rk_end (qs_n (wp_sc (wp_sq (sq_v rfl (v_move rfl) rfl (sq_v rfl (v_move rfl) rfl (sq_v rfl (v_nilCheck rfl) rfl (sq_v rfl (v_fieldAddr fd_220_1 ty_161 (by decide) rfl) rfl (sq_v rfl (v_loadB 7 ty_161 rfl rfl rfl) rfl ?_)))))))); refine sq_x rfl (x_buildS [.bool (false)] Tryz.underlying161 ty_4 (by decide) rfl rfl rfl (by decide) (by decide) (by intro v hv; simp at hv; rcases hv with rfl <;> rfl)) rfl ?_; intro v71 h71 (r71 : BoolsO [false] v71 h71); refine sq_m 10 rfl rfl (m_appBl 10 0 Tryz.underlying161 ty_4 rfl rfl rfl rfl q4_7 rfl r71.toR (by first | omega | (simp; omega) | (simp only [List.length_append, List.length_cons, List.length_nil]; omega) | (rw [List.length_set]; omega))) rfl ?_; intro v72 h_r72 r72; refine sq_v rfl (v_nilCheck rfl) rfl (sq_v rfl (v_fieldAddr fd_220_1 ty_161 (by decide) rfl) rfl ?_); refine sq_m 8 rfl rfl (m_store1 8 ty_161 rfl rfl r72.toR.sl.one rfl (Nat.le_of_ble_eq_true rfl)) rfl ?_; rintro _ _ ⟨rfl, rfl⟩; refine sq_end (qs_n (wp_sc (wp_sq (sq_v rfl (v_move rfl) rfl ?_)))); have hdj : dimsIn ((joinI t18.l t26.l).map f) := (map_dims (fun z hz => by rw [l18, l26] at hz; exact (mem_joinI.1 hz).elim (hfit _ z) (hfit _ z)))
  refine sq_u rfl (x_callv rfl en_156 (fun w s => ct_s_l05Product _ _ _ w (rj2.mono (s.get 5 rfl)) (by first | assumption | omega) (by first | assumption | omega))) rfl (sq_v rfl (v_min rfl rfl) rfl (sq_v rfl (v_assign rfl) rfl (sq_end (qs_n (wp_rt (qs_s [hs, restP w h, h41, box bb _ _, h_r63, h_r72] (fun _ s => Sat.part (a := hs) (b := restP w h) hdr (s.pick [7, 3, 8, 9, 10] (by decide) rfl)) ?_)))))); refine qs_close [restP w h, box bb _ _, h_r63, h_r72] [hs, h41] (fun _ s => s.pick [1, 3, 4, 5, 0, 2] (by decide) rfl) (fun md1 => ?_); refine qs_dj 0 1 rfl rfl rfl (fun hdq => ?_); have hdq' : PDj (joinP [hs, h41]) q := (hdq.symm.mono hq).symm; refine qs_close [restP w h] [box bb _ _, h_r63, h_r72, joinP [hs, h41]] (fun _ s => s.pick [1, 2, 3, 4, 0] (by decide) rfl) (fun md2 => ?_); have hxy' : (x.toNat : Int) = x ∧ (y.toNat : Int) = y := by omega
  have hk := res_keep (op := op) (s := sh) (a := x.toNat) (b := y.toNat); rw [hxy'.1, hxy'.2] at hk; rw [l18, l26, hk] at rk1; rw [l18, l26, selP_map, hk] at rk2; have lk := (mdk.le g1 (by simp)).trans ((md1.le h41 (by simp)).trans (PLe.un_l _ q)); have lk2 := (mdk.le g2 (by simp)).trans ((md1.le h41 (by simp)).trans (PLe.un_l _ q)); have hnew := (rt.mono (PUn.mono_l (md1.le hs (by simp)) hdq')).snoc (t := ⟨sh.res op x.toNat y.toNat, (sh.res op x.toNat y.toNat).map f, []⟩) (rk1.toR.mono lk) (rk2.toR.mono lk2) (IntsR.nil _); rw [← step_tens] at hnew; have hsl2 : (sh.step op x.toNat y.toNat).all.length = sh.all.length + 1 := by simp [Sh.step]
  exact qs_ret1 rfl rfl (fin_m (i := 1) 0 rfl rfl rfl ⟨by rw [costL, l18, l26]; congr 1; omega, Sh.step_ok hok _ _, v63, v72, _, _, _, _, by rw [hsl2]; exact r63, r72, hnew, md2⟩)
end Go.Proofs.YthlmjnihihbckaaGreat
namespace Go.Proofs.YthlmjnihihbckaaGreat
set_option maxRecDepth 100000
open Go.RowKit
/-- The world's heap once more. -/
theorem Sat.whole {w0 w : World} {HS : List PH} {q : PH} (lq : PLe q (hp w0)) (s : Sat w0 (q :: restP w0 q :: HS) w) : Sat w0 (HS ++ [hp w0]) w := by
  have l : PLe (hp w0) (PUn q (restP w0 q)) := fun k o e => by
    unfold PUn restP
    cases hq : q k with
    | none => simp [e]
    | some o' => have := lq k o' hq; rw [e] at this; simp [this]
  have s1 := Sat.less (i := 0) s.merge rfl l; exact Sat.comm (A := [hp w0]) (B := HS) s1
/-- The first i tensors' shapes. -/
def tenTo (ts : List Ten) (i : Nat) : List Ten := (ts.take i).map fun t => ⟨t.l, t.d, []⟩
theorem tenTo_step {ts : List Ten} {i : Nat} {t : Ten} (h : ts[i]? = some t) : tenTo ts (i + 1) = tenTo ts i ++ [⟨t.l, t.d, []⟩] := by
  rw [tenTo, take_ten h, List.map_append]; rfl
theorem tenTo_sh {f : Int → Int} {ts : List Ten} (h : ∀ t ∈ ts, t.d = t.l.map f) : tenTo ts ts.length = shTens f (sh0 ts) := by
  simp only [tenTo, List.take_length, shTens, sh0, List.map_map]; exact List.map_congr_left fun t ht => by simp [h t ht]
set_option maxHeartbeats 2000000 in
theorem ct_s_l17New (f : Int → Int) (k p n : Int) (ts : List Ten) (vt vo : Value) (w : World) (q : PH) (lq : PLe q (hp w)) (r : TensR ts vt q) (hd : ∀ t ∈ ts, t.d = t.l.map f) (hts : ts.length ≤ 1000) :
    Calls Tryz.prog 250 [netV k p n vt vo].toArray w (Ret w emp (fun u h => ∃ bb, u = ptrV bb ∧ SpO f (sh0 ts) bb h q)) := by
  refine calls_in Tryz.func250 rfl Tryz.ntmps250 rfl (Sat.start2 lq) ?_; have hle0 := r.le; obtain ⟨cs_r, rr_r, hc_r⟩ := r.at; refine wp_sc (wp_sq ?_); refine sq_x rfl (x_box rfl rfl) rfl ?_; rintro _ _ ⟨b1, rfl, rfl⟩; refine sq_v rfl (v_assign rfl) rfl (sq_end (qs_n (wp_sc (wp_sq (sq_v rfl (v_build [.slice none 0 0, .slice none 0 0] rfl (by kernel_rfl)) rfl ?_))))); refine sq_x rfl (x_box rfl rfl) rfl ?_; rintro _ _ ⟨b7, rfl, rfl⟩; refine sq_v rfl (v_assign rfl) rfl (sq_end (qs_n (wp_sc (wp_sc (wp_sq (sq_v rfl (v_fieldAddr fd_40_1 ty_38 (by decide) rfl) rfl (sq_v rfl (v_loadB 1 ty_38 rfl rfl rfl) rfl (sq_v rfl (v_len Tryz.underlying38 rfl r.sl) rfl (sq_v rfl (v_move rfl) rfl (sq_end (qs_n (wp_bl ?_)))))))))))); refine wp_lp (σ := Nat × Value × PH × (List Value) × Value × PH) (fun z_ => [(2, .pointer none), (3, .pointer (some ⟨b7, 0, none⟩)), (9, vt), (10, num ts.length), (11, num z_.1)]) (fun z_ => [z_.2.2.1, z_.2.2.2.2.2, box b7 [z_.2.1, z_.2.2.2.2.1] 220, box b1 [num k, num p, num n, vt, vo] 40, q, (restP w q)]) (fun z_ => z_.1 ≤ ts.length ∧ TensL (tenTo ts z_.1) z_.2.2.2.1 q ∧ RowO (34) z_.2.2.2.1 z_.1 3 z_.2.1 z_.2.2.1 ∧ BoolsO (List.replicate z_.1 false) z_.2.2.2.2.1 z_.2.2.2.2.2) (fun z_ => ts.length - z_.1) (0, .slice none 0 0, emp, [], .slice none 0 0, emp) (⟨by (try dsimp only); omega, TensL.nil _, RowO.nil, BoolsO.nil⟩) ⟨rfl, rfl, rfl, rfl, rfl, trivial⟩ (fun _ s => (emp_sat (emp_sat s))) ?_; rintro ⟨i, va, ha, cs, vg, hg⟩ ⟨hi, hlv, rr, qg⟩; dsimp only at hi hlv rr qg ⊢; have hle_qg := qg.toR.le; have hrl : (List.replicate i false).length = i := List.length_replicate; refine wp_sc (wp_sq (sq_v rfl (v_lss rfl rfl) rfl (sq_end (qs_n (wp_sc ?_))))); refine wp_cd rfl (fun c12 => ?_) (fun c12 => ?_)
  · refine wp_sk (qs_n (wp_sc (wp_bl (wp_sc (wp_sq ?_))))); obtain ⟨t13, a13, b13, c13, ht13, hcs13, rl13, rd13, rx13⟩ := hc_r (i) (by first | omega | (rw [List.length_set]; omega)); refine sq_v rfl (v_indexAddr Tryz.underlying38 ty_34 rfl rfl rr_r (by decide) (by omega) (by omega)) rfl ?_; refine sq_v rfl (v_loadNE 4 ty_34 rfl rfl rr_r (by have := rr_r.1; omega) rfl hcs13) rfl ?_; refine sq_x rfl (x_alloc ty_34 rfl) rfl ?_; rintro _ _ ⟨b5, rfl, rfl⟩; refine sq_m 0 rfl rfl (m_store 0 ty_34 rfl rfl rfl rfl (by simp [rl13.sl.one, rd13.sl.one, rx13.sl.one]) rfl (Nat.le_of_ble_eq_true rfl)) rfl ?_; rintro _ _ ⟨rfl, rfl⟩; refine sq_end (qs_n (wp_sc (wp_rk [false, true, false, false, false, false, false] 12 [(0, true), (1, true), (2, true), (3, true), (4, true), (5, true), (6, true), (7, true), (8, true), (9, true), (10, false), (11, false), (12, false), (13, false), (14, false)] mixed_ok (by kernel_rfl) (rk_v rfl rfl (v_move rfl) rfl (rk_v rfl rfl (v_move rfl) rfl (rk_v rfl rfl (v_nilCheck rfl) rfl (rk_v rfl rfl (v_fieldAddr fd_220_0 ty_38 (by decide) rfl) rfl (rk_v rfl rfl (v_loadB 3 ty_38 rfl rfl rfl) rfl (rk_v rfl rfl (v_fieldAddr fd_34_0 ty_25 (by decide) rfl) rfl (rk_v rfl rfl (v_loadB 0 ty_25 rfl rfl rfl) rfl (rk_v rfl rfl (v_fieldAddr fd_34_1 ty_25 (by decide) rfl) rfl (rk_v rfl rfl (v_loadB 0 ty_25 rfl rfl rfl) rfl ?_)))))))))))); refine rk_v rfl rfl (v_build [a13, b13, .slice none 0 0] rfl (by obtain ⟨_, _, rfl⟩ := rl13.sl; obtain ⟨_, _, rfl⟩ := rd13.sl; kernel_rfl)) rfl ?_; refine rk_x rfl rfl (x_buildS [.agg [a13, b13, .slice none 0 0].toArray] Tryz.underlying38 ty_34 (by decide) rfl rfl rfl (by decide) (by decide) (by intro v hv; simp at hv; subst hv; rfl)) rfl ?_; intro v25 h25 (r25 : RowO 34 [a13, b13, .slice none 0 0] 1 3 v25 h25); refine rk_m 2 rfl rfl rfl rfl (m_append 2 0 Tryz.underlying38 ty_34 rfl rfl (by decide) rfl rfl rfl rr rfl r25.toR (by simp [one_sl, rl13.sl.one, rd13.sl.one]) (by unfold maxLen; omega) (by omega)) rfl ?_; intro v26 h_r26 (r26 : RowO 34 (cs ++ [a13, b13, .slice none 0 0]) (i + 1) 3 v26 h_r26); refine rk_fv rfl rfl (v_nilCheck rfl) rfl (rk_fv rfl rfl (v_fieldAddr fd_220_0 ty_38 (by decide) rfl) rfl ?_); refine rk_mt 4 rfl rfl rfl rfl (m_store1 4 ty_38 rfl rfl r26.toR.sl.one rfl (Nat.le_of_ble_eq_true rfl)) rfl ?_; rintro _ _ ⟨rfl, rfl⟩; refine rk_end (qs_n (wp_sq (sq_v rfl (v_move rfl) rfl (sq_v rfl (v_move rfl) rfl (sq_v rfl (v_nilCheck rfl) rfl (sq_v rfl (v_fieldAddr fd_220_1 ty_161 (by decide) rfl) rfl (sq_v rfl (v_loadB 4 ty_161 rfl rfl rfl) rfl ?_))))))); refine sq_x rfl (x_buildS [.bool (false)] Tryz.underlying161 ty_4 (by decide) rfl rfl rfl (by decide) (by decide) (by intro v hv; simp at hv; rcases hv with rfl <;> rfl)) rfl ?_; intro v34 h34 (r34 : BoolsO [false] v34 h34); refine sq_m 4 rfl rfl (m_appBl 4 0 Tryz.underlying161 ty_4 rfl rfl rfl rfl qg rfl r34.toR (by first | omega | (simp; omega) | (simp only [List.length_append, List.length_cons, List.length_nil]; omega) | (rw [List.length_set]; omega))) rfl ?_; intro v35 h_r35 r35; refine sq_v rfl (v_nilCheck rfl) rfl (sq_v rfl (v_fieldAddr fd_220_1 ty_161 (by decide) rfl) rfl ?_); refine sq_m 5 rfl rfl (m_store1 5 ty_161 rfl rfl r35.toR.sl.one rfl (Nat.le_of_ble_eq_true rfl)) rfl ?_; rintro _ _ ⟨rfl, rfl⟩; refine sq_end (qs_bn (qs_n (wp_sq ?_))); refine sq_v rfl (v_add rfl rfl ((by unfold I64; omega))) rfl ?_; refine sq_v rfl (v_move rfl) rfl (sq_end ?_); exact qs_bk (i + 1, v26, h_r26, cs ++ [a13, b13, .slice none 0 0], v35, h_r35) ⟨by (try dsimp only); omega, by (try dsimp only); rw [tenTo_step ht13]; exact hlv.snoc rl13 rd13 (IntsR.nil _), r26, by (try dsimp only); rw [List.replicate_succ']; exact r35⟩ (by simp only; omega) ⟨rfl, rfl, rfl, rfl, rfl, trivial⟩ (fun _ s => s.pick [3, 4, 5, 6, 7, 8] (by decide) rfl)
  · refine wp_ex (qs_x (qs_x (qs_bx (qs_n (wp_sc (wp_sq (sq_v rfl (v_move rfl) rfl (sq_v rfl (v_assign rfl) rfl (sq_end (qs_n (wp_rt ?_))))))))))); refine qs_close [hp w] [box b7 _ _, ha, hg, emp] (fun _ s => Sat.pick (HS := emp :: ha :: hg :: box b7 _ _ :: box b1 _ _ :: hp w :: []) (emp_sat (Sat.whole lq (HS := [ha, hg, box b7 _ _, box b1 _ _]) (s.pick [4, 5, 0, 1, 2, 3] (by decide) rfl))) [5, 3, 1, 2, 0] (by decide) rfl) (fun md => ?_); have ei : i = ts.length := by omega
    subst ei; rw [tenTo_sh hd] at hlv; have el : (sh0 ts).all.length = ts.length := by simp [sh0]
    exact qs_ret1 rfl rfl (fin_t 0 (i := 1) rfl rfl rfl ⟨b7, rfl, sh0_ok ts, va, vg, ha, hg, emp, cs, by rw [el]; exact rr, qg, hlv.mono (fun k o e => by simpa [PUn, emp] using e), md⟩)
noncomputable def costsL (f : Int → Int) (op : List Int) : Sh → List Stp → List Int
  | _, [] => []
  | s, x :: r => costL f s x.a.toNat x.b.toNat :: costsL f op (s.step op x.a.toNat x.b.toNat) r
theorem costsL_append (f : Int → Int) (op : List Int) : ∀ (s : Sh) (a b : List Stp), costsL f op s (a ++ b) = costsL f op s a ++ costsL f op (shTo op s a) b
  | s, [], b => by simp [costsL, shTo]
  | s, x :: r, b => by
    have := costsL_append f op (s.step op x.a.toNat x.b.toNat) r b; simp only [List.cons_append, costsL, this]
    rfl
theorem costsL_len (f : Int → Int) (op : List Int) : ∀ (s : Sh) (ss : List Stp), (costsL f op s ss).length = ss.length
  | _, [] => rfl
  | s, x :: r => by simp [costsL, costsL_len f op (s.step op x.a.toNat x.b.toNat) r]
theorem costsL_step {f : Int → Int} {op : List Int} {s : Sh} {ss : List Stp} {i : Nat} {x : Stp} (h : ss[i]? = some x) : costsL f op s (ss.take (i + 1)) = costsL f op s (ss.take i) ++ [costL f (shTo op s (ss.take i)) x.a.toNat x.b.toNat] := by
  obtain ⟨hi, e⟩ := List.getElem?_eq_some_iff.1 h; rw [List.take_succ_eq_append_getElem hi, e, costsL_append]; rfl
theorem fit_step {f : Int → Int} {op : List Int} {s : Sh} {a b : Nat} (h : ∀ i, ∀ l ∈ s.lab i, 1 ≤ f l ∧ f l ≤ 8) : ∀ i, ∀ l ∈ (s.step op a b).lab i, 1 ≤ f l ∧ f l ≤ 8 := fun i l hl => by
  rcases Nat.lt_trichotomy i s.all.length with hi | hi | hi
  · rw [step_lab hi] at hl; exact h i l hl
  · subst hi; rw [step_lab_new] at hl; exact (res_mem hl).elim (h _ l) (h _ l)
  · have : (s.step op a b).lab i = [] := by simp only [Sh.lab, Sh.step, List.getD]; rw [List.getElem?_eq_none (by simp; omega)]; rfl
    rw [this] at hl; simp at hl
theorem fit_to {f : Int → Int} {op : List Int} : ∀ {s : Sh} (_ : ∀ i, ∀ l ∈ s.lab i, 1 ≤ f l ∧ f l ≤ 8) (ss : List Stp), ∀ i, ∀ l ∈ (shTo op s ss).lab i, 1 ≤ f l ∧ f l ≤ 8
  | _, h, [] => h
  | _, h, x :: r => fit_to (fit_step (op := op) (a := x.a.toNat) (b := x.b.toNat) h) r
theorem net_dmap {k p n : Int} {ts : List Ten} {op : List Int} (h : netL k p n ts op) : ∀ t ∈ ts, t.d = t.l.map (dimOf ts) := fun t ht => by
  have hax := net_axes h t ht; refine ext_getD (by rw [List.length_map, hax.2.1]) fun j hj => ?_; have hj' : j < t.l.length := by rw [hax.2.1]; exact hj
  rw [map_getD hj', net_dim h ht (mem_getD hj'), find_at hax hj', Int.toNat_natCast]
theorem net_fit {k p n : Int} {ts : List Ten} {op : List Int} (h : netL k p n ts op) : ∀ i, ∀ l ∈ (sh0 ts).lab i, 1 ≤ dimOf ts l ∧ dimOf ts l ≤ 8 := fun i l hl => by
  by_cases hi : i < ts.length
  · have : (sh0 ts).lab i = ts[i].l := by simp [Sh.lab, sh0, List.getD, hi]
    rw [this] at hl; have hm := List.getElem_mem hi; have hax := net_axes h _ hm; have hg := findI_get hl; rw [net_dim h hm hl]; exact (hax.2.2 _ hg.1).2.1
  · have : (sh0 ts).lab i = [] := by simp [Sh.lab, sh0, List.getD, Nat.le_of_not_lt hi]
    rw [this] at hl; simp at hl
set_option maxHeartbeats 2000000 in
theorem ct_s_l17Run (f : Int → Int) (k p n : Int) (ts : List Ten) (op : List Int) (ss : List Stp) (vt vo v : Value) (w : World) (q : PH) (lq : PLe q (hp w)) (r : TensR ts vt q) (r' : IntsR op vo (hp w)) (rv : StepsR ss v (hp w)) (hd : ∀ t ∈ ts, t.d = t.l.map f) (hts : ts.length ≤ 500) (hss : ss.length ≤ 500)
    (hfi : (sh0 ts).fine) (hfit : ∀ i, ∀ l ∈ (sh0 ts).lab i, 1 ≤ f l ∧ f l ≤ 8) (hok : okSteps op (sh0 ts) ss) (hop : op.length ≤ 1048576) :
    Calls Tryz.prog 239 [netV k p n vt vo, v].toArray w (Ret w emp (fun u h => ∃ bb vc g1 g2, u = .tuple [ptrV bb, vc].toArray ∧ SpO f (shTo op (sh0 ts) ss) bb g1 q ∧ IntsO (costsL f op (sh0 ts) ss) vc g2 ∧ Made h [g1, g2])) := by
  refine calls_in Tryz.func239 rfl Tryz.ntmps239 rfl (Sat.start w) ?_; have hle0 := r'.le; have hle1 := rv.le; obtain ⟨cs_rv, rr_rv, hc_rv⟩ := rv.at; refine wp_sc (wp_sq ?_); refine sq_x rfl (x_box rfl rfl) rfl ?_; rintro _ _ ⟨b2, rfl, rfl⟩; refine sq_v rfl (v_assign rfl) rfl (sq_v rfl (v_assign rfl) rfl (sq_end (qs_n (wp_sc (wp_sq (sq_v rfl (v_loadNB 0 ty_40 rfl rfl rfl rfl) rfl ?_)))))); refine sq_x rfl (x_call rfl en_250 (fun w s => ct_s_l17New f _ _ _ _ _ _ w q (lq.trans (s.get 1 rfl)) r hd (by first | assumption | omega))) rfl ?_; rintro _ h11 ⟨bb, rfl, rsp⟩; refine sq_v rfl (v_assign rfl) rfl (sq_end (qs_n (wp_sc (wp_sq ?_)))); refine sq_x rfl (x_build0 Tryz.underlying25 ty_3) rfl ?_; intro v12 h12 (r12 : IntsO [] v12 h12); refine sq_v rfl (v_assign rfl) rfl (sq_end (qs_n (wp_sc (wp_sc (wp_sq (sq_v rfl (v_move rfl) rfl (sq_v rfl (v_len Tryz.underlying126 rfl rv.sl) rfl (sq_v rfl (v_move rfl) rfl (sq_end (qs_n (wp_bl ?_))))))))))); refine wp_lp (σ := Nat × PH × Value × PH) (fun z_ => [(2, .pointer (some ⟨b2, 0, none⟩)), (4, .pointer none), (5, .slice none 0 0), (6, ptrV bb), (7, z_.2.2.1), (13, v), (14, num ss.length), (15, num z_.1)]) (fun z_ => [z_.2.1, z_.2.2.2, box b2 [num k, num p, num n, vt, vo] 40, hp w]) (fun z_ => z_.1 ≤ ss.length ∧ SpO f (shTo op (sh0 ts) (ss.take z_.1)) bb z_.2.1 q ∧ IntsO (costsL f op (sh0 ts) (ss.take z_.1)) z_.2.2.1 z_.2.2.2) (fun z_ => ss.length - z_.1) (0, h11, v12, h12) (⟨by (try dsimp only); omega, by (try dsimp only); simpa [shTo] using rsp, by (try dsimp only); simpa [costsL] using r12⟩) ⟨rfl, rfl, rfl, rfl, rfl, rfl, rfl, rfl, trivial⟩ (fun _ s => s.pick [1, 0, 2, 3] (by decide) rfl) ?_; rintro ⟨i, g, vc, hc⟩ ⟨hi, hsp, qc⟩; dsimp only at hi hsp qc ⊢; have hle_qc := qc.toR.le; have hcl := costsL_len f op (sh0 ts) (ss.take i); rw [List.length_take] at hcl; have hfs := shTo_fine (op := op) hfi (ss.take i); have hft := fit_to (op := op) hfit (ss.take i); have hal := shTo_all (op := op) (s := sh0 ts) (ss := ss.take i); rw [show (sh0 ts).all.length = ts.length by simp [sh0], List.length_take] at hal; refine wp_sc (wp_sq (sq_v rfl (v_lss rfl rfl) rfl (sq_end (qs_n (wp_sc ?_))))); refine wp_cd rfl (fun c16 => ?_) (fun c16 => ?_)
  · refine wp_sk (qs_n (wp_sc (wp_bl (wp_sc (wp_sq ?_))))); obtain ⟨x17, hx17, hcs17⟩ := hc_rv (i) (by first | omega | (rw [List.length_set]; omega)); refine sq_v rfl (v_indexAddr Tryz.underlying126 ty_191 rfl rfl rr_rv (by decide) (by omega) (by first | omega | (rw [List.length_set]; omega))) rfl ?_; refine sq_v rfl (v_loadNE 3 ty_191 rfl rfl rr_rv (by have := rr_rv.1; omega) rfl hcs17) rfl ?_; refine sq_x rfl (x_alloc ty_191 rfl) rfl ?_; rintro _ _ ⟨b9, rfl, rfl⟩; refine sq_m 0 rfl rfl (m_store 0 ty_191 rfl rfl rfl rfl (by simp [Value.oneCell']) rfl (Nat.le_of_ble_eq_true rfl)) rfl ?_; rintro _ _ ⟨rfl, rfl⟩; refine sq_end (qs_n (wp_sq (sq_v rfl (v_move rfl) rfl (sq_v rfl (v_move rfl) rfl (sq_v rfl (v_fieldAddr fd_40_2 ty_25 (by decide) rfl) rfl (sq_v rfl (v_loadB 3 ty_25 rfl rfl rfl) rfl (sq_v rfl (v_loadNB 0 ty_191 rfl rfl rfl rfl) rfl ?_))))))); refine sq_m 1 rfl rfl (x_call rfl en_251 (fun w s => ct_s_l17Step f _ op _ bb _ _ w _ q (s.get 1 rfl) (lq.trans (s.getR 1 4 rfl rfl (by decide))) hsp (r'.mono (s.getR 1 4 rfl rfl (by decide))) hfs hft (hok i (by omega) x17 hx17) (by omega) hop)) rfl ?_; rintro _ h24 ⟨rfl, hsp'⟩; refine sq_x rfl (x_buildS [num (costL f (shTo op (sh0 ts) (ss.take i)) x17.a.toNat x17.b.toNat)] Tryz.underlying25 ty_3 (by decide) rfl rfl rfl (by decide) (by decide) (by intro v hv; simp at hv; rcases hv with rfl <;> rfl)) rfl ?_; intro v25 h25 (r25 : IntsO [costL f (shTo op (sh0 ts) (ss.take i)) x17.a.toNat x17.b.toNat] v25 h25); refine sq_m 3 rfl rfl (m_appI 3 0 Tryz.underlying25 ty_3 rfl rfl rfl rfl qc rfl r25.toR (by first | omega | (simp; omega) | (simp only [List.length_append, List.length_cons, List.length_nil]; omega) | (rw [List.length_set]; omega))) rfl ?_; intro v26 h_r26 r26; refine sq_v rfl (v_assign rfl) rfl (sq_end (qs_bn (qs_n (wp_sq ?_)))); refine sq_v rfl (v_add rfl rfl ((by unfold I64; omega))) rfl ?_; refine sq_v rfl (v_move rfl) rfl (sq_end ?_); exact qs_bk (i + 1, h24, v26, h_r26) ⟨by (try dsimp only); omega, by (try dsimp only); rw [shTo_step hx17]; exact hsp', by (try dsimp only); rw [costsL_step hx17]; exact r26⟩ (by simp only; omega) ⟨rfl, rfl, rfl, rfl, rfl, rfl, rfl, rfl, trivial⟩ (fun _ s => s.pick [2, 3, 4, 5] (by decide) rfl)
  · refine wp_ex (qs_x (qs_x (qs_bx (qs_n (wp_sc (wp_sq (sq_v rfl (v_move rfl) rfl (sq_v rfl (v_move rfl) rfl (sq_v rfl (v_assign rfl) rfl (sq_v rfl (v_assign rfl) rfl (sq_end (qs_n (wp_rt ?_))))))))))))); refine qs_close [hp w] [g, hc] (fun _ s => s.pick [3, 0, 1] (by decide) rfl) (fun md => ?_); rw [List.take_of_length_le (by omega)] at qc hsp; exact qs_ret2 rfl rfl rfl (fin_t 0 (i := 1) rfl rfl rfl ⟨bb, vc, g, hc, rfl, hsp, qc, md⟩)
end Go.Proofs.YthlmjnihihbckaaGreat
namespace Go.Proofs.YthlmjnihihbckaaGreat
set_option maxRecDepth 100000
open Go.RowKit
theorem SpO.toR {f : Int → Int} {s : Sh} {bb : Nat} {h q H : PH} (r : SpO f s bb h q) (l : PLe h H) (lq : PLe q H) : ∃ va vg, SpR f s va vg bb H := by
  obtain ⟨hok, va, vg, ha, hg, hs, cs, ra, rg, rt, md⟩ := r; exact ⟨va, vg, SpR.of hok ((md.le _ (by simp)).trans l) ra ((md.le ha (by simp)).trans l) rt (PUn.le ((md.le hs (by simp)).trans l) lq) rg ((md.le hg (by simp)).trans l)⟩
theorem stepOk_at {op : List Int} {s : Sh} {ss : List Stp} (h : okSteps op s ss) {i : Nat} {x : Stp} (hx : ss[i]? = some x) : stepOk (shTo op s (ss.take i)) x := h i (List.getElem?_eq_some_iff.1 hx).1 x hx
theorem stepCells_take : ∀ (ss : List Stp) (n : Nat), stepCells (ss.take n) = (stepCells ss).take (n * 2)
  | [], n => by simp [stepCells]
  | s :: r, 0 => by simp [stepCells]
  | s :: r, n + 1 => by
    have := stepCells_take r n; rw [List.take_succ_cons, show (n + 1) * 2 = n * 2 + 1 + 1 by omega]
    show [num s.a, num s.b] ++ stepCells (r.take n) = ([num s.a, num s.b] ++ stepCells r).take (n * 2 + 1 + 1)
    rw [this]; rfl
theorem StepsR.subH {ss : List Stp} {v : Value} {h : PH} (r : StepsR ss v h) {hi : Nat} (h2 : hi ≤ ss.length) : StepsR (ss.take hi) (subV v 0 hi 2) h := by
  have := RowR.sub r (Nat.zero_le hi) h2
  unfold StepsR
  rw [stepCells_take, List.length_take, Nat.min_eq_left h2]
  simpa using this
end Go.Proofs.YthlmjnihihbckaaGreat
namespace Go.Proofs.YthlmjnihihbckaaGreat
set_option maxRecDepth 100000
open Go.RowKit
def pairsL : List Nat → List (Nat × Nat)
  | [] => []
  | a :: r => r.map (fun b => (a, b)) ++ pairsL r
def bestP {α : Type} (g : α → Int) (l : List α) : Option α := l.foldl (fun o x => match o with | none => some x | some y => if g x < g y then some x else some y) none
theorem bestP_snoc {α : Type} (g : α → Int) (l : List α) (x : α) : bestP g (l ++ [x]) = match bestP g l with | none => some x | some y => if g x < g y then some x else some y := by simp [bestP]
noncomputable def gainP (f : Int → Int) (op : List Int) (s : Sh) (x : Nat × Nat) : Int :=
  min (prodI ((s.res op x.1 x.2).map f)) 1000000000 - min (prodI ((s.lab x.1).map f)) 1000000000 - min (prodI ((s.lab x.2).map f)) 1000000000
noncomputable def pickP (f : Int → Int) (op : List Int) (s : Sh) : Nat × Nat := (bestP (gainP f op s) (pairsL s.ixs)).getD (0, 0)
theorem two_off : ∀ {l : List Nat} (_ : l.Nodup) {a b : Nat}, a ∈ l → b ∈ l → a ≠ b → (l.filter fun i => decide (i ≠ a ∧ i ≠ b)).length + 2 = l.length := by
  intro l hn a b ha hb hab; have hp := List.perm_cons_erase ha; have hb' : b ∈ l.erase a := (List.mem_erase_of_ne (Ne.symm hab)).2 hb; have hp2 := List.perm_cons_erase hb'; have hn2 : (l.erase a).Nodup := hn.erase a; have e : l.filter (fun i => decide (i ≠ a ∧ i ≠ b)) = (l.erase a).erase b := by
    rw [List.Nodup.erase_eq_filter hn a, List.Nodup.erase_eq_filter (List.Pairwise.filter _ hn) b, List.filter_filter]
    apply List.filter_congr
    intro i _; rw [Bool.eq_iff_iff]
    simp [and_comm]
  have h1 := hp.length_eq; have h2 := hp2.length_eq; simp only [List.length_cons] at h1 h2; rw [e]
  omega
theorem step_count {op : List Int} {s : Sh} (h : s.ok) {a b : Nat} (ha : a ∈ s.ixs) (hb : b ∈ s.ixs) (hab : a ≠ b) : (s.step op a b).ixs.length + 1 = s.ixs.length := by
  have := two_off (ixs_nodup s) ha hb hab; rw [step_ixs h, List.length_append, List.length_singleton]
  omega
theorem steps_count {op : List Int} {s : Sh} (h : s.fine) {ss : List Stp} (hok : okSteps op s ss) : ∀ i, i ≤ ss.length → (shTo op s (ss.take i)).ixs.length + i = s.ixs.length
  | 0, _ => by simp [shTo]
  | i + 1, hi => by
    have ih := steps_count h hok i (by omega); have hx : ss[i]? = some ss[i] := List.getElem?_eq_getElem (by omega); have hst := stepOk_at hok hx; have h1 := live_ixs.1 hst.1; have h2 := live_ixs.1 hst.2.1; rw [shTo_step hx]; have := step_count (op := op) (shTo_fine h (ss.take i)).1 h1.2 h2.2 (by have := hst.2.2; omega)
    omega
theorem few_steps {op : List Int} {ts : List Ten} (h : ∀ t ∈ ts, axesL t.l t.d) {ss : List Stp} (hok : okSteps op (sh0 ts) ss) : ss.length ≤ ts.length - 1 := by
  have h0 : (sh0 ts).ixs.length = ts.length := by rw [sh0_ixs]; simp
  by_cases e : ss.length = 0
  · omega
  · have hc := steps_count (sh0_fine h) hok (ss.length - 1) (by omega); have hx : ss[ss.length - 1]? = some ss[ss.length - 1] := List.getElem?_eq_getElem (by omega); have hst := stepOk_at hok hx; have h1 := live_ixs.1 hst.1; have h2 := live_ixs.1 hst.2.1; have h3 := two_off (ixs_nodup (shTo op (sh0 ts) (ss.take (ss.length - 1)))) h1.2 h2.2 (by have := hst.2.2; omega)
    omega
noncomputable def greedyTo (f : Int → Int) (op : List Int) (s : Sh) : Nat → List Stp
  | 0 => []
  | k + 1 => greedyTo f op s k ++ [⟨(pickP f op (shTo op s (greedyTo f op s k))).1, (pickP f op (shTo op s (greedyTo f op s k))).2⟩]
def compP (k p n : Int) (ts : List Ten) (op : List Int) (ss : List Stp) : Prop := netL k p n ts op ∧ okSteps op (sh0 ts) ss
open Classical in
noncomputable def compB (k p n : Int) (ts : List Ten) (op : List Int) (ss : List Stp) : Bool := decide (compP k p n ts op ss)
noncomputable def compS (k p n : Int) (ts : List Ten) (op : List Int) (ss : List Stp) : List Stp :=
  @ite _ (compP k p n ts op ss) (Classical.propDecidable _) (ss ++ greedyTo (dimOf ts) op (shTo op (sh0 ts) ss) (ts.length - 1 - ss.length)) []
end Go.Proofs.YthlmjnihihbckaaGreat
namespace Go.Proofs.YthlmjnihihbckaaGreat
set_option maxRecDepth 100000
open Go.RowKit
abbrev noTen : Ten := ⟨[], [], []⟩
theorem dimJ_f {t u : Ten} {f : Int → Int} (ht : t.d = t.l.map f) (hu : u.d = u.l.map f) {x : Int} (hx : x ∈ joinI t.l u.l) : dimJ t u x = f x := by
  unfold dimJ
  by_cases h : x ∈ t.l
  · rw [if_pos h, ht, map_getD (findI_get h).1, (findI_get h).2]
  · have h2 := (mem_joinI.1 hx).resolve_left h; rw [if_neg h, hu, map_getD (findI_get h2).1, (findI_get h2).2]
theorem keep_map {t u : Ten} {f : Int → Int} (ht : t.d = t.l.map f) (hu : u.d = u.l.map f) (ks : List Int) : (keepL t u ks).map (dimJ t u) = (keepL t u ks).map f :=
  List.map_congr_left fun _ hx => dimJ_f ht hu (List.mem_filter.1 hx).1
theorem pair_ten {k p n : Int} {t u : Ten} {ks : List Int} (h : pairP k p n t u ks) : tensorL k p n (pairR k p n t u ks).l (pairR k p n t u ks).d (pairR k p n t u ks).x ∧ (pairR k p n t u ks).l = keepL t u ks ∧ (pairR k p n t u ks).d = (keepL t u ks).map (dimJ t u) := by
  have ok := pair_ok h.1 h.2.1 h.2.2.1 h.2.2.2.1; have hk := keep_ok ok h.2.2.2.2; have ha := ok.all hk (prodI ((joinI t.l u.l).map (dimJ t u))).toNat; have hs := sizeI_ge.1 h.2.2.2.2; rw [pairR, if_pos h]; refine ⟨⟨h.1.1, h.2.2.2.2, ?_, ha.2⟩, rfl, rfl⟩
  show ((pairX k p n (dimJ t u) t u (keepL t u ks) _).length : Int) = sizeI (keepL t u ks) ((keepL t u ks).map (dimJ t u)) * widthI k n
  rw [sizeI_yes hs.1 hs.2]; exact ha.1
theorem pairP_iff {k p n : Int} {t u : Ten} {f : Int → Int} {ks : List Int} (h1 : tensorL k p n t.l t.d t.x) (h2 : tensorL k p n u.l u.d u.x) (ht : t.d = t.l.map f) (hu : u.d = u.l.map f) :
    pairP k p n t u ks ↔ prodI ((joinI t.l u.l).map f) ≤ 65536 ∧ 0 ≤ sizeI (keepL t u ks) ((keepL t u ks).map f) := by
  unfold pairP
  rw [joinD_map ht hu, keep_map ht hu]; exact ⟨fun h => ⟨h.2.2.2.1, h.2.2.2.2⟩, fun h => ⟨h1, h2, mism_not ht hu, h.1, h.2⟩⟩
theorem keepL_self {t u : Ten} {q : Int → Bool} : keepL t u ((joinI t.l u.l).filter q) = (joinI t.l u.l).filter q := by
  unfold keepL
  refine List.filter_congr fun x hx => ?_; rw [Bool.eq_iff_iff, decide_eq_true_eq, List.mem_filter]; exact ⟨fun h => h.2, fun h => ⟨hx, h⟩⟩
theorem keepL_congr {t u : Ten} {a b : List Int} (h : ∀ x, x ∈ a ↔ x ∈ b) : keepL t u a = keepL t u b := by
  unfold keepL
  refine List.filter_congr fun x _ => ?_; rw [Bool.eq_iff_iff, decide_eq_true_eq, decide_eq_true_eq]; exact h x
theorem pairR_congr {k p n : Int} {t u : Ten} {a b : List Int} (h : ∀ x, x ∈ a ↔ x ∈ b) : pairR k p n t u a = pairR k p n t u b ∧ pairB k p n t u a = pairB k p n t u b ∧ (pairP k p n t u a ↔ pairP k p n t u b) := by
  have e := keepL_congr (t := t) (u := u) h; have e2 : pairP k p n t u a = pairP k p n t u b := by unfold pairP; rw [e]
  refine ⟨?_, ?_, by rw [e2]⟩
  · unfold pairR; rw [e2, e]
  · unfold pairB; rw [e2]
theorem pairB_true {k p n : Int} {t u : Ten} {a : List Int} : pairB k p n t u a = true ↔ pairP k p n t u a := by simp [pairB]
theorem pairB_false {k p n : Int} {t u : Ten} {a : List Int} : pairB k p n t u a = false ↔ ¬ pairP k p n t u a := by simp [pairB]
def stpAt (ss : List Stp) (i : Nat) : Stp := ss.getD i ⟨0, 0⟩
theorem stpAt_of {ss : List Stp} {i : Nat} {x : Stp} (h : ss[i]? = some x) : stpAt ss i = x := by simp [stpAt, List.getD, h]
noncomputable def runS (ts : List Ten) (op : List Int) (ss : List Stp) (i : Nat) : Sh := shTo op (sh0 ts) (ss.take i)
noncomputable def runK (ts : List Ten) (op : List Int) (ss : List Stp) (i : Nat) : List Int := (runS ts op ss i).res op (stpAt ss i).a.toNat (stpAt ss i).b.toNat
noncomputable def runTo (k p n : Int) (ts : List Ten) (op : List Int) (ss : List Stp) : Nat → List Ten
  | 0 => ts
  | i + 1 => runTo k p n ts op ss i ++ [pairR k p n ((runTo k p n ts op ss i).getD (stpAt ss i).a.toNat noTen) ((runTo k p n ts op ss i).getD (stpAt ss i).b.toNat noTen) (runK ts op ss i)]
noncomputable def runA (k p n : Int) (ts : List Ten) (op : List Int) (ss : List Stp) (i : Nat) : Ten := (runTo k p n ts op ss i).getD (stpAt ss i).a.toNat noTen
noncomputable def runB (k p n : Int) (ts : List Ten) (op : List Int) (ss : List Stp) (i : Nat) : Ten := (runTo k p n ts op ss i).getD (stpAt ss i).b.toNat noTen
def runFit (k p n : Int) (ts : List Ten) (op : List Int) (ss : List Stp) (i : Nat) : Prop := pairP k p n (runA k p n ts op ss i) (runB k p n ts op ss i) (runK ts op ss i)
structure RunOK (k p n : Int) (ts : List Ten) (op : List Int) (ss : List Stp) (i : Nat) : Prop where
  len : (runTo k p n ts op ss i).length = ts.length + i
  ten : ∀ (j : Nat) (t : Ten), (runTo k p n ts op ss i)[j]? = some t → tensorL k p n t.l t.d t.x ∧ t.l = (runS ts op ss i).lab j ∧ t.d = t.l.map (dimOf ts)
section
variable {k p n : Int} {ts : List Ten} {op : List Int} {ss : List Stp}
theorem runTo_step (i : Nat) : runTo k p n ts op ss (i + 1) = runTo k p n ts op ss i ++ [pairR k p n (runA k p n ts op ss i) (runB k p n ts op ss i) (runK ts op ss i)] := rfl
theorem RunOK.get {i : Nat} (r : RunOK k p n ts op ss i) {j : Nat} (hj : j < ts.length + i) : tensorL k p n ((runTo k p n ts op ss i).getD j noTen).l ((runTo k p n ts op ss i).getD j noTen).d ((runTo k p n ts op ss i).getD j noTen).x ∧
    ((runTo k p n ts op ss i).getD j noTen).l = (runS ts op ss i).lab j ∧ ((runTo k p n ts op ss i).getD j noTen).d = ((runTo k p n ts op ss i).getD j noTen).l.map (dimOf ts) := by
  have hlt : j < (runTo k p n ts op ss i).length := by rw [r.len]; exact hj
  have h := r.ten j _ (List.getElem?_eq_getElem hlt); have e2 : (runTo k p n ts op ss i).getD j noTen = (runTo k p n ts op ss i)[j] := by simp [List.getD, List.getElem?_eq_getElem hlt]
  rw [e2]; exact h
theorem run_step (h : orderL k p n ts op ss) {i : Nat} (hi : i < ss.length) : stepOk (runS ts op ss i) (stpAt ss i) ∧ runS ts op ss (i + 1) = (runS ts op ss i).step op (stpAt ss i).a.toNat (stpAt ss i).b.toNat ∧ (runS ts op ss i).all.length = ts.length + i := by
  have hx : ss[i]? = some ss[i] := List.getElem?_eq_getElem hi; refine ⟨?_, ?_, ?_⟩
  · rw [stpAt_of hx]; exact h.2.2 i hi _ hx
  · rw [stpAt_of hx]; exact shTo_step hx
  · rw [runS, shTo_all, show (sh0 ts).all.length = ts.length by simp [sh0], List.length_take]; omega
theorem run_all {i : Nat} (hi : i ≤ ss.length) : (runS ts op ss i).all.length = ts.length + i := by
  rw [runS, shTo_all, show (sh0 ts).all.length = ts.length by simp [sh0], List.length_take]; omega
theorem run_fine (h : netL k p n ts op) (i : Nat) : (runS ts op ss i).fine := shTo_fine (sh0_fine (net_axes h)) _
theorem RunOK.two {i : Nat} (r : RunOK k p n ts op ss i) (h : orderL k p n ts op ss) (hi : i < ss.length) :
    (tensorL k p n (runA k p n ts op ss i).l (runA k p n ts op ss i).d (runA k p n ts op ss i).x ∧ (runA k p n ts op ss i).l = (runS ts op ss i).lab (stpAt ss i).a.toNat ∧ (runA k p n ts op ss i).d = (runA k p n ts op ss i).l.map (dimOf ts)) ∧
    (tensorL k p n (runB k p n ts op ss i).l (runB k p n ts op ss i).d (runB k p n ts op ss i).x ∧ (runB k p n ts op ss i).l = (runS ts op ss i).lab (stpAt ss i).b.toNat ∧ (runB k p n ts op ss i).d = (runB k p n ts op ss i).l.map (dimOf ts)) := by
  obtain ⟨⟨⟨a0, a1, _⟩, ⟨b0, b1, _⟩, _⟩, _, hl⟩ := run_step h hi; exact ⟨r.get (by omega), r.get (by omega)⟩
theorem RunOK.kept {i : Nat} (r : RunOK k p n ts op ss i) (h : orderL k p n ts op ss) (hi : i < ss.length) : keepL (runA k p n ts op ss i) (runB k p n ts op ss i) (runK ts op ss i) = runK ts op ss i := by
  obtain ⟨⟨_, la, _⟩, ⟨_, lb, _⟩⟩ := r.two h hi; have e : runK ts op ss i = (joinI (runA k p n ts op ss i).l (runB k p n ts op ss i).l).filter fun x => @decide ((runS ts op ss i).kept op (stpAt ss i).a.toNat (stpAt ss i).b.toNat x) (Classical.propDecidable _) := by rw [la, lb]; rfl
  rw [e]; exact keepL_self
theorem RunOK.step {i : Nat} (r : RunOK k p n ts op ss i) (h : orderL k p n ts op ss) (hi : i < ss.length) (hf : runFit k p n ts op ss i) : RunOK k p n ts op ss (i + 1) := by
  obtain ⟨hst, hs1, hl⟩ := run_step h hi; obtain ⟨⟨ta, la, da⟩, ⟨tb, lb, db⟩⟩ := r.two h hi; have hk := r.kept h hi; obtain ⟨p1, p2, p3⟩ := pair_ten hf; rw [keep_map da db, hk] at p3; rw [hk] at p2; refine ⟨by rw [runTo_step, List.length_append, r.len]; simp; omega, fun j t hj => ?_⟩; rw [runTo_step] at hj
  rcases Nat.lt_or_ge j (runTo k p n ts op ss i).length with hlt | hge
  · rw [List.getElem?_append_left hlt] at hj; have := r.ten j t hj; rw [hs1, step_lab (by rw [hl, ← r.len]; exact hlt)]; exact this
  · rw [List.getElem?_append_right hge] at hj; have e0 : j - (runTo k p n ts op ss i).length = 0 := by
      rcases Nat.eq_zero_or_pos (j - (runTo k p n ts op ss i).length) with h0 | h0
      · exact h0
      · rw [List.getElem?_eq_none (by simp; omega)] at hj; cases hj
    rw [e0] at hj
    simp at hj
    subst hj; refine ⟨p1, ?_, ?_⟩
    · rw [p2, hs1, show j = (runS ts op ss i).all.length by rw [hl, ← r.len]; omega, step_lab_new]; rfl
    · rw [p2, p3]
theorem run_ok (h : orderL k p n ts op ss) : ∀ i, i ≤ ss.length → (∀ j, j < i → runFit k p n ts op ss j) → RunOK k p n ts op ss i
  | 0, _, _ => by
    refine ⟨rfl, fun j t hj => ?_⟩; have hj' : ts[j]? = some t := hj; have hm := List.mem_of_getElem? hj'; exact ⟨h.1.2.2.1 t hm, by simp [runS, shTo, Sh.lab, sh0, List.getD, hj'], net_dmap h.1 t hm⟩
  | i + 1, hi, hf => (run_ok h i (by omega) fun j hj => hf j (by omega)).step h (by omega) (hf i (by omega))
theorem lab_stable {op : List Int} : ∀ {s : Sh} {b : List Stp} {j : Nat}, j < s.all.length → (shTo op s b).lab j = s.lab j
  | s, [], j, _ => rfl
  | s, x :: r, j, hj => by
    have := lab_stable (op := op) (s := s.step op x.a.toNat x.b.toNat) (b := r) (j := j) (by simp [Sh.step]; omega)
    show (shTo op (s.step op x.a.toNat x.b.toNat) r).lab j = _
    rw [this, step_lab hj]
/-- What the end's list of labels says of a step. -/
theorem run_end (h : orderL k p n ts op ss) {i : Nat} (hi : i < ss.length) : (shTo op (sh0 ts) ss).lab (ts.length + i) = runK ts op ss i := by
  obtain ⟨hst, hs1, hl⟩ := run_step h hi; have e : shTo op (sh0 ts) ss = shTo op (runS ts op ss (i + 1)) (ss.drop (i + 1)) := by
    conv => lhs; rw [← List.take_append_drop (i + 1) ss]
    simp only [runS, shTo, List.foldl_append]
  rw [e, lab_stable (by rw [hs1]; simp [Sh.step, hl]), hs1, ← hl, step_lab_new]; rfl
/-- The rows of m cells but those at p and q, of the first k. -/
def dropK {α : Type} (m : Nat) (cs : List α) (p q : Nat) : Nat → List α
  | 0 => []
  | k + 1 => if k ≠ p ∧ k ≠ q then dropK m cs p q k ++ (cs.drop (k * m)).take m else dropK m cs p q k
theorem dropK_yes {α : Type} {m : Nat} {cs : List α} {p q k : Nat} (h : k ≠ p ∧ k ≠ q) : dropK m cs p q (k + 1) = dropK m cs p q k ++ (cs.drop (k * m)).take m := by rw [dropK, if_pos h]
theorem dropK_no {α : Type} {m : Nat} {cs : List α} {p q k : Nat} (h : ¬ (k ≠ p ∧ k ≠ q)) : dropK m cs p q (k + 1) = dropK m cs p q k := by rw [dropK, if_neg h]
theorem one_drop {α : Type} {l : List α} {k : Nat} {x : α} (h : l[k]? = some x) : (l.drop (k * 1)).take 1 = [x] := by
  obtain ⟨hk, rfl⟩ := List.getElem?_eq_some_iff.1 h; rw [Nat.mul_one, List.drop_eq_getElem_cons hk]; rfl
theorem dropK_len {α : Type} {m : Nat} {cs : List α} {p q : Nat} : ∀ k, (dropK m cs p q k).length ≤ k * m
  | 0 => by simp [dropK]
  | k + 1 => by
    have ih := dropK_len (m := m) (cs := cs) (p := p) (q := q) k; have e : (k + 1) * m = k * m + m := by rw [Nat.add_mul, Nat.one_mul]
    by_cases h : k ≠ p ∧ k ≠ q
    · rw [dropK_yes h, List.length_append, List.length_take]; omega
    · rw [dropK_no h]; omega
theorem dropK_ixs {β : Type} (g : Nat → β) {s : Sh} {p q a b : Nat} (hp : s.ixs[p]? = some a) (hq : s.ixs[q]? = some b) : ∀ k, k ≤ s.ixs.length → dropK 1 (s.ixs.map g) p q k = ((s.ixs.take k).filter fun i => decide (i ≠ a ∧ i ≠ b)).map g
  | 0, _ => by simp [dropK]
  | k + 1, hk => by
    have ih := dropK_ixs g hp hq k (by omega); have hi : s.ixs[k]? = some s.ixs[k] := List.getElem?_eq_getElem (by omega); have e1 : k = p ↔ s.ixs[k] = a := ⟨fun e => by subst e; rw [hi] at hp; exact Option.some.inj hp, fun e => ixs_inj (e ▸ hi) hp⟩
    have e2 : k = q ↔ s.ixs[k] = b := ⟨fun e => by subst e; rw [hi] at hq; exact Option.some.inj hq, fun e => ixs_inj (e ▸ hi) hq⟩
    have hl : (s.ixs.map g)[k]? = some (g s.ixs[k]) := by rw [List.getElem?_map, hi]; rfl
    rw [List.take_succ_eq_append_getElem (by omega), List.filter_append, List.map_append]
    by_cases hc : k ≠ p ∧ k ≠ q
    · have : s.ixs[k] ≠ a ∧ s.ixs[k] ≠ b := ⟨fun e => hc.1 (e1.2 e), fun e => hc.2 (e2.2 e)⟩
      rw [dropK_yes hc, ih, one_drop hl]
      simp [this]
    · have : ¬ (s.ixs[k] ≠ a ∧ s.ixs[k] ≠ b) := fun e => hc ⟨fun e' => e.1 (e1.1 e'), fun e' => e.2 (e2.1 e')⟩; rw [dropK_no hc, ih]
      simp [this]
noncomputable def outTo (k p n : Int) (ts : List Ten) (op : List Int) (ss : List Stp) (i : Nat) : List Ten := (runS ts op ss i).ixs.map fun j => (runTo k p n ts op ss i).getD j noTen
theorem out_len (i : Nat) : (outTo k p n ts op ss i).length = (runS ts op ss i).ixs.length := by simp [outTo]
theorem out_get {i j a : Nat} (h : (runS ts op ss i).ixs[j]? = some a) : (outTo k p n ts op ss i)[j]? = some ((runTo k p n ts op ss i).getD a noTen) := by
  rw [outTo, List.getElem?_map, h]; rfl
theorem out_zero : outTo k p n ts op ss 0 = ts := by
  have e : (runS ts op ss 0).ixs = List.range ts.length := by rw [← sh0_ixs ts]; rfl
  rw [outTo, e]
  apply List.ext_getElem?
  intro j; rw [List.getElem?_map]
  rcases Nat.lt_or_ge j ts.length with h | h
  · rw [List.getElem?_range h]
    simp [runTo, List.getD, h]
  · rw [List.getElem?_eq_none (by simpa using h), List.getElem?_eq_none h]; rfl
theorem out_step (h : orderL k p n ts op ss) {i : Nat} (hi : i < ss.length) (r : RunOK k p n ts op ss i) {pa pb : Nat} (ha : (runS ts op ss i).ixs[pa]? = some (stpAt ss i).a.toNat) (hb : (runS ts op ss i).ixs[pb]? = some (stpAt ss i).b.toNat) :
    outTo k p n ts op ss (i + 1) = dropK 1 (outTo k p n ts op ss i) pa pb (outTo k p n ts op ss i).length ++ [pairR k p n (runA k p n ts op ss i) (runB k p n ts op ss i) (runK ts op ss i)] := by
  obtain ⟨hst, hs1, hl⟩ := run_step h hi; rw [out_len]
  unfold outTo
  rw [dropK_ixs _ ha hb _ (Nat.le_refl _), List.take_length, hs1, step_ixs (run_fine h.1 i).1, List.map_append]
  congr 1
  · refine List.map_congr_left fun j hj => ?_; have := (mem_ixs.1 (List.mem_filter.1 hj).1).1; rw [runTo_step]; simp only [List.getD]; rw [List.getElem?_append_left (by rw [r.len, ← hl]; exact this)]
  · rw [List.map_singleton, runTo_step, hl, ← r.len]
    simp [List.getD]
theorem dimOf_mem {ts : List Ten} {x : Int} (h : dimOf ts x ≠ 0) : ∃ t ∈ ts, x ∈ t.l := by
  induction ts with
  | nil => simp [dimOf] at h
  | cons t ts ih =>
    rw [dimOf] at h
    by_cases hx : x ∈ t.l
    · exact ⟨t, by simp, hx⟩
    · rw [if_neg hx] at h; obtain ⟨u, hu, hxu⟩ := ih h; exact ⟨u, by simp [hu], hxu⟩
theorem run_open (h : orderL k p n ts op ss) {x : Int} (hx : x ∈ op) : ∀ i, i ≤ ss.length → ∃ j ∈ (runS ts op ss i).ixs, x ∈ (runS ts op ss i).lab j
  | 0, _ => by
    obtain ⟨j, hj, e⟩ := getD_of_mem hx; have ho := (open_at h.1.2.2.2.2 hj).2; rw [e] at ho; obtain ⟨t, ht, hxt⟩ := dimOf_mem (ts := ts) (x := x) (by omega); obtain ⟨m, hm⟩ := List.getElem?_of_mem ht; have hml := (List.getElem?_eq_some_iff.1 hm).1; have e0 : runS ts op ss 0 = sh0 ts := rfl; refine ⟨m, by rw [e0, sh0_ixs]; simpa using hml, ?_⟩; rw [e0]
    simpa [Sh.lab, sh0, List.getD, hm] using hxt
  | i + 1, hi => by
    obtain ⟨j, hj, hxj⟩ := run_open h hx i (by omega); obtain ⟨hst, hs1, hl⟩ := run_step h (i := i) (by omega); have hok := (run_fine (ss := ss) h.1 i).1; rw [hs1]
    by_cases hc : j ≠ (stpAt ss i).a.toNat ∧ j ≠ (stpAt ss i).b.toNat
    · refine ⟨j, by rw [step_ixs hok]; simp [hj, hc], ?_⟩; rw [step_lab (mem_ixs.1 hj).1]; exact hxj
    · refine ⟨(runS ts op ss i).all.length, by rw [step_ixs hok]; simp, ?_⟩; rw [step_lab_new]; refine List.mem_filter.2 ⟨mem_joinI.2 ?_, by simpa using .inl hx⟩
      by_cases ea : j = (stpAt ss i).a.toNat
      · exact .inl (ea ▸ hxj)
      · exact .inr ((show j = (stpAt ss i).b.toNat by omega) ▸ hxj)
theorem run_left (h : orderL k p n ts op ss) (hn : ts ≠ []) : (runS ts op ss ss.length).ixs = [ts.length + ss.length - 1] := by
  have hlen : ts.length ≠ 0 := fun e => hn (List.eq_nil_of_length_eq_zero e); have hc := steps_count (op := op) (sh0_fine (net_axes h.1)) h.2.2 ss.length (Nat.le_refl _); rw [show (sh0 ts).ixs.length = ts.length by rw [sh0_ixs]; simp] at hc; have h1 : (runS ts op ss ss.length).ixs.length = 1 := by
    have := h.2.1
    show (shTo op (sh0 ts) (ss.take ss.length)).ixs.length = 1
    omega
  have hm : ts.length + ss.length - 1 ∈ (runS ts op ss ss.length).ixs := by
    rcases Nat.eq_zero_or_pos ss.length with h0 | h0
    · have e0 : runS ts op ss ss.length = sh0 ts := by rw [h0]; rfl
      rw [e0, sh0_ixs, h0]; simp; omega
    · obtain ⟨hst, hs1, hl⟩ := run_step h (i := ss.length - 1) (by omega); rw [show ss.length - 1 + 1 = ss.length by omega] at hs1; rw [hs1, step_ixs (run_fine (ss := ss) h.1 _).1, hl]
      simp; omega
  obtain ⟨y, hy⟩ := List.length_eq_one_iff.1 h1; rw [hy] at hm ⊢
  simp at hm
  rw [hm]
end
end Go.Proofs.YthlmjnihihbckaaGreat
namespace Go.Proofs.YthlmjnihihbckaaGreat
set_option maxRecDepth 100000
open Go.RowKit
theorem Made.join3 {h a b : PH} {l : List PH} (m : Made h (a :: b :: l)) : Made h [a, b, joinP l] := by
  have hs := m.sep; have hl : PLe (joinP l) h := fun k o e => by
    obtain ⟨y, hy, e'⟩ := joinP_dom e; exact m.le y (by simp [hy]) k o e'
  refine ⟨⟨fun x hx => ?_, fun x hx => ?_, fun x hx => by simp at hx, trivial⟩, fun x hx => ?_, fun k o e => ?_⟩
  · rcases List.mem_cons.1 hx with rfl | hx
    · exact hs.1 _ (by simp)
    · simp at hx; subst hx
      exact PDj.join fun y hy => hs.1 y (by simp [hy])
  · simp at hx; subst hx
    exact PDj.join fun y hy => hs.2.1 y hy
  · simp at hx
    rcases hx with rfl | rfl | rfl
    · exact m.le _ (by simp)
    · exact m.le _ (by simp)
    · exact hl
  · obtain ⟨x, hx, e'⟩ := m.dom k o e
    simp at hx
    rcases hx with rfl | rfl | hx
    · exact ⟨x, by simp, e'⟩
    · exact ⟨x, by simp, e'⟩
    · exact ⟨joinP l, by simp, PLe.join hs.2.2 x hx k o e'⟩
theorem Made.part3 {h a b c : PH} {l : List PH} (m : Made h [a, b, c]) (ml : Made c l) : Made h (a :: b :: l) := by
  have hs := m.sep; have hc : PLe c h := m.le c (by simp); refine ⟨⟨fun x hx => ?_, fun x hx => ?_, ml.sep⟩, fun x hx => ?_, fun k o e => ?_⟩
  · rcases List.mem_cons.1 hx with rfl | hx
    · exact hs.1 _ (by simp)
    · exact (((hs.1 c (by simp)).symm).mono (ml.le x hx)).symm
  · exact (((hs.2.1 c (by simp)).symm).mono (ml.le x hx)).symm
  · simp at hx
    rcases hx with rfl | rfl | hx
    · exact m.le _ (by simp)
    · exact m.le _ (by simp)
    · exact (ml.le x hx).trans hc
  · obtain ⟨x, hx, e'⟩ := m.dom k o e
    simp at hx
    rcases hx with rfl | rfl | rfl
    · exact ⟨x, by simp, e'⟩
    · exact ⟨x, by simp, e'⟩
    · obtain ⟨y, hy, e2⟩ := ml.dom k o e'; exact ⟨y, by simp [hy], e2⟩
theorem NetO.split {ts : List Ten} {op : List Int} {vt vo : Value} {h : PH} (r : NetO ts op vt vo h) : ∃ cs h0 ho hl, RowO 34 cs ts.length 3 vt h0 ∧ IntsO op vo ho ∧ OwnH (flat ts) cs hl ∧ Made h [h0, ho, hl] := by
  obtain ⟨cs, h0, ho, l, r0, r1, o, m⟩ := r; exact ⟨cs, h0, ho, joinP l, r0, r1, ⟨l, o, Made.join m.sep.2.2⟩, m.join3⟩
theorem NetO.join {ts : List Ten} {op : List Int} {vt vo : Value} {h h0 ho hl : PH} {cs : List Value} (r0 : RowO 34 cs ts.length 3 vt h0) (r1 : IntsO op vo ho) (o : OwnH (flat ts) cs hl) (m : Made h [h0, ho, hl]) : NetO ts op vt vo h := by
  obtain ⟨l, o, ml⟩ := o; exact ⟨cs, h0, ho, l, r0, r1, o, m.part3 ml⟩
theorem OwnL.take {xss : List (List Int)} {vs : List Value} {l : List PH} (o : OwnL xss vs l) (n : Nat) : OwnL (xss.take n) (vs.take n) (l.take n) := by
  refine ⟨by simp [o.l1], by simp [o.l2], fun i xs h => ?_⟩; have hi : i < n := by
    rcases Nat.lt_or_ge i n with h' | h'
    · exact h'
    · rw [List.getElem?_take, if_neg (by omega)] at h; cases h
  rw [List.getElem?_take, if_pos hi] at h ⊢; rw [List.getElem?_take, if_pos hi]; exact o.own i xs h
theorem OwnL.drop {xss : List (List Int)} {vs : List Value} {l : List PH} (o : OwnL xss vs l) (n : Nat) : OwnL (xss.drop n) (vs.drop n) (l.drop n) := by
  refine ⟨by simp [o.l1], by simp [o.l2], fun i xs h => ?_⟩; rw [List.getElem?_drop] at h ⊢; rw [List.getElem?_drop]; exact o.own (n + i) xs h
theorem flat_take {ts : List Ten} {i : Nat} (h : i ≤ ts.length) : flat (ts.take i) = (flat ts).take (i * 3) ∧ flat (ts.drop i) = (flat ts).drop (i * 3) := by
  have e : flat ts = flat (ts.take i) ++ flat (ts.drop i) := by rw [← flat_append, List.take_append_drop]
  have hl : (flat (ts.take i)).length = i * 3 := by rw [flat_len, List.length_take, Nat.min_eq_left h]
  constructor
  · rw [e, List.take_left' hl]
  · rw [e, List.drop_left' hl]
theorem flat_set {ts : List Ten} {i : Nat} (h : i < ts.length) (u : Ten) : flat (ts.set i u) = (flat ts).take (i * 3) ++ [u.l, u.d, u.x] ++ (flat ts).drop (i * 3 + 3) := by
  rw [List.set_eq_take_append_cons_drop, if_pos h, flat_append, (flat_take (Nat.le_of_lt h)).1, show i * 3 + 3 = (i + 1) * 3 by omega, ← (flat_take (show i + 1 ≤ ts.length by omega)).2, List.append_assoc]
  rfl
theorem sep_mono {l l' : List PH} (h : sepL l) (hs : l'.Sublist l) : sepL l' := by
  induction hs with
  | slnil => exact trivial
  | cons x _ ih => exact ih h.2
  | cons_cons x s ih => exact ⟨fun y hy => h.1 y (s.subset hy), ih h.2⟩
theorem OwnH.set {ts : List Ten} {u : Ten} {cs : List Value} {a b c : Value} {h h' : PH} {i : Nat} (hi : i < ts.length) (o : OwnH (flat ts) cs h) (r : TriO u a b c h') (hd : PDj h h') :
    ∃ g, PLe g (PUn h h') ∧ OwnH (flat (ts.set i u)) (cs.take (i * 3) ++ [a, b, c] ++ cs.drop (i * 3 + 3)) g := by
  obtain ⟨l, ol, m⟩ := o; obtain ⟨h1, h2, h3, r1, r2, r3, m'⟩ := r; have hx : ∀ x ∈ l.take (i * 3) ++ [h1, h2, h3] ++ l.drop (i * 3 + 3), PLe x (PUn h h') := fun x hx => by
    simp only [List.mem_append] at hx
    rcases hx with (hx | hx) | hx
    · exact (m.le x (List.mem_of_mem_take hx)).trans (PLe.un_l _ _)
    · exact (m'.le x hx).trans (PLe.un_r hd)
    · exact (m.le x (List.mem_of_mem_drop hx)).trans (PLe.un_l _ _)
  have hab : ∀ x ∈ l, ∀ y ∈ [h1, h2, h3], PDj x y := fun x hx y hy => (((hd.mono (m.le x hx)).symm).mono (m'.le y hy)).symm; have hsub : (l.take (i * 3) ++ l.drop (i * 3 + 3)).Sublist l := by
    conv => rhs; rw [← List.take_append_drop (i * 3) l]
    refine List.Sublist.append (List.Sublist.refl _) ?_; rw [← List.drop_drop]; exact List.drop_sublist _ _
  have hsep := sepL_append.1 (sep_mono m.sep hsub); have hs : sepL (l.take (i * 3) ++ [h1, h2, h3] ++ l.drop (i * 3 + 3)) := by
    refine sepL_append.2 ⟨sepL_append.2 ⟨hsep.1, m'.sep, fun x hx y hy => hab x (List.mem_of_mem_take hx) y hy⟩, hsep.2.1, fun x hx y hy => ?_⟩
    rcases List.mem_append.1 hx with hx | hx
    · exact hsep.2.2 x hx y hy
    · exact (hab y (List.mem_of_mem_drop hy) x hx).symm
  refine ⟨joinP (l.take (i * 3) ++ [h1, h2, h3] ++ l.drop (i * 3 + 3)), fun k o e => ?_, _, ?_, Made.join hs⟩
  · obtain ⟨y, hy, e'⟩ := joinP_dom e; exact hx y hy k o e'
  · rw [flat_set hi]; exact ((ol.take _).append (OwnL.three r1 r2 r3)).append (ol.drop _)
def replP (k p n : Int) (ts : List Ten) (op : List Int) (i : Int) (u : Ten) : Prop := netL k p n ts op ∧ (0 ≤ i ∧ i < ts.length) ∧ fitP k p n (ts.getD i.toNat ⟨[], [], []⟩) u
open Classical in
noncomputable def replB (k p n : Int) (ts : List Ten) (op : List Int) (i : Int) (u : Ten) : Bool := decide (replP k p n ts op i u)
noncomputable def ifB {α : Type} (b : Bool) (x y : α) : α := if b then x else y
noncomputable def replTs (k p n : Int) (ts : List Ten) (op : List Int) (i : Int) (u : Ten) : List Ten := ifB (replB k p n ts op i u) (ts.set i.toNat u) []
noncomputable def replOp (k p n : Int) (ts : List Ten) (op : List Int) (i : Int) (u : Ten) : List Int := ifB (replB k p n ts op i u) op []
def ReplR (k p n : Int) (ts : List Ten) (op : List Int) (i : Int) (u : Ten) (x : Value) (h : PH) : Prop :=
  ∃ vt vo, x = .tuple [netV (ifB (replB k p n ts op i u) k 0) (ifB (replB k p n ts op i u) p 0) (ifB (replB k p n ts op i u) n 0) vt vo, .bool (replB k p n ts op i u)].toArray ∧ NetO (replTs k p n ts op i u) (replOp k p n ts op i u) vt vo h
theorem NetO.nil : NetO [] [] (.slice none 0 0) (.slice none 0 0) emp :=
  ⟨[], emp, emp, [], RowO.nil, IntsO.nil, OwnL.nil, ⟨by simp [sepL, PDj.emp], fun x hx => by simp at hx; subst hx; exact PLe.emp _, fun k o e => by cases e⟩⟩
theorem ReplR.no {k p n i : Int} {ts : List Ten} {op : List Int} {u : Ten} (h : ¬ replP k p n ts op i u) : ReplR k p n ts op i u (.tuple [netV 0 0 0 (.slice none 0 0) (.slice none 0 0), .bool false].toArray) emp := by
  have e : replB k p n ts op i u = false := by simp [replB, h]
  refine ⟨.slice none 0 0, .slice none 0 0, ?_, ?_⟩
  · rw [e]; rfl
  · rw [replTs, replOp, e]; exact NetO.nil
theorem ReplR.yes {k p n i : Int} {ts : List Ten} {op : List Int} {u : Ten} {vt vo : Value} {g : PH} (h : replP k p n ts op i u) (r : NetO (ts.set i.toNat u) op vt vo g) : ReplR k p n ts op i u (.tuple [netV k p n vt vo, .bool true].toArray) g := by
  have e : replB k p n ts op i u = true := by simp [replB, h]
  refine ⟨vt, vo, ?_, ?_⟩
  · rw [e]; rfl
  · rw [replTs, replOp, e]; exact r
end Go.Proofs.YthlmjnihihbckaaGreat
