/-
  Parts of the proof of FnExactSimplifyNetwork: laws of heaps, contracts of functions.
  Conditions: none.
-/
import Derived.Test.YthlmjnihihbckaaGreatQSimplifyNetwork5
namespace Go.Proofs.YthlmjnihihbckaaGreat
set_option maxRecDepth 100000
open Go.RowKit
theorem dotTo_cons (a b : Int) (xs ys : List Int) : ∀ m, dotTo (a :: xs) (b :: ys) (m + 1) = a * b + dotTo xs ys m
  | 0 => by simp [dotTo]
  | m + 1 => by
    have ih := dotTo_cons a b xs ys m; rw [dotTo, ih, dotTo]; simp only [List.getD_cons_succ]
    omega
theorem dotL_cons (a b : Int) (xs ys : List Int) : dotL (a :: xs) (b :: ys) = a * b + dotL xs ys := by
  unfold dotL
  rw [List.length_cons, dotTo_cons]
theorem steps_skip {labels ls ds : List Int} {l d : Int} (h : l ∉ labels) : stepsL labels (l :: ls) (d :: ds) = stepsL labels ls ds :=
  List.map_congr_left fun x hx => by simp only [strOf]; rw [if_neg (fun e => h (by rw [← e]; exact hx))]
theorem sl_full : ∀ {ls ds is : List Int}, ls.Nodup → ls.length = ds.length → is.length = ls.length → dotL (stepsL ls ls ds) is = offL ds is
  | [], [], [], _, _, _ => by simp [dotL, stepsL, dotTo, offL]
  | l :: ls, d :: ds, i :: is, hn, hl, hi => by
    have hn' := List.nodup_cons.1 hn; have ih := sl_full (ls := ls) (ds := ds) (is := is) hn'.2 (by simpa using hl) (by simpa using hi); have e : stepsL (l :: ls) (l :: ls) (d :: ds) = prodI ds :: stepsL ls ls ds := by
      rw [← steps_skip (l := l) (d := d) hn'.1]
      simp [stepsL, strOf]
    rw [e, dotL_cons, ih, offL, Int.mul_comm]
  | [], _ :: _, _, _, hl, _ => by simp at hl
  | _ :: _, [], _, _, hl, _ => by simp at hl
  | [], [], _ :: _, _, _, hi => by simp at hi
  | _ :: _, _ :: _, [], _, _, hi => by simp at hi
theorem sl_dot : ∀ {ls ds is : List Int} {j : Nat} (v : Int), ls.Nodup → ls.length = ds.length → j < ls.length → is.length + 1 = ls.length → v * strOf ls ds (ls.getD j 0) + dotL (stepsL (ls.eraseIdx j) ls ds) is = offL ds (is.insertIdx j v)
  | l :: ls, d :: ds, is, 0, v, hn, hl, _, hi => by
    have hn' := List.nodup_cons.1 hn; have h := sl_full (ls := ls) (ds := ds) (is := is) hn'.2 (by simpa using hl) (by simpa using hi); rw [List.eraseIdx_zero, List.tail_cons, steps_skip hn'.1, h]
    simp [strOf, offL]
  | l :: ls, d :: ds, i :: is, j + 1, v, hn, hl, hj, hi => by
    have hn' := List.nodup_cons.1 hn; have hj' : j < ls.length := by simpa using hj
    have ih := sl_dot (ls := ls) (ds := ds) (is := is) (j := j) v hn'.2 (by simpa using hl) hj' (by simpa using hi); have hne : ls.getD j 0 ≠ l := fun e => hn'.1 (e ▸ mem_getD hj'); have hm : l ∉ ls.eraseIdx j := fun h => hn'.1 (List.mem_of_mem_eraseIdx h); have e : stepsL (l :: ls.eraseIdx j) (l :: ls) (d :: ds) = prodI ds :: stepsL (ls.eraseIdx j) ls ds := by
      rw [← steps_skip (l := l) (d := d) hm]
      simp [stepsL, strOf]
    rw [List.eraseIdx_cons_succ, e, dotL_cons, List.insertIdx_succ_cons, offL, ← ih, List.getD_cons_succ]; simp only [strOf]; rw [if_neg hne, Int.mul_comm (prodI ds)]
    omega
  | [], _, _, _, _, _, _, hj, _ => by simp at hj
  | _ :: _, [], _, _, _, _, hl, _, _ => by simp at hl
  | l :: ls, _ :: _, [], j + 1, _, _, _, hj, hi => by
    have h1 : (l :: ls).length = ls.length + 1 := rfl; have h2 : ([] : List Int).length = 0 := rfl
    omega
theorem idxL_cons (d : Int) (ds : List Int) (n : Int) : idxL (d :: ds) n = (n / prodI ds % d) :: idxL ds n := by
  unfold idxL
  rw [List.length_cons, List.range_succ_eq_map, List.map_cons, List.map_map]
  rfl
theorem idxL_shift : ∀ {ds : List Int} (_ : ∀ d ∈ ds, 1 ≤ d) (q m : Int), idxL ds (q * prodI ds + m) = idxL ds m
  | [], _, q, m => rfl
  | d :: ds, hd, q, m => by
    have h1 := prodI_one (ds := ds) fun x hx => hd x (by simp [hx]); have hd1 := hd d (by simp); have ih := idxL_shift (ds := ds) (fun x hx => hd x (by simp [hx])) (q * d) m; have e : q * prodI (d :: ds) + m = q * d * prodI ds + m := by rw [prodI_cons, Int.mul_assoc]
    rw [e, idxL_cons, idxL_cons, ih]
    congr 1
    rw [Int.add_comm, Int.add_mul_ediv_right _ _ (by omega), Int.add_mul_emod_self_right]
theorem range_blocks (b : Nat) : ∀ a : Nat, List.range (a * b) = (List.range a).flatMap fun q => (List.range b).map fun r => q * b + r
  | 0 => by simp
  | a + 1 => by
    rw [Nat.add_mul, Nat.one_mul, List.range_add, range_blocks b a, List.range_succ, List.flatMap_append]
    simp
theorem one_block {α : Type} (g : Nat → List α) {v : Nat} : ∀ {a : Nat}, v < a → (List.range a).flatMap (fun q => if q = v then g q else []) = g v
  | 0, h => by omega
  | a + 1, h => by
    rw [List.range_succ, List.flatMap_append]
    by_cases e : a = v
    · subst e; have h0 : (List.range a).flatMap (fun q => if q = a then g q else []) = [] := List.flatMap_eq_nil_iff.2 fun q hq => by
        have := List.mem_range.1 hq; rw [if_neg (by omega)]
      rw [h0]; simp
    · rw [one_block g (show v < a by omega)]; simp [e]
theorem flatMap_congr' {α β : Type} {l : List α} {f g : α → List β} (h : ∀ x ∈ l, f x = g x) : l.flatMap f = l.flatMap g := by
  induction l with
  | nil => rfl
  | cons x l ih => rw [List.flatMap_cons, List.flatMap_cons, h x (by simp), ih fun y hy => h y (by simp [hy])]
theorem filter_flatMap {α β : Type} (p : β → Bool) (f : α → List β) (l : List α) : (l.flatMap f).filter p = l.flatMap fun x => (f x).filter p := by
  induction l with
  | nil => rfl
  | cons x l ih => rw [List.flatMap_cons, List.flatMap_cons, List.filter_append, ih]
theorem map_flatMap' {α β γ : Type} (g : β → γ) (f : α → List β) (l : List α) : (l.flatMap f).map g = l.flatMap fun x => (f x).map g := by
  induction l with
  | nil => rfl
  | cons x l ih => rw [List.flatMap_cons, List.flatMap_cons, List.map_append, ih]
def slHas (ds : List Int) (j : Nat) (v : Int) (n : Nat) : Bool := decide ((idxL ds n).getD j 0 = v)
def slTo (ds : List Int) (j : Nat) (v : Int) (m : Nat) : List Nat := (List.range m).filter (slHas ds j v)
def slAt (ds : List Int) (j : Nat) (v : Int) (m : Nat) : Nat := (offL ds ((idxL (ds.eraseIdx j) m).insertIdx j v)).toNat
theorem ins_in {ds is : List Int} {j : Nat} {v : Int} (hj : j < ds.length) (hv : 0 ≤ v ∧ v < ds.getD j 0) (h : idxIn (ds.eraseIdx j) is) : idxIn ds (is.insertIdx j v) := by
  have hl := h.1; rw [List.length_eraseIdx_of_lt hj] at hl; refine ⟨by rw [List.length_insertIdx_of_le_length (by omega)]; omega, fun i hi => ?_⟩
  rcases Nat.lt_trichotomy i j with c | c | c
  · have e1 : (is.insertIdx j v).getD i 0 = is.getD i 0 := by simp only [List.getD]; rw [List.getElem?_insertIdx_of_lt c]
    have e2 : (ds.eraseIdx j).getD i 0 = ds.getD i 0 := by simp only [List.getD]; rw [List.getElem?_eraseIdx_of_lt c]
    have := h.2 i (by rw [List.length_eraseIdx_of_lt hj]; omega); rw [e1, ← e2]; exact this
  · subst c; have e1 : (is.insertIdx i v).getD i 0 = v := by simp only [List.getD]; rw [List.getElem?_insertIdx_self, if_pos (by omega)]; rfl
    rw [e1]; exact hv
  · have e1 : (is.insertIdx j v).getD i 0 = is.getD (i - 1) 0 := by simp only [List.getD]; rw [List.getElem?_insertIdx_of_gt c]
    have e2 : (ds.eraseIdx j).getD (i - 1) 0 = ds.getD i 0 := by
      simp only [List.getD]; rw [List.getElem?_eraseIdx_of_ge (by omega), show i - 1 + 1 = i by omega]
    have := h.2 (i - 1) (by rw [List.length_eraseIdx_of_lt hj]; omega); rw [e1, ← e2]; exact this
theorem erase_mem {ds : List Int} {j : Nat} {p : Int → Prop} (h : ∀ d ∈ ds, p d) : ∀ d ∈ ds.eraseIdx j, p d := fun d hd => h d (List.mem_of_mem_eraseIdx hd)
theorem sl_in {ds : List Int} (hd : ∀ d ∈ ds, 1 ≤ d) {j : Nat} (hj : j < ds.length) {v : Int} (hv : 0 ≤ v ∧ v < ds.getD j 0) (m : Int) : 0 ≤ offL ds ((idxL (ds.eraseIdx j) m).insertIdx j v) ∧ offL ds ((idxL (ds.eraseIdx j) m).insertIdx j v) ≤ prodI ds - 1 :=
  offL_in hd (ins_in hj hv (idxL_in (erase_mem hd) m))
theorem sl_eq : ∀ {ds : List Int} (_ : ∀ d ∈ ds, 1 ≤ d) {j : Nat} (_ : j < ds.length) {v : Int} (_ : 0 ≤ v ∧ v < ds.getD j 0), slTo ds j v (prodI ds).toNat = (List.range (prodI (ds.eraseIdx j)).toNat).map (slAt ds j v)
  | [], _, j, hj, _, _ => by simp at hj
  | d :: ds, hd, 0, _, v, hv => by
    have hd' : ∀ x ∈ ds, 1 ≤ x := fun x hx => hd x (by simp [hx]); have hd1 := hd d (by simp); have hP := prodI_one hd'; have hv' : 0 ≤ v ∧ v < d := by simpa using hv
    have eP : (prodI (d :: ds)).toNat = d.toNat * (prodI ds).toNat := by rw [prodI_cons, Int.toNat_mul (by omega) (by omega)]
    rw [slTo, eP, range_blocks, filter_flatMap, List.eraseIdx_zero, List.tail_cons]; have e : ∀ q ∈ List.range d.toNat, ((List.range (prodI ds).toNat).map fun r => q * (prodI ds).toNat + r).filter (slHas (d :: ds) 0 v) = if q = v.toNat then (List.range (prodI ds).toNat).map fun r => q * (prodI ds).toNat + r else [] := fun q hq => by
      have hq' := List.mem_range.1 hq; have hdig : ∀ r, r < (prodI ds).toNat → slHas (d :: ds) 0 v (q * (prodI ds).toNat + r) = decide (q = v.toNat) := fun r hr => by
        unfold slHas
        rw [idxL_cons]; have e1 : ((q * (prodI ds).toNat + r : Nat) : Int) = r + q * prodI ds := by
          rw [Int.natCast_add, Int.natCast_mul, show (((prodI ds).toNat : Nat) : Int) = prodI ds by omega, Int.add_comm]
        rw [e1, Int.add_mul_ediv_right _ _ (by omega), Int.ediv_eq_zero_of_lt (by omega) (by omega), Int.zero_add, Int.emod_eq_of_lt (by omega) (by omega), Bool.eq_iff_iff, decide_eq_true_eq, decide_eq_true_eq]; simp only [List.getD_cons_zero]
        omega
      by_cases c : q = v.toNat
      · rw [if_pos c, List.filter_eq_self]; intro x hx; obtain ⟨r, hr, rfl⟩ := List.mem_map.1 hx; rw [hdig r (List.mem_range.1 hr)]; simpa using c
      · rw [if_neg c, List.filter_eq_nil_iff]; intro x hx; obtain ⟨r, hr, rfl⟩ := List.mem_map.1 hx; rw [hdig r (List.mem_range.1 hr)]; simpa using c
    rw [flatMap_congr' e, one_block _ (show v.toNat < d.toNat by omega)]; refine List.map_congr_left fun r hr => ?_; have hr' := List.mem_range.1 hr
    unfold slAt
    rw [List.eraseIdx_zero, List.tail_cons, List.insertIdx_zero, offL, offL_idx hd' (by omega) (by omega), Int.toNat_add (Int.mul_nonneg hv'.1 (by omega)) (by omega), Int.toNat_mul hv'.1 (by omega)]
    simp
  | d :: ds, hd, j + 1, hj, v, hv => by
    have hd' : ∀ x ∈ ds, 1 ≤ x := fun x hx => hd x (by simp [hx]); have hd1 := hd d (by simp); have hP := prodI_one hd'; have hj' : j < ds.length := by simpa using hj
    have hv' : 0 ≤ v ∧ v < ds.getD j 0 := by simpa using hv
    have he := erase_mem (j := j) hd'; have hP' := prodI_one he; have ih := sl_eq hd' hj' hv'; have eP : (prodI (d :: ds)).toNat = d.toNat * (prodI ds).toNat := by rw [prodI_cons, Int.toNat_mul (by omega) (by omega)]
    have eP' : (prodI ((d :: ds).eraseIdx (j + 1))).toNat = d.toNat * (prodI (ds.eraseIdx j)).toNat := by rw [List.eraseIdx_cons_succ, prodI_cons, Int.toNat_mul (by omega) (by omega)]
    rw [slTo, eP, eP', range_blocks, range_blocks, filter_flatMap, map_flatMap']; refine flatMap_congr' fun q hq => ?_; have hq' := List.mem_range.1 hq; rw [List.filter_map]; have e2 : (slHas (d :: ds) (j + 1) v ∘ fun r => q * (prodI ds).toNat + r) = slHas ds j v := by
      funext r
      simp only [Function.comp, slHas]; rw [idxL_cons, List.getD_cons_succ]; have e1 : ((q * (prodI ds).toNat + r : Nat) : Int) = q * prodI ds + r := by
        rw [Int.natCast_add, Int.natCast_mul, show (((prodI ds).toNat : Nat) : Int) = prodI ds by omega]
      rw [e1, idxL_shift hd']
    rw [e2]; have ih' : (List.range (prodI ds).toNat).filter (slHas ds j v) = (List.range (prodI (ds.eraseIdx j)).toNat).map (slAt ds j v) := ih; rw [ih', List.map_map, List.map_map]; refine List.map_congr_left fun m hm => ?_; have hm' := List.mem_range.1 hm; have hin := sl_in hd' hj' hv' m; simp only [Function.comp, slAt]; have e1 : ((q * (prodI (ds.eraseIdx j)).toNat + m : Nat) : Int) = m + q * prodI (ds.eraseIdx j) := by
      rw [Int.natCast_add, Int.natCast_mul, show (((prodI (ds.eraseIdx j)).toNat : Nat) : Int) = prodI (ds.eraseIdx j) by omega, Int.add_comm]
    rw [List.eraseIdx_cons_succ, idxL_cons, e1, Int.add_mul_ediv_right _ _ (by omega), Int.ediv_eq_zero_of_lt (by omega) (by omega), Int.zero_add, Int.emod_eq_of_lt (by omega) (by omega), List.insertIdx_succ_cons, offL, Int.add_comm (m : Int), idxL_shift he,
      Int.toNat_add (Int.mul_nonneg (by omega) (by omega)) hin.1, Int.toNat_mul (by omega) (by omega)]
    simp
end Go.Proofs.YthlmjnihihbckaaGreat
namespace Go.Proofs.YthlmjnihihbckaaGreat
set_option maxRecDepth 100000
open Go.RowKit
structure Sm (A : Type) where
  zero : A
  one : A
  add : A → A → A
  mul : A → A → A
  addC : ∀ a b, add a b = add b a
  addA : ∀ a b c, add (add a b) c = add a (add b c)
  add0 : ∀ a, add zero a = a
  mulC : ∀ a b, mul a b = mul b a
  mulA : ∀ a b c, mul (mul a b) c = mul a (mul b c)
  mul1 : ∀ a, mul one a = a
  mul0 : ∀ a, mul zero a = zero
  dist : ∀ a b c, mul (add a b) c = add (mul a c) (mul b c)
section
variable {A : Type} (R : Sm A)
def upd (a : Int → Int) (x v : Int) : Int → Int := fun y => if y = x then v else a y
variable (f : Int → Int)
end
end Go.Proofs.YthlmjnihihbckaaGreat
namespace Go.Proofs.YthlmjnihihbckaaGreat
set_option maxRecDepth 100000
open Go.RowKit
theorem one_drop_none {α : Type} {l : List α} {k : Nat} (h : l[k]? = none) : (l.drop (k * 1)).take 1 = [] := by
  rw [Nat.mul_one, List.drop_of_length_le (List.getElem?_eq_none_iff.1 h)]; rfl
theorem mem_dropK {α : Type} {l : List α} {p q : Nat} {t : α} : ∀ k, t ∈ dropK 1 l p q k ↔ ∃ m, m < k ∧ m ≠ p ∧ m ≠ q ∧ l[m]? = some t
  | 0 => by simp [dropK]
  | k + 1 => by
    have ih := mem_dropK (l := l) (p := p) (q := q) (t := t) k; have hx : t ∈ (l.drop (k * 1)).take 1 ↔ l[k]? = some t := by
      cases h : l[k]? with
      | none => rw [one_drop_none h]; simp
      | some x => rw [one_drop h]; simp [eq_comm]
    by_cases hc : k ≠ p ∧ k ≠ q
    · rw [dropK_yes hc, List.mem_append, ih, hx]
      constructor
      · rintro (⟨m, h1, h2⟩ | h)
        · exact ⟨m, by omega, h2⟩
        · exact ⟨k, by omega, hc.1, hc.2, h⟩
      · rintro ⟨m, h1, h2, h3, h4⟩
        by_cases e : m = k
        · subst e; exact .inr h4
        · exact .inl ⟨m, by omega, h2, h3, h4⟩
    · rw [dropK_no hc, ih]
      constructor
      · rintro ⟨m, h1, h2⟩; exact ⟨m, by omega, h2⟩
      · rintro ⟨m, h1, h2, h3, h4⟩; have : m ≠ k := fun e => hc (e ▸ ⟨h2, h3⟩); exact ⟨m, by omega, h2, h3, h4⟩
def needS (ts : List Ten) (op : List Int) (i j m : Nat) : List Int := op ++ (dropK 1 ts i j m).flatMap (·.l)
def needI (ts : List Ten) (op : List Int) (i j m : Nat) : List Int := (dropK 1 ts i j m).foldl (fun a t => joinI a t.l) op
theorem mem_foldJ {l : List Ten} : ∀ {a : List Int} {x : Int}, x ∈ l.foldl (fun a t => joinI a t.l) a ↔ x ∈ a ∨ ∃ t ∈ l, x ∈ t.l := by
  induction l with
  | nil => intro a x; simp
  | cons t l ih =>
    intro a x; rw [List.foldl_cons, ih, mem_joinI]; simp only [List.mem_cons, exists_eq_or_imp, or_assoc]
theorem mem_needS {ts : List Ten} {op : List Int} {i j m : Nat} {x : Int} : x ∈ needS ts op i j m ↔ x ∈ op ∨ ∃ t ∈ dropK 1 ts i j m, x ∈ t.l := by
  simp [needS, List.mem_append, List.mem_flatMap]
theorem need_iff {ts : List Ten} {op : List Int} {i j m : Nat} (x : Int) : x ∈ needI ts op i j m ↔ x ∈ needS ts op i j m := by
  rw [mem_needS, needI, mem_foldJ]
section
variable {ts : List Ten} {op : List Int} {i j k : Nat} {t : Ten}
theorem needS_zero : needS ts op i j 0 = op := by simp [needS, dropK]
theorem needI_zero : needI ts op i j 0 = op := rfl
theorem needS_yes (ht : ts[k]? = some t) (h : k ≠ i ∧ k ≠ j) : needS ts op i j (k + 1) = needS ts op i j k ++ t.l := by
  unfold needS
  rw [dropK_yes h, one_drop ht, List.flatMap_append]
  simp
theorem needS_no (h : ¬ (k ≠ i ∧ k ≠ j)) : needS ts op i j (k + 1) = needS ts op i j k := by unfold needS; rw [dropK_no h]
theorem needI_yes (ht : ts[k]? = some t) (h : k ≠ i ∧ k ≠ j) : needI ts op i j (k + 1) = joinI (needI ts op i j k) t.l := by
  unfold needI
  rw [dropK_yes h, one_drop ht, List.foldl_append]; rfl
theorem needI_no (h : ¬ (k ≠ i ∧ k ≠ j)) : needI ts op i j (k + 1) = needI ts op i j k := by unfold needI; rw [dropK_no h]
end
theorem need_len {ts : List Ten} {op : List Int} {i j : Nat} (h : ∀ t ∈ ts, t.l.length ≤ 12) : ∀ m, (needS ts op i j m).length ≤ op.length + 12 * m ∧ (needI ts op i j m).length ≤ op.length + 12 * m
  | 0 => by rw [needS_zero, needI_zero]; omega
  | m + 1 => by
    have ih := need_len (op := op) (i := i) (j := j) h m
    by_cases hc : m ≠ i ∧ m ≠ j
    · cases ht : ts[m]? with
      | none =>
        have e1 : needS ts op i j (m + 1) = needS ts op i j m := by unfold needS; rw [dropK_yes hc, one_drop_none ht, List.append_nil]
        have e2 : needI ts op i j (m + 1) = needI ts op i j m := by unfold needI; rw [dropK_yes hc, one_drop_none ht, List.append_nil]
        rw [e1, e2]; omega
      | some t =>
        have h12 := h t (List.mem_of_getElem? ht); have hj := joinI_len (needI ts op i j m) t.l; rw [needS_yes ht hc, needI_yes ht hc, List.length_append]
        omega
    · rw [needS_no hc, needI_no hc]; omega
theorem dimOf_map {us : List Ten} {f : Int → Int} {x : Int} (h : ∀ t ∈ us, t.d = t.l.map f) (hx : ∃ t ∈ us, x ∈ t.l) : dimOf us x = f x := by
  induction us with
  | nil => obtain ⟨t, ht, _⟩ := hx; simp at ht
  | cons t us ih =>
    rw [dimOf]
    by_cases hm : x ∈ t.l
    · rw [if_pos hm, h t (by simp), map_getD (findI_get hm).1, (findI_get hm).2]
    · rw [if_neg hm]; refine ih (fun u hu => h u (by simp [hu])) ?_; obtain ⟨u, hu, hxu⟩ := hx
      rcases List.mem_cons.1 hu with rfl | hu
      · exact absurd hxu hm
      · exact ⟨u, hu, hxu⟩
theorem dimOf_none {us : List Ten} {x : Int} (hx : ¬ ∃ t ∈ us, x ∈ t.l) : dimOf us x = 0 := Classical.byContradiction fun h => hx (dimOf_mem h)
theorem cons_of_map {us : List Ten} {f : Int → Int} (h : ∀ t ∈ us, t.d = t.l.map f) : consL us := fun i _ t ht j hj t' ht' => by
  rw [ht] at ht'
  cases ht'
  by_cases hx : ∃ u ∈ us.take i, t.l.getD j 0 ∈ u.l
  · right
    rw [dimOf_map (fun u hu => h u (List.mem_of_mem_take hu)) hx, h t (List.mem_of_getElem? ht), map_getD hj]
  · exact .inl (dimOf_none hx)
theorem net_of {k p n : Int} {ts us : List Ten} {op : List Int} (h : netL k p n ts op) (hl : us.length ≤ 12) (ht : ∀ t ∈ us, tensorL k p n t.l t.d t.x) (hd : ∀ t ∈ us, t.d = t.l.map (dimOf ts)) (ho : ∀ x ∈ op, ∃ t ∈ us, x ∈ t.l) : netL k p n us op := by
  refine ⟨h.1, hl, ht, cons_of_map hd, ?_⟩; have e : dimsFor us op = dimsFor ts op := List.map_congr_left fun x hx => dimOf_map hd (ho x hx); rw [e]; exact h.2.2.2.2
theorem net_has {k p n : Int} {ts : List Ten} {op : List Int} (h : netL k p n ts op) {x : Int} (hx : x ∈ op) : ∃ t ∈ ts, x ∈ t.l := by
  obtain ⟨j, hj, e⟩ := getD_of_mem hx; have ho := (open_at h.2.2.2.2 hj).2; rw [e] at ho; exact dimOf_mem (by omega)
def mgLo (i j : Int) : Nat := (min i j).toNat
def mgHi (i j : Int) : Nat := (max i j).toNat
def mgA (ts : List Ten) (i j : Int) : Ten := ts.getD (mgLo i j) noTen
def mgB (ts : List Ten) (i j : Int) : Ten := ts.getD (mgHi i j) noTen
def mergN (ts : List Ten) (op : List Int) (i j : Int) : List Int := needS ts op i.toNat j.toNat ts.length
def mergP (k p n : Int) (ts : List Ten) (op : List Int) (i j : Int) : Prop := netL k p n ts op ∧ (0 ≤ i ∧ i < ts.length) ∧ (0 ≤ j ∧ j < ts.length) ∧ i ≠ j ∧ pairP k p n (mgA ts i j) (mgB ts i j) (mergN ts op i j)
noncomputable def mergT (k p n : Int) (ts : List Ten) (op : List Int) (i j : Int) : Ten := pairR k p n (mgA ts i j) (mgB ts i j) (mergN ts op i j)
noncomputable def mergL (k p n : Int) (ts : List Ten) (op : List Int) (i j : Int) (m : Nat) : List Ten := dropK 1 (ts.set (mgLo i j) (mergT k p n ts op i j)) (mgHi i j) (mgHi i j) m
open Classical in
noncomputable def mergB (k p n : Int) (ts : List Ten) (op : List Int) (i j : Int) : Bool := decide (mergP k p n ts op i j)
noncomputable def mergTs (k p n : Int) (ts : List Ten) (op : List Int) (i j : Int) : List Ten := ifB (mergB k p n ts op i j) (mergL k p n ts op i j ts.length) []
noncomputable def mergOp (k p n : Int) (ts : List Ten) (op : List Int) (i j : Int) : List Int := ifB (mergB k p n ts op i j) op []
def MergR (k p n : Int) (ts : List Ten) (op : List Int) (i j : Int) (x : Value) (h : PH) : Prop :=
  NetB (ifB (mergB k p n ts op i j) k 0) (ifB (mergB k p n ts op i j) p 0) (ifB (mergB k p n ts op i j) n 0) (mergTs k p n ts op i j) (mergOp k p n ts op i j) (mergB k p n ts op i j) x h
section
variable {k p n : Int} {ts : List Ten} {op : List Int} {i j : Int}
theorem mergB_true : mergB k p n ts op i j = true ↔ mergP k p n ts op i j := by simp [mergB]
theorem mergB_false : mergB k p n ts op i j = false ↔ ¬ mergP k p n ts op i j := by simp [mergB]
theorem MergNo (h : ¬ mergP k p n ts op i j) : MergR k p n ts op i j (.tuple [netV 0 0 0 (.slice none 0 0) (.slice none 0 0), .bool false].toArray) emp := by
  have e : mergB k p n ts op i j = false := by simp [mergB, h]
  refine ⟨.slice none 0 0, .slice none 0 0, ?_, ?_⟩
  · rw [e]; rfl
  · rw [mergTs, mergOp, e]; exact NetO.nil
theorem MergYes {vt vo : Value} {g : PH} (h : mergP k p n ts op i j) (r : NetO (mergL k p n ts op i j ts.length) op vt vo g) : MergR k p n ts op i j (.tuple [netV k p n vt vo, .bool true].toArray) g := by
  have e : mergB k p n ts op i j = true := by simp [mergB, h]
  refine ⟨vt, vo, ?_, ?_⟩
  · rw [e]; rfl
  · rw [mergTs, mergOp, e]; exact r
theorem merg_lo {m : Nat} (h : (m : Int) = min i j) (hm : m < ts.length) (hne : i ≠ j) : mergL k p n ts op i j (m + 1) = mergL k p n ts op i j m ++ [mergT k p n ts op i j] := by
  have e : mgLo i j = m := by unfold mgLo; omega
  have e2 : m ≠ mgHi i j := by unfold mgHi; omega
  unfold mergL
  rw [dropK_yes ⟨e2, e2⟩, e, one_drop (List.getElem?_set_self hm)]
theorem merg_hi {m : Nat} (h : (m : Int) = max i j) : mergL k p n ts op i j (m + 1) = mergL k p n ts op i j m := by
  have e : m = mgHi i j := by unfold mgHi; omega
  unfold mergL
  rw [dropK_no (by omega)]
theorem merg_else {m : Nat} {t : Ten} (ht : ts[m]? = some t) (h1 : (m : Int) ≠ min i j) (h2 : (m : Int) ≠ max i j) (h0 : 0 ≤ i ∧ 0 ≤ j) : mergL k p n ts op i j (m + 1) = mergL k p n ts op i j m ++ [t] := by
  have e : mgLo i j ≠ m := by unfold mgLo; omega
  have e2 : m ≠ mgHi i j := by unfold mgHi; omega
  unfold mergL
  rw [dropK_yes ⟨e2, e2⟩, one_drop (by rw [List.getElem?_set_ne e]; exact ht)]
theorem merg_len (m : Nat) : (mergL k p n ts op i j m).length ≤ m := by
  have := dropK_len (m := 1) (cs := ts.set (mgLo i j) (mergT k p n ts op i j)) (p := mgHi i j) (q := mgHi i j) m
  unfold mergL; omega
theorem mergP.mem (h : mergP k p n ts op i j) {t : Ten} : t ∈ mergL k p n ts op i j ts.length ↔ t = mergT k p n ts op i j ∨ ∃ m, m < ts.length ∧ m ≠ mgLo i j ∧ m ≠ mgHi i j ∧ ts[m]? = some t := by
  obtain ⟨_, hi, hj, hne, _⟩ := h; have e : mgLo i j ≠ mgHi i j := by unfold mgLo mgHi; omega
  have e2 : mgLo i j < ts.length := by unfold mgLo; omega
  rw [mergL, mem_dropK]
  constructor
  · rintro ⟨m, h1, h2, _, h4⟩
    by_cases c : mgLo i j = m
    · subst c; rw [List.getElem?_set_self h1] at h4
      cases h4; exact .inl rfl
    · rw [List.getElem?_set_ne c] at h4; exact .inr ⟨m, h1, Ne.symm c, h2, h4⟩
  · rintro (rfl | ⟨m, h1, h2, h3, h4⟩)
    · exact ⟨mgLo i j, e2, e, e, List.getElem?_set_self e2⟩
    · exact ⟨m, h1, h3, h3, by rw [List.getElem?_set_ne (Ne.symm h2)]; exact h4⟩
theorem mergP.ab (h : mergP k p n ts op i j) : ts[mgLo i j]? = some (mgA ts i j) ∧ ts[mgHi i j]? = some (mgB ts i j) := by
  obtain ⟨_, hi, hj, hne, _⟩ := h; have e1 : mgLo i j < ts.length := by unfold mgLo; omega
  have e2 : mgHi i j < ts.length := by unfold mgHi; omega
  exact ⟨by simp [mgA, List.getD, e1], by simp [mgB, List.getD, e2]⟩
theorem mergP.net (h : mergP k p n ts op i j) : netL k p n (mergL k p n ts op i j ts.length) op := by
  have hn := h.1; have hd := net_dmap hn; obtain ⟨ea, eb⟩ := h.ab; have hma := List.mem_of_getElem? ea; have hmb := List.mem_of_getElem? eb; have pt := pair_ten h.2.2.2.2; refine net_of hn (Nat.le_trans (merg_len _) hn.2.1) (fun t ht => ?_) (fun t ht => ?_) (fun x hx => ?_)
  · rcases h.mem.1 ht with rfl | ⟨m, _, _, _, hm⟩
    · exact pt.1
    · exact hn.2.2.1 t (List.mem_of_getElem? hm)
  · rcases h.mem.1 ht with rfl | ⟨m, _, _, _, hm⟩
    · show (mergT k p n ts op i j).d = (mergT k p n ts op i j).l.map (dimOf ts)
      rw [mergT, pt.2.2, pt.2.1, keep_map (hd _ hma) (hd _ hmb)]
    · exact hd t (List.mem_of_getElem? hm)
  · obtain ⟨t, ht, hxt⟩ := net_has hn hx; obtain ⟨m, hm⟩ := List.getElem?_of_mem ht
    by_cases c : m ≠ mgLo i j ∧ m ≠ mgHi i j
    · exact ⟨t, h.mem.2 (.inr ⟨m, (List.getElem?_eq_some_iff.1 hm).1, c.1, c.2, hm⟩), hxt⟩
    · refine ⟨_, h.mem.2 (.inl rfl), ?_⟩; rw [mergT, pt.2.1, mem_keep]; refine ⟨?_, mem_needS.2 (.inl hx)⟩
      by_cases c1 : m = mgLo i j
      · subst c1; rw [ea] at hm; cases hm; exact .inl hxt
      · have c2 : m = mgHi i j := by omega
        subst c2; rw [eb] at hm; cases hm; exact .inr hxt
theorem mergP.less (h : mergP k p n ts op i j) : (mergL k p n ts op i j ts.length).length + 1 ≤ ts.length := by
  obtain ⟨_, hi, hj, hne, _⟩ := h; have e : mgHi i j < ts.length := by unfold mgHi; omega
  have hs : ∀ (c m : Nat), mgHi i j < m → m = mgHi i j + 1 + c → (mergL k p n ts op i j m).length + 1 ≤ m := by
    intro c
    induction c with
    | zero =>
      intro m hm e; have := merg_len (k := k) (p := p) (n := n) (ts := ts) (op := op) (i := i) (j := j) (mgHi i j); rw [show m = mgHi i j + 1 by omega, merg_hi (by unfold mgHi; omega)]
      omega
    | succ c ih =>
      intro m hm e; have ih := ih (mgHi i j + 1 + c) (by omega) rfl; have e3 : mgHi i j + 1 + c ≠ mgHi i j := by omega
      rw [show m = (mgHi i j + 1 + c) + 1 by omega, mergL, dropK_yes ⟨e3, e3⟩, List.length_append, List.length_take]
      unfold mergL at ih
      omega
  exact hs (ts.length - (mgHi i j + 1)) ts.length e (by omega)
end
end Go.Proofs.YthlmjnihihbckaaGreat
namespace Go.Proofs.YthlmjnihihbckaaGreat
set_option maxRecDepth 100000
open Go.RowKit
theorem prod_erase : ∀ {ds : List Int} {j : Nat}, j < ds.length → prodI (ds.eraseIdx j) * ds.getD j 0 = prodI ds
  | [], j, h => by simp at h
  | d :: ds, 0, _ => by rw [List.eraseIdx_zero, List.tail_cons, prodI_cons, Int.mul_comm]; rfl
  | d :: ds, j + 1, h => by
    have ih := prod_erase (ds := ds) (j := j) (by simpa using h); rw [List.eraseIdx_cons_succ, prodI_cons, prodI_cons, List.getD_cons_succ, Int.mul_assoc, ih]
def slJ (t : Ten) (x : Int) : Nat := (findI t.l x).toNat
def slX (wd : Int) (t : Ten) (j : Nat) (v : Int) (m : Nat) : List Int := (slTo t.d j v m).flatMap fun (n : Nat) => elt t.x wd n
noncomputable def slT (k n : Int) (t : Ten) (x v : Int) : Ten := ⟨t.l.eraseIdx (slJ t x), t.d.eraseIdx (slJ t x), slX (widthI k n) t (slJ t x) v (prodI t.d).toNat⟩
/-- The numbers as the program meets them. -/
def slY (wd : Int) (t : Ten) (j : Nat) (v : Int) (m : Nat) : List Int := ((List.range m).map (slAt t.d j v)).flatMap fun (n : Nat) => elt t.x wd n
theorem slY_step {wd : Int} {t : Ten} {j m : Nat} {v : Int} : slY wd t j v (m + 1) = slY wd t j v m ++ elt t.x wd (slAt t.d j v m) := by
  unfold slY
  rw [List.range_succ, List.map_append, List.flatMap_append]
  simp
structure SlOK (k p n : Int) (t : Ten) (x v : Int) : Prop where
  ten : tensorL k p n t.l t.d t.x
  mem : x ∈ t.l
  val : 0 ≤ v ∧ v < t.d.getD (slJ t x) 0
section
variable {k p n : Int} {t : Ten} {x v : Int}
theorem sl_j (h : tensorL k p n t.l t.d t.x) (hx : x ∈ t.l) : slJ t x < t.l.length ∧ slJ t x < t.d.length ∧ t.l.getD (slJ t x) 0 = x := by
  have hg := findI_get hx; have ha := ten_axes h; exact ⟨hg.1, by rw [← ha.2.1]; exact hg.1, hg.2⟩
theorem SlOK.eq (h : SlOK k p n t x v) : slX (widthI k n) t (slJ t x) v (prodI t.d).toNat = slY (widthI k n) t (slJ t x) v (prodI (t.d.eraseIdx (slJ t x))).toNat := by
  have hj := sl_j h.ten h.mem
  unfold slX slY
  rw [sl_eq (fun d hd => (dims_mem (axes_dims (ten_axes h.ten)) d hd).1) hj.2.1 h.val]
theorem SlOK.at_ (h : SlOK k p n t x v) (m : Nat) : slAt t.d (slJ t x) v m < (prodI t.d).toNat ∧ ((slAt t.d (slJ t x) v m : Nat) : Int) = v * strOf t.l t.d x + dotL (stepsL (t.l.eraseIdx (slJ t x)) t.l t.d) (idxL (t.d.eraseIdx (slJ t x)) m) := by
  have hj := sl_j h.ten h.mem; have ha := ten_axes h.ten; have hd : ∀ d ∈ t.d, 1 ≤ d := fun d hd => (dims_mem (axes_dims ha) d hd).1; have hin := sl_in hd hj.2.1 h.val m; have hs := sl_dot (ls := t.l) (ds := t.d) (is := idxL (t.d.eraseIdx (slJ t x)) m) (j := slJ t x) v (axes_nodup ha) ha.2.1 hj.1 (by rw [idxL_len, List.length_eraseIdx_of_lt hj.2.1]; have := hj.2.1; have := ha.2.1; omega); rw [hj.2.2] at hs
  unfold slAt
  omega
theorem SlOK.dims (h : SlOK k p n t x v) : dimsIn (t.d.eraseIdx (slJ t x)) ∧ 1 ≤ prodI (t.d.eraseIdx (slJ t x)) ∧ prodI (t.d.eraseIdx (slJ t x)) ≤ 4096 := by
  have hj := sl_j h.ten h.mem; have ha := ten_axes h.ten; have hm := erase_mem (j := slJ t x) (dims_mem (axes_dims ha)); have hp1 := prodI_one fun d hd => (hm d hd).1; have hpe := prod_erase hj.2.1; have hd := axes_dims ha (slJ t x) hj.2.1; have hp := ten_prod h.ten; have h1 : prodI (t.d.eraseIdx (slJ t x)) * 1 ≤ prodI (t.d.eraseIdx (slJ t x)) * t.d.getD (slJ t x) 0 := Int.mul_le_mul_of_nonneg_left hd.1 (by omega); exact ⟨fun j hj => hm _ (mem_getD hj), hp1, by omega⟩
theorem SlOK.el (h : SlOK k p n t x v) (m : Nat) : InR k p n (elt t.x (widthI k n) (slAt t.d (slJ t x) v m)) := by
  have := (h.at_ m).1; exact elt_inR h.ten (by omega) (by omega)
theorem SlOK.all (h : SlOK k p n t x v) : ∀ m : Nat, ((slY (widthI k n) t (slJ t x) v m).length : Int) = m * widthI k n ∧ ∀ a ∈ slY (widthI k n) t (slJ t x) v m, 0 ≤ a ∧ a ≤ topI k p n
  | 0 => by simp [slY]
  | m + 1 => by
    have ih := SlOK.all h m; have he := h.el m; have hw := width_range h.ten.1; rw [slY_step]; refine ⟨?_, fun a ha => ?_⟩
    · rw [List.length_append, he.1, Int.natCast_add, ih.1, show ((m + 1 : Nat) : Int) = (m : Int) + 1 from rfl, Int.add_mul, Int.one_mul]; omega
    · rcases List.mem_append.1 ha with ha | ha
      · exact ih.2 a ha
      · exact he.2 a ha
theorem SlOK.axes (h : SlOK k p n t x v) : axesL (t.l.eraseIdx (slJ t x)) (t.d.eraseIdx (slJ t x)) := by
  have hj := sl_j h.ten h.mem; have ha := ten_axes h.ten; have hl := List.length_eraseIdx_of_lt hj.1; have hl2 := List.length_eraseIdx_of_lt hj.2.1; have hn : (t.l.eraseIdx (slJ t x)).Nodup := (axes_nodup ha).sublist (List.eraseIdx_sublist _ _); refine ⟨by rw [hl]; have := ha.1; omega, by rw [hl, hl2, ha.2.1], fun i hi => ⟨?_, h.dims.1 i (by rw [hl] at hi; rw [hl2]; have := ha.2.1; omega), nodup_not_take hn hi⟩⟩; obtain ⟨q, hq, e⟩ := getD_of_mem (List.mem_of_mem_eraseIdx (mem_getD hi)); rw [← e]; exact (ha.2.2 q hq).1
theorem SlOK.out (h : SlOK k p n t x v) : tensorL k p n (slT k n t x v).l (slT k n t x v).d (slT k n t x v).x := by
  have hd := h.dims; have ha := h.axes; have hx := h.all (prodI (t.d.eraseIdx (slJ t x))).toNat; refine ⟨h.ten.1, sizeI_ge.2 ⟨ha, hd.2.2⟩, ?_, fun a hm => ?_⟩
  · show ((slX (widthI k n) t (slJ t x) v (prodI t.d).toNat).length : Int) = sizeI (t.l.eraseIdx (slJ t x)) (t.d.eraseIdx (slJ t x)) * widthI k n
    rw [h.eq, sizeI_yes ha hd.2.2, hx.1, show (((prodI (t.d.eraseIdx (slJ t x))).toNat : Nat) : Int) = prodI (t.d.eraseIdx (slJ t x)) by omega]
  · have hm' : a ∈ slX (widthI k n) t (slJ t x) v (prodI t.d).toNat := hm; rw [h.eq] at hm'; exact hx.2 a hm'
end
end Go.Proofs.YthlmjnihihbckaaGreat
namespace Go.Proofs.YthlmjnihihbckaaGreat
set_option maxRecDepth 100000
open Go.RowKit
section
variable (m : Int) (ss : List Stp) (C : List Int) (W : Int)
def done (S : List Int) : Prop := ∀ i, i < S.length → 0 ≤ S.getD i 0
end
section
variable {m : Int} {ss : List Stp} {C : List Int} {W : Int} {S : List Int} {T : Int}
end
end Go.Proofs.YthlmjnihihbckaaGreat
namespace Go.Proofs.YthlmjnihihbckaaGreat
set_option maxRecDepth 100000
open Go.RowKit
def plainAt (m k : Nat) : Stp := if k = 0 then ⟨0, 1⟩ else ⟨(k : Int) + 1, (m : Int) + k - 1⟩
def plainTo (m j : Nat) : List Stp := (List.range j).map (plainAt m)
def plainL (m : Nat) : List Stp := plainTo m (m - 1)
def totP (k p n : Int) (ts : List Ten) (op : List Int) : Prop := netL k p n ts op ∧ conP k p n ts [] (plainL ts.length)
open Classical in
noncomputable def totB (k p n : Int) (ts : List Ten) (op : List Int) : Bool := decide (totP k p n ts op)
noncomputable def totX (k p n : Int) (ts : List Ten) (op : List Int) : List Int := ifB (totB k p n ts op) (conT k p n ts [] (plainL ts.length)).x []
section
variable {k p n : Int} {ts : List Ten} {op : List Int}
theorem totB_true : totB k p n ts op = true ↔ totP k p n ts op := by simp [totB]
theorem totX_yes (h : totP k p n ts op) : totX k p n ts op = (conT k p n ts [] (plainL ts.length)).x := by rw [totX, totB_true.2 h]; rfl
theorem totP.inR (h : totP k p n ts op) : InR k p n (totX k p n ts op) := by
  obtain ⟨ht, hl⟩ := h.2.ten; rw [totX_yes h]; have hax := ten_axes ht; have hd : (conT k p n ts [] (plainL ts.length)).d = [] := List.eq_nil_of_length_eq_zero (by rw [← hax.2.1, hl]; rfl); have hx := ht.2.2.1; rw [hl, hd] at hx; have hs : sizeI [] [] = 1 := by
    have : axesL [] [] := ⟨by decide, rfl, fun j hj => by simp at hj⟩
    rw [sizeI_yes this (by decide)]; rfl
  rw [hs, Int.one_mul] at hx; exact ⟨by omega, ht.2.2.2⟩
end
section
variable {k p n x : Int} {ts : List Ten} {op : List Int}
end
end Go.Proofs.YthlmjnihihbckaaGreat
namespace Go.Proofs.YthlmjnihihbckaaGreat
set_option maxRecDepth 100000
open Go.RowKit
def onesT (k p n : Int) (t : Ten) : Ten := ⟨t.l, t.d, (List.replicate (prodI t.d).toNat (oneL k p n)).flatten⟩
def envTs (k p n : Int) (ts : List Ten) (i : Int) : List Ten := ts.set i.toNat (onesT k p n (ts.getD i.toNat noTen))
def envOp (ts : List Ten) (op : List Int) (i : Int) : List Int := joinI op (ts.getD i.toNat noTen).l
def envP (k p n : Int) (ts : List Ten) (op : List Int) (i : Int) : Prop := netL k p n ts op ∧ (0 ≤ i ∧ i < ts.length) ∧ conP k p n (envTs k p n ts i) (envOp ts op i) (plainL ts.length)
open Classical in
noncomputable def envB (k p n : Int) (ts : List Ten) (op : List Int) (i : Int) : Bool := decide (envP k p n ts op i)
noncomputable def envR (k p n : Int) (ts : List Ten) (op : List Int) (i : Int) : Ten := ifB (envB k p n ts op i) (conT k p n (envTs k p n ts i) (envOp ts op i) (plainL ts.length)) noTen
section
variable {k p n i : Int} {ts : List Ten} {op : List Int}
theorem envB_true : envB k p n ts op i = true ↔ envP k p n ts op i := by simp [envB]
end
theorem dimOf_set {ts : List Ten} {j : Nat} {t u : Ten} (ht : ts[j]? = some t) (hl : u.l = t.l) (hd : u.d = t.d) (x : Int) : dimOf (ts.set j u) x = dimOf ts x := by
  induction ts generalizing j with
  | nil => simp at ht
  | cons y ts ih =>
    cases j with
    | zero =>
      have e : y = t := by simpa using ht
      subst e; simp only [List.set_cons_zero, dimOf, hl, hd]
    | succ j =>
      have := ih (j := j) (by simpa using ht); simp only [List.set_cons_succ, dimOf, this]
theorem idxAt_map {ls ds op : List Int} {f : Int → Int} (hd : ds = ls.map f) (hs : ∀ x ∈ op, x ∈ ls) : idxAt ls ds op = op.map f := List.map_congr_left fun x hx => by
  have hg := findI_get (hs x hx); rw [hd, map_getD hg.1, hg.2]
theorem conP.dims {k p n : Int} {ts : List Ten} {op : List Int} {ss : List Stp} (h : conP k p n ts op ss) : (conT k p n ts op ss).d = op.map (dimOf ts) := by
  unfold conT
  by_cases hn : ts.length = 0
  · rw [if_pos hn, h.empty hn]; rfl
  · rw [if_neg hn]; have hf := (h.last hn).1; have r := run_ok h.1 ss.length (Nat.le_refl _) h.2; have hg := r.get (j := ts.length + ss.length - 1) (by omega); have hs := sum_ten hf.2.1 op; have e : (sumR k p n (lastT k p n ts op ss) op).d = (sumR k p n (lastT k p n ts op ss) op).l.map (dimOf ts) := by
      rw [hs.2.2, hs.2.1]; exact keep_map (t := lastT k p n ts op ss) (u := oneT k p n) hg.2.2 rfl op
    exact idxAt_map e fun x hx => hf.perm.perm.mem_iff.1 hx
def crP (k p n : Int) (ts : List Ten) (op : List Int) (i : Int) (u : Ten) : Prop := replP k p n ts op i u ∧ envP k p n ts op i ∧ pairP k p n u (envR k p n ts op i) op
section
variable {k p n i : Int} {ts : List Ten} {op : List Int} {u : Ten}
theorem envP.ten (h : envP k p n ts op i) : tensorL k p n (envR k p n ts op i).l (envR k p n ts op i).d (envR k p n ts op i).x ∧ (envR k p n ts op i).l = envOp ts op i ∧ (envR k p n ts op i).d = (envR k p n ts op i).l.map (dimOf ts) := by
  have e : envR k p n ts op i = conT k p n (envTs k p n ts i) (envOp ts op i) (plainL ts.length) := by rw [envR, envB_true.2 h]; rfl
  have ht := h.2.2.ten; have hd := h.2.2.dims; rw [e]; have hi : i.toNat < ts.length := by have := h.2.1; omega
  have hj : ts[i.toNat]? = some (ts.getD i.toNat noTen) := by simp [List.getD, hi]
  refine ⟨ht.1, ht.2, ?_⟩; rw [hd, ht.2]; exact List.map_congr_left fun x _ => dimOf_set (u := onesT k p n (ts.getD i.toNat noTen)) hj rfl rfl x
theorem crP.perm (h : crP k p n ts op i u) : PermOK k p n (pairR k p n u (envR k p n ts op i) op) op := by
  obtain ⟨h1, h2, _⟩ := pair_ten h.2.2; have he := h.2.1.ten; have hn := (net_open h.1.1).1; have hk : ∀ x, x ∈ (pairR k p n u (envR k p n ts op i) op).l ↔ x ∈ op := fun x => by
    rw [h2, mem_keep]; exact ⟨fun h => h.2, fun h => ⟨.inr (by rw [he.2.1]; exact mem_joinI.2 (.inl h)), h⟩⟩
  exact ⟨h1.1, h1, perm_of hn (fun x hx => (hk x).2 hx) (pigeon (axes_nodup (ten_axes h1)) fun x hx => (hk x).1 hx)⟩
end
end Go.Proofs.YthlmjnihihbckaaGreat
namespace Go.Proofs.YthlmjnihihbckaaGreat
set_option maxRecDepth 100000
open Go.RowKit

section
variable {P : Program} {n : Nat} {w0 : World} {K : Env} {HS : List PH} {d : Option Tmp} {ty : TypeId} {ps : String} {af : Array Edge} {g : Option (Nat × Bool)}
end
theorem NetO.none : NetO [] [] (.slice none 0 0) (.slice none 0 0) emp :=
  ⟨[], emp, emp, [], ⟨rfl, .inl ⟨rfl, rfl, rfl⟩⟩, IntsO.nil, OwnL.nil, ⟨⟨fun x hx => PDj.emp _, fun x hx => PDj.emp _, trivial⟩, fun x hx => by simp at hx; subst hx; exact PLe.emp _, fun k o e => by cases e⟩⟩
end Go.Proofs.YthlmjnihihbckaaGreat
namespace Go.Proofs.YthlmjnihihbckaaGreat
set_option maxRecDepth 100000
open Go.RowKit
theorem fits_k2 {t u : Ten} {f : Int → Int} {ks : List Int} {v : Value} {g h : PH} (r : IntsO (selP (fun x => decide (x ∈ ks)) (joinI t.l u.l) ((joinI t.l u.l).map f)) v g) (l : PLe g h) : IntsR ((keepL t u ks).map f) v h := by
  rw [selP_map] at r; exact r.toR.mono l
set_option maxHeartbeats 2000000 in
theorem ct_u_l08Fits (k p n : Int) (f : Int → Int) (t u : Ten) (ks : List Int) (a b c a' b' c' v : Value) (w : World) (r1 : IntsR t.l a (hp w)) (r2 : IntsR t.d b (hp w)) (r3 : IntsR t.x c (hp w)) (r1' : IntsR u.l a' (hp w)) (r2' : IntsR u.d b' (hp w)) (r3' : IntsR u.x c' (hp w)) (rk : IntsR ks v (hp w)) (h1 : tensorL k p n t.l t.d t.x) (h2 : tensorL k p n u.l u.d u.x) (ht : t.d = t.l.map f) (hu : u.d = u.l.map f) :
    Calls Tryz.prog 65 [tenV a b c, tenV a' b' c', v].toArray w (RetV w (.bool (pairB k p n t u ks))) := by
  have hat := ten_axes h1; have hau := ten_axes h2; have h12 := hat.1; have h12' := hau.1; have hun := axes_nodup hau; have hjl := joinI_len t.l u.l; have hdj : dimsIn ((joinI t.l u.l).map f) := map_dims fun x hx => by
    rcases mem_joinI.1 hx with h | h
    · exact dims_mem (axes_dims hat) _ (by rw [ht]; exact List.mem_map_of_mem h)
    · exact dims_mem (axes_dims hau) _ (by rw [hu]; exact List.mem_map_of_mem h)
  have hiff := pairP_iff (ks := ks) h1 h2 ht hu; have hb : ∀ q : Bool, (q = true ↔ pairP k p n t u ks) → Value.bool q = .bool (pairB k p n t u ks) := fun q h => by
    congr 1
    rw [Bool.eq_iff_iff, h, pairB_true]
  refine calls_in Tryz.func65 rfl Tryz.ntmps65 rfl (Sat.start w) ?_; have hle0 := r1.le; have hle1 := r2.le; have hle2 := r3.le; have hle3 := r1'.le; have hle4 := r2'.le; have hle5 := r3'.le; have hle6 := rk.le; refine wp_sc (wp_sq ?_); refine sq_x rfl (x_box rfl rfl) rfl ?_; rintro _ _ ⟨b3, rfl, rfl⟩; refine sq_x rfl (x_box rfl rfl) rfl ?_; rintro _ _ ⟨b4, rfl, rfl⟩; refine sq_v rfl (v_assign rfl) rfl (sq_end (qs_n (wp_sc (wp_sq (sq_v rfl (v_loadNB 1 ty_34 rfl rfl rfl rfl) rfl (sq_v rfl (v_loadNB 0 ty_34 rfl rfl rfl rfl) rfl ?_)))))); refine sq_x rfl (x_call rfl en_155 (fun w s => ct_u_l08Join f _ _ _ _ _ _ _ _ w (r1.mono (s.get 2 rfl)) (r2.mono (s.get 2 rfl)) (r1'.mono (s.get 2 rfl)) (r2'.mono (s.get 2 rfl)) (by first | assumption | omega) (by first | assumption | omega) (by first | assumption | omega) (by first | assumption | omega))) rfl ?_; rintro _ h13 ⟨v1, v2, rfl, q1, q2⟩; refine sq_v rfl (v_move rfl) rfl (sq_v rfl (v_extract rfl rfl) rfl (sq_v rfl (v_extract rfl rfl) rfl (sq_v rfl (v_extract rfl rfl) rfl (sq_v rfl (v_assign rfl) rfl (sq_v rfl (v_assign rfl) rfl (sq_v rfl (v_assign rfl) rfl (sq_end (qs_n (wp_sc (wp_sq (sq_v rfl (v_move rfl) rfl (sq_v rfl (v_move rfl) rfl (sq_v rfl (v_move rfl) rfl ?_))))))))))))); refine sq_u rfl (x_callv rfl en_156 (fun w s => ct_s_l05Product _ _ _ w (q2.mono (s.get 0 rfl)) (by first | assumption | omega) (by first | assumption | omega))) rfl (sq_v rfl (v_leq rfl rfl) rfl (sq_v rfl (v_pickt rfl rfl) rfl ?_)); refine sq_bd 22 rfl (fun c22 => ?_) (fun c22 => ?_)
  · refine sq_v rfl (v_move rfl) rfl (sq_v rfl (v_move rfl) rfl (sq_v rfl (v_move rfl) rfl (sq_v rfl (v_move rfl) rfl ?_))); refine sq_x rfl (x_call rfl en_158 (fun w s => ct_s_l08Keep _ _ _ _ _ _ w (q1.mono (s.get 0 rfl)) (q2.mono (s.get 0 rfl)) (rk.mono (s.get 3 rfl)) (by rw [List.length_map]) (by first | assumption | omega))) rfl ?_; rintro _ h27 ⟨k1, k2, g1, g2, rfl, rk1, rk2, mdk⟩; refine sq_u rfl (x_callv rfl en_157 (fun w s => ct_s_TensorSize _ _ _ _ _ w ((rk1.toR.mono (mdk.le g1 (by simp))).mono (s.get 0 rfl)) ((fits_k2 rk2 (mdk.le g2 (by simp))).mono (s.get 0 rfl)))) rfl (sq_v rfl (v_geq rfl rfl) rfl (sq_v rfl (v_pickt rfl rfl) rfl (sq_v rfl (v_assign rfl) rfl (sq_end (qs_n (wp_rt ?_)))))); exact qs_ret1 rfl rfl (fin_q (i := 4) rfl (hb _ (by rw [hiff, decide_eq_true_eq]; exact ⟨fun h => ⟨by omega, h⟩, fun h => h.2⟩)))
  · refine sq_v rfl (v_move rfl) rfl (sq_s rfl rfl (sq_s rfl rfl (sq_s rfl rfl (sq_s rfl rfl (sq_s rfl rfl (sq_s rfl rfl (sq_v rfl (v_pickf rfl rfl) rfl (sq_v rfl (v_assign rfl) rfl (sq_end (qs_n (wp_rt ?_))))))))))); exact qs_ret1 rfl rfl (fin_q (i := 3) rfl (hb _ (by rw [hiff]; exact ⟨fun h => (by cases h), fun h => absurd h.1 (by omega)⟩)))
theorem ct_u_l08Pair (k p n : Int) (t u : Ten) (ks : List Int) (a b c a' b' c' v : Value) (w : World) (r1 : IntsR t.l a (hp w)) (r2 : IntsR t.d b (hp w)) (r3 : IntsR t.x c (hp w)) (r1' : IntsR u.l a' (hp w)) (r2' : IntsR u.d b' (hp w)) (r3' : IntsR u.x c' (hp w)) (rk : IntsR ks v (hp w)) (hp' : pairP k p n t u ks) :
    Calls Tryz.prog 66 [ringV k p n, tenV a b c, tenV a' b' c', v].toArray w (Ret w emp (TenT (pairR k p n t u ks))) := by
  have ok := pair_ok hp'.1 hp'.2.1 hp'.2.2.1 hp'.2.2.2.1; have := ct_s_l08Pair k p n t u (dimJ t u) (keepL t u ks) ks a b c a' b' c' v w r1 r2 r3 r1' r2' r3' rk ok rfl (keep_ok ok hp'.2.2.2.2) (sizeI_ge.1 hp'.2.2.2.2).1.1; rw [pairR, if_pos hp']; exact this
set_option maxHeartbeats 1000000 in
theorem ct_i_allIn (xs ys : List Int) (v u : Value) (w : World) (r : IntsR xs v (hp w)) (r' : IntsR ys u (hp w)) : Calls Tryz.prog 181 [v, u].toArray w (RetV w (.bool (decide (∀ x ∈ xs, x ∈ ys)))) := by
  refine calls_in Tryz.func181 rfl Tryz.ntmps181 rfl (Sat.start w) ?_; have hle0 := r.le; have hle1 := r'.le; refine wp_sc (wp_sq (sq_v rfl (v_assign rfl) rfl (sq_end (qs_n (wp_sc (wp_sc (wp_sq (sq_v rfl (v_move rfl) rfl (sq_v rfl (v_len Tryz.underlying25 rfl r.sl) rfl (sq_v rfl (v_move rfl) rfl (sq_end (qs_n (wp_bl ?_))))))))))))); refine wp_lp (σ := Nat) (fun z_ => [(1, u), (4, .bool false), (7, v), (8, num xs.length), (9, num z_)]) (fun z_ => [hp w]) (fun z_ => z_ ≤ xs.length ∧ (∀ j, j < z_ → xs.getD j 0 ∈ ys)) (fun z_ => xs.length - z_) 0 (⟨by omega, fun j hj => by omega⟩) ⟨rfl, rfl, rfl, rfl, (by first | rfl | exact ksub rfl (by first | omega | (simp; done) | (simp; omega))), trivial⟩ (fun _ s => s) ?_; rintro i ⟨hi, ha⟩; refine wp_sc (wp_sq (sq_v rfl (v_lss rfl rfl) rfl (sq_end (qs_n (wp_sc ?_))))); refine wp_cd rfl (fun c10 => ?_) (fun c10 => ?_)
  · refine wp_sk (qs_n (wp_sc (wp_bl (wp_sc (wp_sq ?_))))); refine sq_v rfl (v_idxI Tryz.underlying25 ty_3 rfl rfl r (by first | omega | (simp; omega) | (simp only [List.length_append, List.length_cons, List.length_nil]; omega) | (rw [List.length_set]; omega)) (by first | omega | (simp; omega) | (simp only [List.length_append, List.length_cons, List.length_nil]; omega) | (rw [List.length_set]; omega))) rfl ?_; refine sq_v rfl (v_loadI (k := i) 0 ty_3 rfl rfl r (by first | omega | (simp; omega) | (simp only [List.length_append, List.length_cons, List.length_nil]; omega) | (rw [List.length_set]; omega))) rfl ?_; refine sq_v rfl (v_assign rfl) rfl (sq_end (qs_n (wp_sc (wp_sq (sq_v rfl (v_move rfl) rfl (sq_v rfl (v_move rfl) rfl (sq_u rfl (x_callv rfl en_146 (fun w s => ct_i_hasInt _ _ _ w (r'.mono (s.get 0 rfl)))) rfl (sq_v rfl (v_not rfl) rfl (sq_end (qs_n ?_)))))))))); refine wp_cnd rfl (fun c16 => ?_) (fun c16 => ?_)
    · refine wp_sc (wp_sq (sq_v rfl (v_assign rfl) rfl (sq_end (qs_n (wp_rt (qs_br (qs_r (qs_r (qs_br (qs_r ?_)))))))))); exact qs_ret1 rfl rfl (fin_q (i := 0) rfl (by rw [decide_eq_false]; exact fun h => absurd (h _ (mem_getD (k := i) (by omega))) (by simpa using c16)))
    · refine wp_sk (qs_bn (qs_n (wp_sq ?_))); refine sq_v rfl (v_add rfl rfl ((by unfold I64; omega))) rfl ?_; refine sq_v rfl (v_move rfl) rfl (sq_end ?_); exact qs_bk (i + 1) ⟨by omega, step_all ha (by simpa using c16)⟩ (by omega) ⟨rfl, rfl, rfl, rfl, (by first | rfl | exact ksub rfl (by first | omega | (simp; done) | (simp; omega))), trivial⟩ (fun _ s => s)
  · refine wp_ex (qs_x (qs_x (qs_bx (qs_n (wp_sc (wp_sq (sq_v rfl (v_assign rfl) rfl (sq_end (qs_n (wp_rt ?_)))))))))); exact qs_ret1 rfl rfl (fin_q (i := 0) rfl (by rw [decide_eq_true]; exact all_of fun j hj => ha j (by omega)))
end Go.Proofs.YthlmjnihihbckaaGreat
namespace Go.Proofs.YthlmjnihihbckaaGreat
set_option maxRecDepth 100000
open Go.RowKit
theorem OwnH.at {ts : List Ten} {cs : List Value} {h : PH} (o : OwnH (flat ts) cs h) (i : Nat) (hi : i < ts.length) : ∃ t a b c, ts[i]? = some t ∧ (cs.drop (i * 3)).take 3 = [a, b, c] ∧ IntsR t.l a h ∧ IntsR t.d b h ∧ IntsR t.x c h := by
  obtain ⟨l, ol, m⟩ := o; have ht : ts[i]? = some ts[i] := List.getElem?_eq_getElem hi; obtain ⟨f1, f2, f3⟩ := tens_get ht; obtain ⟨a, h1, e1, g1, r1⟩ := ol.own _ _ f1; obtain ⟨b, h2, e2, g2, r2⟩ := ol.own _ _ f2; obtain ⟨c, h3, e3, g3, r3⟩ := ol.own _ _ f3; exact ⟨_, a, b, c, ht, three_at e1 e2 e3, r1.toR.mono (m.le _ (List.mem_of_getElem? g1)), r2.toR.mono (m.le _ (List.mem_of_getElem? g2)), r3.toR.mono (m.le _ (List.mem_of_getElem? g3))⟩
end Go.Proofs.YthlmjnihihbckaaGreat
namespace Go.Proofs.YthlmjnihihbckaaGreat
set_option maxRecDepth 100000
open Go.RowKit
theorem TensL.at {ts : List Ten} {cs : List Value} {h H : PH} (r : TensL ts cs h) (l : PLe h H) (j : Nat) (hj : j < ts.length) : ∃ t a b c, ts[j]? = some t ∧ (cs.drop (j * 3)).take 3 = [a, b, c] ∧ IntsR t.l a H ∧ IntsR t.d b H ∧ IntsR t.x c H := by
  have ht : ts[j]? = some ts[j] := List.getElem?_eq_getElem hj; obtain ⟨a, b, c, e, r1, r2, r3⟩ := r.2 j _ ht; exact ⟨_, a, b, c, ht, e, r1.mono l, r2.mono l, r3.mono l⟩
end Go.Proofs.YthlmjnihihbckaaGreat
namespace Go.Proofs.YthlmjnihihbckaaGreat
set_option maxRecDepth 100000
open Go.RowKit
theorem TriO.x {t : Ten} {a b c : Value} {h : PH} (r : TriO t a b c h) : ∃ g, PLe g h ∧ IntsO t.x c g := by
  obtain ⟨h1, h2, h3, r1, r2, r3, m⟩ := r; exact ⟨h3, m.le _ (by simp), r3⟩
end Go.Proofs.YthlmjnihihbckaaGreat
namespace Go.Proofs.YthlmjnihihbckaaGreat
set_option maxRecDepth 100000
open Go.RowKit
theorem flat_len_all {α : Type} {e : α → List Int} {W : Nat} : ∀ {l : List α}, (∀ m ∈ l, (e m).length = W) → (l.flatMap e).length = l.length * W
  | [], _ => by simp
  | a :: l, h => by
    have ih := flat_len_all (l := l) fun m hm => h m (by simp [hm]); rw [List.flatMap_cons, List.length_append, ih, h a (by simp), List.length_cons, Nat.add_mul, Nat.one_mul, Nat.add_comm]
theorem elt_flat {α : Type} {e : α → List Int} {W : Nat} {l : List α} (h : ∀ m ∈ l, (e m).length = W) {i : Nat} (hi : i < l.length) : elt (l.flatMap e) W i = e l[i] := by
  have e1 : l = l.take i ++ (l[i] :: l.drop (i + 1)) := by rw [← List.drop_eq_getElem_cons hi, List.take_append_drop]
  have hl : ((l.take i).flatMap e).length = i * W := by
    rw [flat_len_all fun m hm => h m (List.mem_of_mem_take hm), List.length_take, Nat.min_eq_left (by omega)]
  unfold elt
  rw [show ((i : Int) * (W : Int)).toNat = i * W by rw [← Int.natCast_mul, Int.toNat_natCast], Int.toNat_natCast]
  conv => lhs; rw [e1]
  rw [List.flatMap_append, List.drop_left' hl, List.flatMap_cons, List.take_left' (h _ (List.getElem_mem hi))]
theorem r3 : ringL 3 1000000 0 := .inr (.inr (.inl ⟨.inl rfl, by omega, rfl⟩))
end Go.Proofs.YthlmjnihihbckaaGreat
namespace Go.Proofs.YthlmjnihihbckaaGreat
set_option maxRecDepth 100000
open Go.RowKit
structure RLaw (k p n : Int) : Prop where
  addC : ∀ a b, InR k p n a → InR k p n b → addL k p a b = addL k p b a
  addA : ∀ a b c, InR k p n a → InR k p n b → InR k p n c → addL k p (addL k p a b) c = addL k p a (addL k p b c)
  add0 : ∀ a, InR k p n a → addL k p (zeroL k p n) a = a
  mulC : ∀ a b, InR k p n a → InR k p n b → mulL k p n a b = mulL k p n b a
  mulA : ∀ a b c, InR k p n a → InR k p n b → InR k p n c → mulL k p n (mulL k p n a b) c = mulL k p n a (mulL k p n b c)
  mul1 : ∀ a, InR k p n a → mulL k p n (oneL k p n) a = a
  mul0 : ∀ a, InR k p n a → mulL k p n (zeroL k p n) a = zeroL k p n
  dist : ∀ a b c, InR k p n a → InR k p n b → InR k p n c → mulL k p n (addL k p a b) c = addL k p (mulL k p n a c) (mulL k p n b c)
abbrev El (k p n : Int) := {xs : List Int // InR k p n xs}
section
variable {k p n : Int} (hr : ringL k p n)
open Classical in
noncomputable def toA (xs : List Int) : El k p n := if h : InR k p n xs then ⟨xs, h⟩ else ⟨zeroL k p n, zeroL_in hr⟩
end
end Go.Proofs.YthlmjnihihbckaaGreat
namespace Go.Proofs.YthlmjnihihbckaaGreat
set_option maxRecDepth 100000
open Go.RowKit
theorem putL_get? {xs ys : List Int} {lo : Nat} (h : lo + ys.length ≤ xs.length) (q : Nat) : (putL xs lo ys)[q]? = if q < lo then xs[q]? else if q < lo + ys.length then ys[q - lo]? else xs[q]? := by
  unfold putL
  have hl : (xs.take lo).length = lo := by simp; omega
  by_cases c1 : q < lo
  · rw [if_pos c1, List.append_assoc, List.getElem?_append_left (by omega), List.getElem?_take, if_pos c1]
  · rw [if_neg c1, List.append_assoc, List.getElem?_append_right (by omega), hl]
    by_cases c2 : q < lo + ys.length
    · rw [if_pos c2, List.getElem?_append_left (by omega)]
    · rw [if_neg c2, List.getElem?_append_right (by omega), List.getElem?_drop]
      congr 1
      omega
theorem elt_get? {xs : List Int} {w i : Int} (q : Nat) : (elt xs w i)[q]? = if q < w.toNat then xs[(i * w).toNat + q]? else none := by
  unfold elt
  rw [List.getElem?_take]
  split
  · rw [List.getElem?_drop]
  · rfl
theorem elt_put {xs ys : List Int} {w i : Int} (hw : 1 ≤ w) (hi : 0 ≤ i) (hy : ys.length = w.toNat) (hl : i * w + w ≤ xs.length) : elt (putL xs (i * w).toNat ys) w i = ys := by
  have h0 : 0 ≤ i * w := Int.mul_nonneg hi (by omega)
  apply List.ext_getElem?
  intro q; rw [elt_get?, putL_get? (by omega)]
  by_cases c : q < w.toNat
  · rw [if_pos c, if_neg (by omega), if_pos (by omega), Nat.add_sub_cancel_left]
  · rw [if_neg c, List.getElem?_eq_none (by omega)]
theorem elt_put_ne {xs ys : List Int} {w i j : Int} (hw : 1 ≤ w) (hi : 0 ≤ i) (hj : 0 ≤ j) (hy : ys.length = w.toNat) (hl : i * w + w ≤ xs.length) (hne : i ≠ j) : elt (putL xs (i * w).toNat ys) w j = elt xs w j := by
  have h0 : 0 ≤ i * w := Int.mul_nonneg hi (by omega); have h1 : 0 ≤ j * w := Int.mul_nonneg hj (by omega)
  apply List.ext_getElem?
  intro q; rw [elt_get?, elt_get?]
  by_cases c : q < w.toNat
  · rw [if_pos c, if_pos c, putL_get? (by omega)]
    rcases Int.lt_or_gt_of_ne hne with h | h
    · have := Int.mul_le_mul_of_nonneg_right (show i + 1 ≤ j by omega) (show 0 ≤ w by omega); rw [Int.add_mul, Int.one_mul] at this; rw [if_neg (by omega), if_neg (by omega)]
    · have := Int.mul_le_mul_of_nonneg_right (show j + 1 ≤ i by omega) (show 0 ≤ w by omega); rw [Int.add_mul, Int.one_mul] at this; rw [if_pos (by omega)]
  · rw [if_neg c, if_neg c]
theorem elt_rep {z : List Int} {W P : Nat} (hz : z.length = W) {i : Nat} (hi : i < P) : elt (List.replicate P z).flatten W i = z := by
  have e : (List.replicate P z).flatten = (List.range P).flatMap fun _ => z := by
    rw [List.flatMap_def, List.map_const', List.length_range]
  rw [e, elt_flat (e := fun _ => z) (l := List.range P) (fun _ _ => hz) (by simpa using hi)]
section
variable {k p n : Int} (hr : ringL k p n) (hR : RLaw k p n)
/-- What a tensor holds at an assignment. -/
noncomputable def val (t : Ten) (a : Int → Int) : El k p n := toA hr (elt t.x (widthI k n) (offL t.d (t.l.map a)))
variable {t u : Ten} {f : Int → Int} {K : List Int}
end
end Go.Proofs.YthlmjnihihbckaaGreat
namespace Go.Proofs.YthlmjnihihbckaaGreat
set_option maxRecDepth 100000
open Go.RowKit
theorem off_idx : ∀ {ds : List Int} {m : Int}, (∀ d ∈ ds, 1 ≤ d) → 0 ≤ m → m < prodI ds → offL ds (idxL ds m) = m
  | [], m, _, h0, h1 => by
    have e : prodI ([] : List Int) = 1 := rfl
    show (0 : Int) = m
    omega
  | d :: ds, m, hd, h0, h1 => by
    have hd' : ∀ x ∈ ds, 1 ≤ x := fun x hx => hd x (by simp [hx]); have hP := prodI_one hd'; have hm := Int.emod_nonneg m (show prodI ds ≠ 0 by omega); have hm2 := Int.emod_lt_of_pos m (show 0 < prodI ds by omega); have e : m / prodI ds * prodI ds + m % prodI ds = m := by rw [Int.mul_comm]; exact Int.mul_ediv_add_emod m (prodI ds)
    have e2 : idxL ds m = idxL ds (m % prodI ds) := by
      have := idxL_shift hd' (m / prodI ds) (m % prodI ds)
      rwa [e] at this
    have hlt : m / prodI ds < d := Int.ediv_lt_of_lt_mul (by omega) (by rw [prodI_cons] at h1; exact h1); rw [idxL_cons]
    show m / prodI ds % d * prodI ds + offL ds (idxL ds m) = m
    rw [e2, off_idx hd' hm hm2, Int.emod_eq_of_lt (Int.ediv_nonneg h0 (by omega)) hlt]; exact e
theorem at_self {f : Int → Int} {L : List Int} (hn : L.Nodup) (hf : ∀ x ∈ L, 1 ≤ f x ∧ f x ≤ 8) {m : Int} (h0 : 0 ≤ m) (h1 : m < prodI (L.map f)) : atI f L L m = m := by
  have hd : ∀ d ∈ L.map f, 1 ≤ d := fun d hd => (map_dim hf (fun _ h => h) d hd).1; have e : idxAt L (idxL (L.map f) m) L = idxL (L.map f) m := by
    refine ext_getD (by simp [idxAt, idxL_len]) fun j hj => ?_; have hj' : j < L.length := by simpa [idxAt] using hj
    rw [idxAt, map_getD hj', find_at' hn hj', Int.toNat_natCast]
  rw [at_off hn hn (fun _ h => h), e, off_idx hd h0 h1]
theorem elts_ext {xs ys : List Int} {w : Int} (hw : 1 ≤ w) {P : Int} (h1 : (xs.length : Int) = P * w) (h2 : (ys.length : Int) = P * w) (h : ∀ j : Int, 0 ≤ j → j < P → elt xs w j = elt ys w j) : xs = ys := by
  apply List.ext_getElem?
  intro q
  by_cases hq : (q : Int) < P * w
  · have hj : (q : Int) / w < P := Int.ediv_lt_of_lt_mul (by omega) hq; have hj0 : 0 ≤ (q : Int) / w := Int.ediv_nonneg (by omega) (by omega); have hr0 := Int.emod_nonneg (q : Int) (show w ≠ 0 by omega); have hr1 := Int.emod_lt_of_pos (q : Int) (show 0 < w by omega); have e : (q : Int) / w * w + (q : Int) % w = q := by rw [Int.mul_comm]; exact Int.mul_ediv_add_emod q w
    have h3 := congrArg (fun l => l[((q : Int) % w).toNat]?) (h _ hj0 hj); have hm0 := Int.mul_nonneg hj0 (show 0 ≤ w by omega); have e3 : ((q : Int) / w * w).toNat + ((q : Int) % w).toNat = q := by omega
    simp only [elt_get?] at h3; rw [if_pos (by omega), if_pos (by omega), e3] at h3; exact h3
  · rw [List.getElem?_eq_none (by omega), List.getElem?_eq_none (by omega)]
/-- A sum that keeps every label. -/
theorem sum_id {k p n : Int} {t : Ten} (h : tensorL k p n t.l t.d t.x) {ks : List Int} (hk : ∀ x ∈ t.l, x ∈ ks) : sumR k p n t ks = t := by
  have h1 := one_ten h.1; have hmm := one_mism k p n t; have hp := ten_prod h; have ok := pair_ok h h1 hmm (by rw [one_joinD]; omega); have hr := h.1; have hwr := width_range hr; have hax := ten_axes h; have hj : joinI t.l (oneT k p n).l = t.l := by simp [joinI, oneT]
  have hK : keepL t (oneT k p n) ks = t.l := by
    unfold keepL
    rw [hj]; exact List.filter_eq_self.2 fun x hx => decide_eq_true (hk x hx)
  have hd : t.d = t.l.map (dimJ t (oneT k p n)) := ok.ht; have hko : KeepOK t (oneT k p n) (dimJ t (oneT k p n)) t.l := ⟨fun l hl => by rw [hj]; exact hl, axes_nodup hax, by rw [← hd]; exact hp⟩
  have hdim : ∀ x ∈ t.l, 1 ≤ dimJ t (oneT k p n) x ∧ dimJ t (oneT k p n) x ≤ 8 := fun x hx => ok.dim x (by rw [hj]; exact hx); have hP := ok.pos_k hko; have hat : ∀ m : Int, 0 ≤ m → m < prodI (t.l.map (dimJ t (oneT k p n))) → atI (dimJ t (oneT k p n)) (joinI t.l (oneT k p n).l) t.l m = m := fun m m0 m1 => by
    rw [hj]; exact at_self (axes_nodup hax) hdim m0 m1
  have hau : ∀ m : Int, atI (dimJ t (oneT k p n)) (joinI t.l (oneT k p n).l) (oneT k p n).l m = 0 := fun m => by
    have h2 := ok.at_u m; have e : prodI (oneT k p n).d = 1 := rfl
    omega
  have hone : elt (oneT k p n).x (widthI k n) 0 = oneL k p n := by
    have e : (oneT k p n).x = oneL k p n := rfl; have hl := oneL_len k p n
    unfold elt
    rw [e, Int.zero_mul]
    show ((oneL k p n).drop 0).take _ = _
    rw [List.drop_zero, List.take_of_length_le (by omega)]
  have hel : ∀ m : Nat, (m : Int) ≤ prodI (t.l.map (dimJ t (oneT k p n))) → ∀ j : Int, 0 ≤ j → j < prodI (t.l.map (dimJ t (oneT k p n))) →
      elt (pairX k p n (dimJ t (oneT k p n)) t (oneT k p n) t.l m) (widthI k n) j = if j < m then elt t.x (widthI k n) j else zeroL k p n := by
    intro m
    induction m with
    | zero =>
      intro _ j j0 j1; rw [if_neg (by omega)]; have hz := zeroL_len k p n; have := elt_rep (z := zeroL k p n) (W := (widthI k n).toNat) (P := (prodI (t.l.map (dimJ t (oneT k p n)))).toNat) hz (i := j.toNat) (by omega); rw [Int.toNat_of_nonneg (by omega), Int.toNat_of_nonneg j0] at this; exact this
    | succ m ih =>
      intro hm j j0 j1; have ihm := ih (by omega); have hmm1 : (m : Int) < prodI (t.l.map (dimJ t (oneT k p n))) := by omega
      have a1 := hat (m : Int) (by omega) hmm1; have a2 := hau (m : Int); have hx : InR k p n (elt t.x (widthI k n) (m : Int)) := by have := ok.el_t (m : Int); rwa [a1] at this
      have hval : addL k p (elt (pairX k p n (dimJ t (oneT k p n)) t (oneT k p n) t.l m) (widthI k n) (m : Int)) (mulL k p n (elt t.x (widthI k n) (m : Int)) (elt (oneT k p n).x (widthI k n) 0)) = elt t.x (widthI k n) (m : Int) := by
        rw [hone, mul_one hr hx, ihm (m : Int) (by omega) hmm1, if_neg (by omega), add_zero hr hx]
      have hf := ok.fits hko m; rw [a1] at hf; have hlen : (elt t.x (widthI k n) (m : Int)).length = (widthI k n).toNat := hx.1; rw [pairX, a1, a2, hval]
      by_cases e : (m : Int) = j
      · rw [if_pos (by omega), ← e]; exact elt_put hwr.1 (by omega) hlen hf
      · rw [elt_put_ne hwr.1 (by omega) j0 hlen hf e, ihm j j0 j1]
        by_cases e2 : j < (m : Int)
        · rw [if_pos e2, if_pos (by omega)]
        · rw [if_neg e2, if_neg (by omega)]
  have hfin : pairX k p n (dimJ t (oneT k p n)) t (oneT k p n) t.l (prodI ((joinI t.l (oneT k p n).l).map (dimJ t (oneT k p n)))).toNat = t.x := by
    rw [hj]; refine elts_ext hwr.1 ((ok.all hko _).1) (by rw [← hd]; exact (ten_all h).1) fun j j0 j1 => ?_; rw [hel _ (by omega) j j0 j1, if_pos (by omega)]
  rw [sumR, if_pos h, hK, pairT, hfin, ← hd]
end Go.Proofs.YthlmjnihihbckaaGreat
namespace Go.Proofs.YthlmjnihihbckaaGreat
set_option maxRecDepth 100000
open Go.RowKit
set_option maxHeartbeats 1000000 in
theorem ct_s_l14Needed (k p n : Int) (ts : List Ten) (op : List Int) (i j : Int) (vt vo : Value) (w : World) (r : TensR ts vt (hp w)) (r' : IntsR op vo (hp w)) (hok : ∀ t ∈ ts, t.l.length ≤ 12) (h12 : ts.length ≤ 12) (hs : op.length ≤ 1048576) (hij : 0 ≤ i ∧ 0 ≤ j) :
    Calls Tryz.prog 190 [netV k p n vt vo, num i, num j].toArray w (Ret w emp (IntsO (needS ts op i.toNat j.toNat ts.length))) := by
  refine calls_in Tryz.func190 rfl Tryz.ntmps190 rfl (Sat.start w) ?_; have hle0 := r.le; obtain ⟨cs_r, rr_r, hc_r⟩ := r.at; have hle1 := r'.le; refine wp_sc (wp_sq ?_); refine sq_x rfl (x_box rfl rfl) rfl ?_; rintro _ _ ⟨b3, rfl, rfl⟩; refine sq_v rfl (v_assign rfl) rfl (sq_end (qs_n (wp_sc (wp_sq (sq_v rfl (v_fieldAddr fd_40_2 ty_25 (by decide) rfl) rfl (sq_v rfl (v_loadB 0 ty_25 rfl rfl rfl) rfl ?_)))))); refine sq_x rfl (x_call rfl en_112 (fun w s => ct_s_l05Ints _ _ w (r'.mono (s.get 1 rfl)) (by first | assumption | omega))) rfl ?_; rintro v12 h12 r12; refine sq_v rfl (v_assign rfl) rfl (sq_end (qs_n (wp_sc (wp_sc (wp_sq (sq_v rfl (v_fieldAddr fd_40_1 ty_38 (by decide) rfl) rfl (sq_v rfl (v_loadB 1 ty_38 rfl rfl rfl) rfl (sq_v rfl (v_len Tryz.underlying38 rfl r.sl) rfl (sq_v rfl (v_move rfl) rfl (sq_end (qs_n (wp_bl ?_)))))))))))); refine wp_lp (σ := Nat × Value × PH) (fun z_ => [(1, num i), (2, num j), (6, .slice none 0 0), (7, z_.2.1), (14, vt), (15, num ts.length), (16, num z_.1)]) (fun z_ => [z_.2.2, box b3 [num k, num p, num n, vt, vo] 40, hp w]) (fun z_ => z_.1 ≤ ts.length ∧ IntsO (needS ts op i.toNat j.toNat z_.1) z_.2.1 z_.2.2) (fun z_ => ts.length - z_.1) (0, v12, h12) (⟨by (try dsimp only); omega, by (try dsimp only); rw [needS_zero]; exact r12⟩) ⟨rfl, rfl, rfl, (by first | rfl | exact ksub rfl (by first | omega | (simp; done) | (simp; omega))), rfl, rfl, (by first | rfl | exact ksub rfl (by first | omega | (simp; done) | (simp; omega))), trivial⟩ (fun _ s => s) ?_; rintro ⟨m, lv, lh⟩ ⟨hm, q⟩; dsimp only at hm q ⊢; have hle_q := q.toR.le; have hnl := (need_len (op := op) (i := i.toNat) (j := j.toNat) hok m).1; refine wp_sc (wp_sq (sq_v rfl (v_lss rfl rfl) rfl (sq_end (qs_n (wp_sc ?_))))); refine wp_cd rfl (fun c17 => ?_) (fun c17 => ?_)
  · refine wp_sk (qs_n (wp_sc (wp_bl (wp_sc (wp_sq (sq_v rfl (v_move rfl) rfl ?_)))))); obtain ⟨t19, a19, b19, c19, ht19, hcs19, rl19, rd19, rx19⟩ := hc_r (m) (by first | omega | (rw [List.length_set]; omega)); refine sq_v rfl (v_indexAddr Tryz.underlying38 ty_34 rfl rfl rr_r (by decide) (by omega) (by omega)) rfl ?_; refine sq_v rfl (v_loadNE 2 ty_34 rfl rfl rr_r (by have := rr_r.1; omega) rfl hcs19) rfl ?_; refine sq_x rfl (x_alloc ty_34 rfl) rfl ?_; rintro _ _ ⟨b9, rfl, rfl⟩; refine sq_v rfl (v_assign rfl) rfl ?_; refine sq_m 0 rfl rfl (m_store 0 ty_34 rfl rfl rfl rfl (by simp [rl19.sl.one, rd19.sl.one, rx19.sl.one]) rfl (Nat.le_of_ble_eq_true rfl)) rfl ?_; rintro _ _ ⟨rfl, rfl⟩; refine sq_end ?_; have ht12 := hok t19 (List.mem_of_getElem? ht19); refine qs_n (wp_sc (wp_sq (sq_v rfl (v_move rfl) rfl (sq_v rfl (v_move rfl) rfl (sq_v rfl (v_neq rfl rfl) rfl ?_))))); refine sq_bd 23 rfl (fun c23 => ?_) (fun c23 => ?_)
    · refine sq_v rfl (v_move rfl) rfl (sq_v rfl (v_move rfl) rfl (sq_v rfl (v_move rfl) rfl (sq_v rfl (v_neq rfl rfl) rfl (sq_v rfl (v_pickt rfl rfl) rfl (sq_end (qs_n ?_)))))); refine wp_cd rfl (fun c28 => ?_) (fun c28 => ?_)
      · refine wp_sq (sq_v rfl (v_move rfl) rfl (sq_v rfl (v_fieldAddr fd_34_0 ty_25 (by decide) rfl) rfl (sq_v rfl (v_loadB 0 ty_25 rfl rfl rfl) rfl ?_))); refine sq_m 1 rfl rfl (m_appI 1 3 Tryz.underlying25 ty_3 rfl rfl rfl rfl q rfl rl19 (by first | omega | (simp; omega) | (simp only [List.length_append, List.length_cons, List.length_nil]; omega) | (rw [List.length_set]; omega))) rfl ?_; intro v32 h_r32 r32; refine sq_v rfl (v_assign rfl) rfl (sq_end (qs_bn (qs_n (wp_sq ?_)))); refine sq_v rfl (v_add rfl rfl ((by unfold I64; omega))) rfl ?_; refine sq_v rfl (v_move rfl) rfl (sq_end ?_); exact qs_bk (m + 1, v32, h_r32) ⟨by (try dsimp only); omega, by (try dsimp only); rw [needS_yes ht19 ⟨by omega, by omega⟩]; exact r32⟩ (by simp only; omega) ⟨rfl, rfl, rfl, (by first | rfl | exact ksub rfl (by first | omega | (simp; done) | (simp; omega))), rfl, rfl, (by first | rfl | exact ksub rfl (by first | omega | (simp; done) | (simp; omega))), trivial⟩ (fun _ s => s.pick [1, 2, 3] (by decide) rfl)
      · refine wp_sk (qs_bn (qs_n (wp_sq ?_))); refine sq_v rfl (v_add rfl rfl ((by unfold I64; omega))) rfl ?_; refine sq_v rfl (v_move rfl) rfl (sq_end ?_); exact qs_bk (m + 1, lv, lh) ⟨by (try dsimp only); omega, by (try dsimp only); rw [needS_no (by omega)]; exact q⟩ (by simp only; omega) ⟨rfl, rfl, rfl, (by first | rfl | exact ksub rfl (by first | omega | (simp; done) | (simp; omega))), rfl, rfl, (by first | rfl | exact ksub rfl (by first | omega | (simp; done) | (simp; omega))), trivial⟩ (fun _ s => s.pick [1, 2, 3] (by decide) rfl)
    · refine sq_v rfl (v_move rfl) rfl (sq_s rfl rfl (sq_s rfl rfl (sq_s rfl rfl (sq_v rfl (v_pickf rfl rfl) rfl (sq_end (qs_n (wp_cf rfl (wp_sk (qs_bn (qs_n (wp_sq ?_))))))))))); refine sq_v rfl (v_add rfl rfl ((by unfold I64; omega))) rfl ?_; refine sq_v rfl (v_move rfl) rfl (sq_end ?_); exact qs_bk (m + 1, lv, lh) ⟨by (try dsimp only); omega, by (try dsimp only); rw [needS_no (by omega)]; exact q⟩ (by simp only; omega) ⟨rfl, rfl, rfl, (by first | rfl | exact ksub rfl (by first | omega | (simp; done) | (simp; omega))), rfl, rfl, (by first | rfl | exact ksub rfl (by first | omega | (simp; done) | (simp; omega))), trivial⟩ (fun _ s => s.pick [1, 2, 3] (by decide) rfl)
  · refine wp_ex (qs_x (qs_x (qs_bx (qs_n (wp_sc (wp_sq (sq_v rfl (v_move rfl) rfl (sq_v rfl (v_assign rfl) rfl (sq_end (qs_n (wp_rt ?_))))))))))); exact qs_ret1 rfl rfl (fin_t 0 (i := 2) rfl rfl rfl (by rw [show ts.length = m by omega]; exact q))
set_option maxHeartbeats 1000000 in
theorem ct_i_labelsElsewhere (k p n : Int) (ts : List Ten) (op : List Int) (i j : Int) (vt vo : Value) (w : World) (r : TensR ts vt (hp w)) (r' : IntsR op vo (hp w)) (hok : ∀ t ∈ ts, t.l.length ≤ 12) (h12 : ts.length ≤ 12) (hs : op.length ≤ 12) (hij : 0 ≤ i ∧ 0 ≤ j) :
    Calls Tryz.prog 196 [netV k p n vt vo, num i, num j].toArray w (Ret w emp (IntsO (needI ts op i.toNat j.toNat ts.length))) := by
  refine calls_in Tryz.func196 rfl Tryz.ntmps196 rfl (Sat.start w) ?_; have hle0 := r.le; obtain ⟨cs_r, rr_r, hc_r⟩ := r.at; have hle1 := r'.le; refine wp_sc (wp_sq ?_); refine sq_x rfl (x_box rfl rfl) rfl ?_; rintro _ _ ⟨b3, rfl, rfl⟩; refine sq_v rfl (v_assign rfl) rfl (sq_end (qs_n (wp_sc (wp_sq (sq_v rfl (v_fieldAddr fd_40_2 ty_25 (by decide) rfl) rfl (sq_v rfl (v_loadB 0 ty_25 rfl rfl rfl) rfl ?_)))))); refine sq_x rfl (x_call rfl en_132 (fun w s => ct_i_copyInts _ _ w (r'.mono (s.get 1 rfl)) (by first | assumption | omega))) rfl ?_; rintro v12 h12 r12; refine sq_v rfl (v_assign rfl) rfl (sq_end (qs_n (wp_sc (wp_sc (wp_sq (sq_v rfl (v_fieldAddr fd_40_1 ty_38 (by decide) rfl) rfl (sq_v rfl (v_loadB 1 ty_38 rfl rfl rfl) rfl (sq_v rfl (v_len Tryz.underlying38 rfl r.sl) rfl (sq_v rfl (v_move rfl) rfl (sq_end (qs_n (wp_bl ?_)))))))))))); refine wp_lp (σ := Nat × Value × PH) (fun z_ => [(1, num i), (2, num j), (6, .slice none 0 0), (7, z_.2.1), (14, vt), (15, num ts.length), (16, num z_.1)]) (fun z_ => [z_.2.2, box b3 [num k, num p, num n, vt, vo] 40, hp w]) (fun z_ => z_.1 ≤ ts.length ∧ IntsO (needI ts op i.toNat j.toNat z_.1) z_.2.1 z_.2.2) (fun z_ => ts.length - z_.1) (0, v12, h12) (⟨by (try dsimp only); omega, by (try dsimp only); rw [needI_zero]; exact r12⟩) ⟨rfl, rfl, rfl, (by first | rfl | exact ksub rfl (by first | omega | (simp; done) | (simp; omega))), rfl, rfl, (by first | rfl | exact ksub rfl (by first | omega | (simp; done) | (simp; omega))), trivial⟩ (fun _ s => s) ?_; rintro ⟨m, lv, lh⟩ ⟨hm, q⟩; dsimp only at hm q ⊢; have hle_q := q.toR.le; have hnl := (need_len (op := op) (i := i.toNat) (j := j.toNat) hok m).2; refine wp_sc (wp_sq (sq_v rfl (v_lss rfl rfl) rfl (sq_end (qs_n (wp_sc ?_))))); refine wp_cd rfl (fun c17 => ?_) (fun c17 => ?_)
  · refine wp_sk (qs_n (wp_sc (wp_bl (wp_sc (wp_sq (sq_v rfl (v_move rfl) rfl ?_)))))); obtain ⟨t19, a19, b19, c19, ht19, hcs19, rl19, rd19, rx19⟩ := hc_r (m) (by first | omega | (rw [List.length_set]; omega)); refine sq_v rfl (v_indexAddr Tryz.underlying38 ty_34 rfl rfl rr_r (by decide) (by omega) (by omega)) rfl ?_; refine sq_v rfl (v_loadNE 2 ty_34 rfl rfl rr_r (by have := rr_r.1; omega) rfl hcs19) rfl ?_; refine sq_x rfl (x_alloc ty_34 rfl) rfl ?_; rintro _ _ ⟨b9, rfl, rfl⟩; refine sq_v rfl (v_assign rfl) rfl ?_; refine sq_m 0 rfl rfl (m_store 0 ty_34 rfl rfl rfl rfl (by simp [rl19.sl.one, rd19.sl.one, rx19.sl.one]) rfl (Nat.le_of_ble_eq_true rfl)) rfl ?_; rintro _ _ ⟨rfl, rfl⟩; refine sq_end ?_; have ht12 := hok t19 (List.mem_of_getElem? ht19); refine qs_n (wp_sc (wp_sq (sq_v rfl (v_move rfl) rfl (sq_v rfl (v_move rfl) rfl (sq_v rfl (v_neq rfl rfl) rfl ?_))))); refine sq_bd 23 rfl (fun c23 => ?_) (fun c23 => ?_)
    · refine sq_v rfl (v_move rfl) rfl (sq_v rfl (v_move rfl) rfl (sq_v rfl (v_move rfl) rfl (sq_v rfl (v_neq rfl rfl) rfl (sq_v rfl (v_pickt rfl rfl) rfl (sq_end (qs_n ?_)))))); refine wp_cd rfl (fun c28 => ?_) (fun c28 => ?_)
      · refine wp_sq (sq_v rfl (v_move rfl) rfl (sq_v rfl (v_fieldAddr fd_34_0 ty_25 (by decide) rfl) rfl (sq_v rfl (v_loadB 0 ty_25 rfl rfl rfl) rfl ?_))); refine sq_x rfl (x_call rfl en_117 (fun w s => ct_i_joinLabels _ _ _ _ w (q.toR.mono (s.get 1 rfl)) (rl19.mono (s.get 3 rfl)) (by first | assumption | omega))) rfl ?_; rintro v32 h32 r32; refine sq_v rfl (v_assign rfl) rfl (sq_end (qs_bn (qs_n (wp_sq ?_)))); refine sq_v rfl (v_add rfl rfl ((by unfold I64; omega))) rfl ?_; refine sq_v rfl (v_move rfl) rfl (sq_end ?_); exact qs_bk (m + 1, v32, h32) ⟨by (try dsimp only); omega, by (try dsimp only); rw [needI_yes ht19 ⟨by omega, by omega⟩]; exact r32⟩ (by simp only; omega) ⟨rfl, rfl, rfl, (by first | rfl | exact ksub rfl (by first | omega | (simp; done) | (simp; omega))), rfl, rfl, (by first | rfl | exact ksub rfl (by first | omega | (simp; done) | (simp; omega))), trivial⟩ (fun _ s => s.pick [0, 3, 4] (by decide) rfl)
      · refine wp_sk (qs_bn (qs_n (wp_sq ?_))); refine sq_v rfl (v_add rfl rfl ((by unfold I64; omega))) rfl ?_; refine sq_v rfl (v_move rfl) rfl (sq_end ?_); exact qs_bk (m + 1, lv, lh) ⟨by (try dsimp only); omega, by (try dsimp only); rw [needI_no (by omega)]; exact q⟩ (by simp only; omega) ⟨rfl, rfl, rfl, (by first | rfl | exact ksub rfl (by first | omega | (simp; done) | (simp; omega))), rfl, rfl, (by first | rfl | exact ksub rfl (by first | omega | (simp; done) | (simp; omega))), trivial⟩ (fun _ s => s.pick [1, 2, 3] (by decide) rfl)
    · refine sq_v rfl (v_move rfl) rfl (sq_s rfl rfl (sq_s rfl rfl (sq_s rfl rfl (sq_v rfl (v_pickf rfl rfl) rfl (sq_end (qs_n (wp_cf rfl (wp_sk (qs_bn (qs_n (wp_sq ?_))))))))))); refine sq_v rfl (v_add rfl rfl ((by unfold I64; omega))) rfl ?_; refine sq_v rfl (v_move rfl) rfl (sq_end ?_); exact qs_bk (m + 1, lv, lh) ⟨by (try dsimp only); omega, by (try dsimp only); rw [needI_no (by omega)]; exact q⟩ (by simp only; omega) ⟨rfl, rfl, rfl, (by first | rfl | exact ksub rfl (by first | omega | (simp; done) | (simp; omega))), rfl, rfl, (by first | rfl | exact ksub rfl (by first | omega | (simp; done) | (simp; omega))), trivial⟩ (fun _ s => s.pick [1, 2, 3] (by decide) rfl)
  · refine wp_ex (qs_x (qs_x (qs_bx (qs_n (wp_sc (wp_sq (sq_v rfl (v_move rfl) rfl (sq_v rfl (v_assign rfl) rfl (sq_end (qs_n (wp_rt ?_))))))))))); exact qs_ret1 rfl rfl (fin_t 0 (i := 2) rfl rfl rfl (by rw [show ts.length = m by omega]; exact q))
noncomputable def privT (k p n : Int) (ts : List Ten) (op : List Int) (j : Nat) : Ten := sumR k p n (ts.getD j noTen) (needS ts op j j ts.length)
noncomputable def privTo (k p n : Int) (ts : List Ten) (op : List Int) (i : Nat) : List Ten := (List.range i).map (privT k p n ts op)
theorem priv_step (k p n : Int) (ts : List Ten) (op : List Int) (i : Nat) : privTo k p n ts op (i + 1) = privTo k p n ts op i ++ [privT k p n ts op i] := by simp [privTo, List.range_succ]
theorem priv_len (k p n : Int) (ts : List Ten) (op : List Int) (i : Nat) : (privTo k p n ts op i).length = i := by simp [privTo]
noncomputable def privMix (k p n : Int) (ts : List Ten) (op : List Int) (i : Nat) : List Ten := privTo k p n ts op i ++ ts.drop i
theorem mix_first (k p n : Int) (ts : List Ten) (op : List Int) : privMix k p n ts op 0 = ts := by simp [privMix, privTo]
theorem mix_last (k p n : Int) (ts : List Ten) (op : List Int) : privMix k p n ts op ts.length = privTo k p n ts op ts.length := by simp [privMix]
theorem mix_length (k p n : Int) (ts : List Ten) (op : List Int) {i : Nat} (h : i ≤ ts.length) : (privMix k p n ts op i).length = ts.length := by simp [privMix, priv_len]; omega
theorem mix_next (k p n : Int) (ts : List Ten) (op : List Int) {i : Nat} (h : i < ts.length) : (privMix k p n ts op i).set i (privT k p n ts op i) = privMix k p n ts op (i + 1) := by
  unfold privMix
  rw [List.set_append_right _ _ (by rw [priv_len]; exact Nat.le_refl _), priv_len, Nat.sub_self, List.drop_eq_getElem_cons h, List.set_cons_zero, priv_step, List.append_assoc]
  rfl
theorem sumR_congr {k p n : Int} {t : Ten} {a b : List Int} (h : ∀ x, x ∈ a ↔ x ∈ b) : sumR k p n t a = sumR k p n t b := by
  unfold sumR
  rw [keepL_congr h]
noncomputable def privTs (k p n : Int) (ts : List Ten) (op : List Int) : List Ten := ifB (netB k p n ts op) (privTo k p n ts op ts.length) []
noncomputable def privOp (k p n : Int) (ts : List Ten) (op : List Int) : List Int := ifB (netB k p n ts op) op []
def PrivR (k p n : Int) (ts : List Ten) (op : List Int) (u : Value) (h : PH) : Prop :=
  NetT (ifB (netB k p n ts op) k 0) (ifB (netB k p n ts op) p 0) (ifB (netB k p n ts op) n 0) (privTs k p n ts op) (privOp k p n ts op) u h
theorem PrivNo {k p n : Int} {ts : List Ten} {op : List Int} (h : netB k p n ts op = false) : PrivR k p n ts op (netV 0 0 0 (.slice none 0 0) (.slice none 0 0)) emp := by
  refine ⟨.slice none 0 0, .slice none 0 0, by rw [h]; rfl, ?_⟩; rw [privTs, privOp, h]; exact NetO.nil
theorem PrivYes {k p n : Int} {ts : List Ten} {op : List Int} {vt vo : Value} {g : PH} (h : netB k p n ts op = true) (r : NetO (privTo k p n ts op ts.length) op vt vo g) : PrivR k p n ts op (netV k p n vt vo) g := by
  refine ⟨vt, vo, by rw [h]; rfl, ?_⟩; rw [privTs, privOp, h]; exact r
set_option maxHeartbeats 4000000 in
theorem ct_i_SumPrivate (k p n : Int) (ts : List Ten) (op : List Int) (vt vo : Value) (w : World) (r : TensR ts vt (hp w)) (r' : IntsR op vo (hp w)) (hs : op.length ≤ 1048576) :
    Calls Tryz.prog 91 [netV k p n vt vo].toArray w (Ret w emp (PrivR k p n ts op)) := by
  refine calls_in Tryz.func91 rfl Tryz.ntmps91 rfl (Sat.start w) ?_; have hle0 := r.le; obtain ⟨cs_r, rr_r, hc_r⟩ := r.at; have hle1 := r'.le; refine wp_sc (wp_sq ?_); refine sq_x rfl (x_box rfl rfl) rfl ?_; rintro _ _ ⟨b1, rfl, rfl⟩; refine sq_x rfl (x_alloc ty_40 rfl) rfl ?_; rintro _ _ ⟨b2, rfl, rfl⟩; refine sq_end (qs_n (wp_sc (wp_sc (wp_sq (sq_v rfl (v_loadNB 1 ty_40 rfl rfl rfl rfl) rfl (sq_u rfl (x_callv rfl en_42 (fun w s => ct_i_NetworkOk _ _ _ _ _ _ _ w (r.mono (s.get 2 rfl)) (r'.mono (s.get 2 rfl)) (by first | assumption | omega))) rfl (sq_v rfl (v_not rfl) rfl (sq_end (qs_n ?_))))))))); refine wp_cn _ rfl (fun c8 => ?_) (fun c8 => ?_)
  · refine wp_sc (wp_sq (sq_v rfl (v_build [num 0, num 0, num 0, .slice none 0 0, .slice none 0 0] rfl (by kernel_rfl)) rfl ?_)); refine sq_m 0 rfl rfl (m_store 0 ty_40 rfl rfl rfl rfl (by simp [one_int, one_sl]) rfl (Nat.le_of_ble_eq_true rfl)) rfl ?_; rintro _ _ ⟨rfl, rfl⟩; refine sq_end (qs_n (wp_rt (qs_r ?_))); exact qs_retc 0 rfl ty_40 rfl rfl rfl (fin_e (i := 2) rfl (PrivNo c8))
  · refine wp_sk (qs_n (wp_sc ?_)); refine wp_ra (σ := Nat × PH × Value) 7 (fun z_ => IntsO op z_.2.2 z_.2.1) (fun z_ => [(1, .pointer (some ⟨b1, 0, none⟩)), (2, .pointer (some ⟨b2, 0, none⟩)), (3, .pointer (some ⟨z_.1, 0, none⟩)), (8, .bool (!(netB k p n ts op)))]) (fun z_ => [box z_.1 [num k, num p, num n, .slice none 0 0, z_.2.2] 40, z_.2.1, box b2 [num 0, num 0, num 0, .slice none 0 0, .slice none 0 0] 40, box b1 [num k, num p, num n, vt, vo] 40, hp w]) mixed_ok (by kernel_rfl) ?_ ?_
    · refine ra_v (i := 0) (by kernel_rfl) rfl rfl (v_fieldAddr fd_40_0 ty_37 (by decide) rfl) rfl (ra_v (i := 1) (by kernel_rfl) rfl rfl (v_loadNB 1 ty_37 rfl rfl rfl rfl) rfl (ra_v (i := 2) (by kernel_rfl) rfl rfl (v_fieldAddr fd_40_2 ty_25 (by decide) rfl) rfl (ra_v (i := 3) (by kernel_rfl) rfl rfl (v_loadB 1 ty_25 rfl rfl rfl) rfl ?_))); refine ra_2 (i := 4) (j := 6) (by kernel_rfl) ?_ ?_
      · refine ro_x rfl rfl (x_call rfl en_132 (fun w s => ct_i_copyInts _ _ w (r'.mono (s.get 2 rfl)) (by first | assumption | omega))) rfl ?_; rintro v14 h14 r14; refine ra_rj [(5, true), (6, false), (7, false)] (by kernel_rfl) rfl ?_; refine rj_v rfl rfl (v_build [num k, num p, num n, .slice none 0 0, v14] rfl (by obtain ⟨_, _, rfl⟩ := r14.toR.sl; kernel_rfl)) rfl ?_; refine rj_x rfl rfl (x_alloc ty_40 rfl) rfl ?_; rintro _ _ ⟨b3, rfl, rfl⟩; refine rj_m 0 rfl rfl rfl rfl (m_store 0 ty_40 rfl rfl rfl rfl (by simp [one_int, one_sl, r14.toR.sl.one]) rfl (Nat.le_of_ble_eq_true rfl)) rfl ?_; rintro _ _ ⟨rfl, rfl⟩; refine rj_end ?_; exact qs_mid (b3, h14, v14) (r14) ⟨rfl, rfl, rfl, rfl, trivial⟩ (fun _ s => s.pick [0, 1, 2, 3, 4] (by decide) rfl)
      · refine ro_x rfl rfl (x_alloc ty_40 rfl) rfl ?_; rintro _ _ ⟨b3, rfl, rfl⟩; refine ra_rj [(4, false), (5, true), (7, false)] (by kernel_rfl) rfl ?_; refine rj_x rfl rfl (x_call rfl en_132 (fun w s => ct_i_copyInts _ _ w (r'.mono (s.get 3 rfl)) (by first | assumption | omega))) rfl ?_; rintro v14 h14 r14; refine rj_v rfl rfl (v_build [num k, num p, num n, .slice none 0 0, v14] rfl (by obtain ⟨_, _, rfl⟩ := r14.toR.sl; kernel_rfl)) rfl ?_; refine rj_m 1 rfl rfl rfl rfl (m_store 1 ty_40 rfl rfl rfl rfl (by simp [one_int, one_sl, r14.toR.sl.one]) rfl (Nat.le_of_ble_eq_true rfl)) rfl ?_; rintro _ _ ⟨rfl, rfl⟩; refine rj_end ?_; exact qs_mid (b3, h14, v14) (r14) ⟨rfl, rfl, rfl, rfl, trivial⟩ (fun _ s => s.pick [1, 0, 2, 3, 4] (by decide) rfl)
    · rintro ⟨b3, h14, v14⟩ r14; dsimp only at r14 ⊢; refine qs_n (wp_sc (wp_sc (wp_sq (sq_v rfl (v_fieldAddr fd_40_1 ty_38 (by decide) rfl) rfl (sq_v rfl (v_loadB 3 ty_38 rfl rfl rfl) rfl (sq_v rfl (v_len Tryz.underlying38 rfl r.sl) rfl (sq_v rfl (v_move rfl) rfl (sq_end (qs_n (wp_bl ?_)))))))))); refine wp_lp (σ := Nat × Value × PH × (List Value) × PH) (fun z_ => [(1, .pointer (some ⟨b1, 0, none⟩)), (2, .pointer (some ⟨b2, 0, none⟩)), (3, .pointer (some ⟨b3, 0, none⟩)), (17, vt), (18, num ts.length), (19, num z_.1)]) (fun z_ => [z_.2.2.2.2, z_.2.2.1, box b3 [num k, num p, num n, z_.2.1, v14] 40, h14, box b2 [num 0, num 0, num 0, .slice none 0 0, .slice none 0 0] 40, box b1 [num k, num p, num n, vt, vo] 40, hp w]) (fun z_ => z_.1 ≤ ts.length ∧ OwnH (flat (privTo k p n ts op z_.1)) z_.2.2.2.1 z_.2.2.2.2 ∧ RowO (34) z_.2.2.2.1 z_.1 3 z_.2.1 z_.2.2.1) (fun z_ => ts.length - z_.1) (0, .slice none 0 0, emp, [], emp) (⟨by (try dsimp only); omega, OwnH.nil, RowO.nil⟩) ⟨rfl, rfl, rfl, rfl, rfl, (by first | rfl | exact ksub rfl (by first | omega | (simp; done) | (simp; omega))), trivial⟩ (fun _ s => (emp_sat (emp_sat s))) ?_; rintro ⟨i, lx, ha, cs, hl⟩ ⟨hi, hlv, rr⟩; dsimp only at hi hlv rr ⊢; have hnet := netB_true.1 c8; have h12 := hnet.2.1; have hl12 : ∀ t ∈ ts, t.l.length ≤ 12 := fun t ht => (net_axes hnet t ht).1; have hno := net_open hnet; refine wp_sc (wp_sq (sq_v rfl (v_lss rfl rfl) rfl (sq_end (qs_n (wp_sc ?_))))); refine wp_cd rfl (fun c20 => ?_) (fun c20 => ?_)
      · refine wp_sk (qs_n (wp_sc (wp_bl (wp_sc (wp_sq (sq_v rfl (v_move rfl) rfl ?_)))))); obtain ⟨t22, a22, b22, c22, ht22, hcs22, rl22, rd22, rx22⟩ := hc_r (i) (by first | omega | (rw [List.length_set]; omega)); refine sq_v rfl (v_indexAddr Tryz.underlying38 ty_34 rfl rfl rr_r (by decide) (by omega) (by omega)) rfl ?_; refine sq_v rfl (v_loadNE 6 ty_34 rfl rfl rr_r (by have := rr_r.1; omega) rfl hcs22) rfl ?_; refine sq_x rfl (x_alloc ty_34 rfl) rfl ?_; rintro _ _ ⟨b5, rfl, rfl⟩; refine sq_v rfl (v_assign rfl) rfl ?_; refine sq_m 0 rfl rfl (m_store 0 ty_34 rfl rfl rfl rfl (by simp [rl22.sl.one, rd22.sl.one, rx22.sl.one]) rfl (Nat.le_of_ble_eq_true rfl)) rfl ?_; rintro _ _ ⟨rfl, rfl⟩; refine sq_end (qs_n (wp_rj 11 [(0, true), (1, true), (2, true), (3, true), (4, true), (5, true), (6, true), (7, true), (8, false), (9, false), (10, false), (11, false), (12, false), (13, false)] mixed_ok (by kernel_rfl) (rj_v rfl rfl (v_fieldAddr fd_40_1 ty_38 (by decide) rfl) rfl (rj_v rfl rfl (v_loadB 3 ty_38 rfl rfl rfl) rfl (rj_v rfl rfl (v_fieldAddr fd_40_0 ty_37 (by decide) rfl) rfl (rj_v rfl rfl (v_loadNB 6 ty_37 rfl rfl rfl rfl) rfl (rj_v rfl rfl (v_loadNB 0 ty_34 rfl rfl rfl rfl) rfl (rj_v rfl rfl (v_loadNB 6 ty_40 rfl rfl rfl rfl) rfl (rj_v rfl rfl (v_move rfl) rfl (rj_v rfl rfl (v_move rfl) rfl ?_)))))))))); refine rj_x rfl rfl (x_call rfl en_196 (fun w s => ct_i_labelsElsewhere _ _ _ _ _ _ _ _ _ w (r.mono (s.get 7 rfl)) (r'.mono (s.get 7 rfl)) (by first | assumption | omega) (by first | assumption | omega) (by first | assumption | omega) (by first | assumption | omega))) rfl ?_; rintro v32 h32 r32; refine rj_x rfl rfl (x_call rfl en_60 (fun w s => ct_i_SumLabels _ _ _ _ _ _ _ _ _ w (rl22.mono (s.get 8 rfl)) (rd22.mono (s.get 8 rfl)) (rx22.mono (s.get 8 rfl)) (r32.toR.mono (s.get 0 rfl)))) rfl ?_; rintro _ h33 ⟨va33, vb33, vc33, rfl, o33⟩; refine rj_x rfl rfl (x_buildS [.agg [va33, vb33, vc33].toArray] Tryz.underlying38 ty_34 (by decide) rfl rfl rfl (by decide) (by decide) (by intro v hv; simp at hv; subst hv; rfl)) rfl ?_; intro v34 h34 (r34 : RowO 34 [va33, vb33, vc33] 1 3 v34 h34); refine rj_m 5 rfl rfl rfl rfl (m_append 5 0 Tryz.underlying38 ty_34 rfl rfl (by decide) rfl rfl rfl rr rfl r34.toR (by simp [o33.toR.1.sl.one, o33.toR.2.1.sl.one, o33.toR.2.2.sl.one]) (by unfold maxLen; omega) (by omega)) rfl ?_; intro v35 h_r35 (r35 : RowO 34 (cs ++ [va33, vb33, vc33]) (i + 1) 3 v35 h_r35); refine rj_fv rfl rfl (v_fieldAddr fd_40_1 ty_38 (by decide) rfl) rfl ?_; refine rj_m 6 rfl rfl rfl rfl (m_store1 6 ty_38 rfl rfl r35.toR.sl.one rfl (Nat.le_of_ble_eq_true rfl)) rfl ?_; rintro _ _ ⟨rfl, rfl⟩; refine rj_end ?_; have e33 : sumR k p n t22 (needI ts op (i : Int).toNat (i : Int).toNat ts.length) = privT k p n ts op i := by rw [sumR_congr (fun x => need_iff x), privT, Int.toNat_natCast]; congr 1; simp [List.getD, ht22]
        rw [e33] at o33; refine qs_bn (qs_n (wp_sq ?_)); refine sq_v rfl (v_add rfl rfl ((by unfold I64; omega))) rfl ?_; refine sq_v rfl (v_move rfl) rfl (sq_end ?_); refine qs_dj 4 1 rfl rfl rfl (fun hdj => ?_); exact qs_bk (i + 1, v35, h_r35, cs ++ [va33, vb33, vc33], PUn hl h33) ⟨by (try dsimp only); omega, by (try dsimp only); rw [priv_step]; exact hlv.snoc o33 hdj, r35⟩ (by simp only; omega) ⟨rfl, rfl, rfl, rfl, rfl, (by first | rfl | exact ksub rfl (by first | omega | (simp; done) | (simp; omega))), trivial⟩ (fun _ s => Sat.merge (s.pick [4, 1, 5, 6, 7, 8, 9, 10] (by decide) rfl))
      · refine wp_ex (qs_x (qs_x (qs_bx (qs_n (wp_sc (wp_sq (sq_v rfl (v_loadNB 2 ty_40 rfl rfl rfl rfl) rfl ?_))))))); refine sq_m 4 rfl rfl (m_store 4 ty_40 rfl rfl rfl rfl (by simp [one_int, rr.toR.sl.one, r14.toR.sl.one]) rfl (Nat.le_of_ble_eq_true rfl)) rfl ?_; rintro _ _ ⟨rfl, rfl⟩; refine sq_end (qs_n (wp_rt ?_)); have ei : i = ts.length := by omega
        subst ei; obtain ⟨l, ol, md⟩ := hlv; refine qs_close [box b2 _ _, hp w] (ha :: h14 :: l) (fun _ s => Sat.open (A := [box b2 [num k, num p, num n, lx, v14] 40, hp w, ha, h14]) md (s.pick [0, 4, 6, 1, 3] (by decide) rfl)) (fun md2 => ?_); exact qs_retc 1 rfl ty_40 rfl rfl rfl (fin_t 0 (i := 2) rfl rfl rfl (PrivYes c8 ⟨cs, ha, h14, l, by rw [priv_len]; exact rr, r14, ol, md2⟩))
set_option maxHeartbeats 4000000 in
theorem ct_s_SumPrivate (k p n : Int) (ts : List Ten) (op : List Int) (vt vo : Value) (w : World) (r : TensR ts vt (hp w)) (r' : IntsR op vo (hp w)) (hs : op.length ≤ 1048576) :
    Calls Tryz.prog 86 [netV k p n vt vo].toArray w (Ret w emp (PrivR k p n ts op)) := by
  refine calls_in Tryz.func86 rfl Tryz.ntmps86 rfl (Sat.start w) ?_; have hle0 := r.le; obtain ⟨cs_r, rr_r, hc_r⟩ := r.at; have hle1 := r'.le; refine wp_sc (wp_sq ?_); refine sq_x rfl (x_box rfl rfl) rfl ?_; rintro _ _ ⟨b1, rfl, rfl⟩; refine sq_x rfl (x_alloc ty_40 rfl) rfl ?_; rintro _ _ ⟨b2, rfl, rfl⟩; refine sq_end (qs_n (wp_sc (wp_sc (wp_sq (sq_v rfl (v_loadNB 1 ty_40 rfl rfl rfl rfl) rfl (sq_u rfl (x_callv rfl en_83 (fun w s => ct_s_NetworkOk _ _ _ _ _ _ _ w (r.mono (s.get 2 rfl)) (r'.mono (s.get 2 rfl)) (by first | assumption | omega))) rfl (sq_v rfl (v_not rfl) rfl (sq_end (qs_n ?_))))))))); refine wp_cn _ rfl (fun c8 => ?_) (fun c8 => ?_)
  · refine wp_sc (wp_sq (sq_v rfl (v_build [num 0, num 0, num 0, .slice none 0 0, .slice none 0 0] rfl (by kernel_rfl)) rfl ?_)); refine sq_m 0 rfl rfl (m_store 0 ty_40 rfl rfl rfl rfl (by simp [one_int, one_sl]) rfl (Nat.le_of_ble_eq_true rfl)) rfl ?_; rintro _ _ ⟨rfl, rfl⟩; refine sq_end (qs_n (wp_rt (qs_r ?_))); exact qs_retc 0 rfl ty_40 rfl rfl rfl (fin_e (i := 2) rfl (PrivNo c8))
  · refine wp_sk (qs_n (wp_sc (wp_sq ?_))); have hnet := netB_true.1 c8; have h12 := hnet.2.1; have hl12 : ∀ t ∈ ts, t.l.length ≤ 12 := (fun t ht => (net_axes hnet t ht).1)
    refine sq_v rfl (v_loadNB 1 ty_40 rfl rfl rfl rfl) rfl ?_; refine sq_x rfl (x_call rfl en_84 (fun w s => ct_s_l14Copy _ _ _ _ _ _ _ w (r.mono (s.get 2 rfl)) (r'.mono (s.get 2 rfl)) (by first | assumption | omega) (by first | assumption | omega))) rfl ?_; rintro _ h11 ⟨vt11, vo11, rfl, o11⟩; obtain ⟨cs_T_11, rr_T_11, hc_T_11⟩ := o11.toR.1.at; refine sq_x rfl (x_alloc ty_40 rfl) rfl ?_; rintro _ _ ⟨b3, rfl, rfl⟩; refine sq_m 0 rfl rfl (m_store 0 ty_40 rfl rfl rfl rfl (by simp [one_int, o11.toR.1.sl.one, o11.toR.2.sl.one]) rfl (Nat.le_of_ble_eq_true rfl)) rfl ?_; rintro _ _ ⟨rfl, rfl⟩; refine sq_end ?_; obtain ⟨cs0, g0, go, gl, rr0, ro, oh, md11⟩ := o11.split; refine qs_s [box b3 [num k, num p, num n, vt11, vo11] 40, box b2 [num 0, num 0, num 0, .slice none 0 0, .slice none 0 0] 40, box b1 [num k, num p, num n, vt, vo] 40, hp w, g0, go, gl] (fun _ s => Sat.open (A := [box b3 [num k, num p, num n, vt11, vo11] 40, box b2 [num 0, num 0, num 0, .slice none 0 0, .slice none 0 0] 40, box b1 [num k, num p, num n, vt, vo] 40, hp w]) md11 (s.pick [1, 0, 2, 3, 4] (by decide) rfl)) (qs_n (wp_sc (wp_sc (wp_sq (sq_v rfl (v_fieldAddr fd_40_1 ty_38 (by decide) rfl) rfl (sq_v rfl (v_loadB 2 ty_38 rfl rfl rfl) rfl (sq_v rfl (v_len Tryz.underlying38 rfl r.sl) rfl (sq_v rfl (v_move rfl) rfl (sq_end (qs_n (wp_bl ?_))))))))))); refine wp_lp (σ := Nat × PH × (List Value) × PH) (fun z_ => [(1, .pointer (some ⟨b1, 0, none⟩)), (2, .pointer (some ⟨b2, 0, none⟩)), (3, .pointer (some ⟨b3, 0, none⟩)), (13, vt), (14, num ts.length), (15, num z_.1)]) (fun z_ => [box b3 [num k, num p, num n, vt11, vo11] 40, box b2 [num 0, num 0, num 0, .slice none 0 0, .slice none 0 0] 40, box b1 [num k, num p, num n, vt, vo] 40, hp w, z_.2.1, go, z_.2.2.2]) (fun z_ => z_.1 ≤ ts.length ∧ OwnH (flat (privMix k p n ts op z_.1)) z_.2.2.1 z_.2.2.2 ∧ RowO (34) z_.2.2.1 ts.length 3 vt11 z_.2.1) (fun z_ => ts.length - z_.1) (0, g0, cs0, gl) (⟨by (try dsimp only); omega, by (try dsimp only); rw [mix_first]; exact oh, rr0⟩) ⟨rfl, rfl, rfl, rfl, rfl, (by first | rfl | exact ksub rfl (by first | omega | (simp; done) | (simp; omega))), trivial⟩ (fun _ s => s) ?_; rintro ⟨i, ha, cs, hl⟩ ⟨hi, hlv, rr⟩; dsimp only at hi hlv rr ⊢; refine wp_sc (wp_sq (sq_v rfl (v_lss rfl rfl) rfl (sq_end (qs_n (wp_sc ?_))))); refine wp_cd rfl (fun c16 => ?_) (fun c16 => ?_)
    · refine wp_sk (qs_n (wp_sc (wp_bl (wp_sc (wp_sq (sq_v rfl (v_move rfl) rfl ?_)))))); obtain ⟨t18, a18, b18, c18, ht18, hcs18, rl18, rd18, rx18⟩ := hc_r (i) (by first | omega | (rw [List.length_set]; omega)); refine sq_v rfl (v_indexAddr Tryz.underlying38 ty_34 rfl rfl rr_r (by decide) (by omega) (by omega)) rfl ?_; refine sq_v rfl (v_loadNE 3 ty_34 rfl rfl rr_r (by have := rr_r.1; omega) rfl hcs18) rfl ?_; refine sq_x rfl (x_alloc ty_34 rfl) rfl ?_; rintro _ _ ⟨b5, rfl, rfl⟩; refine sq_v rfl (v_assign rfl) rfl ?_; refine sq_m 0 rfl rfl (m_store 0 ty_34 rfl rfl rfl rfl (by simp [rl18.sl.one, rd18.sl.one, rx18.sl.one]) rfl (Nat.le_of_ble_eq_true rfl)) rfl ?_; rintro _ _ ⟨rfl, rfl⟩; refine sq_end (qs_n (wp_rj 12 [(0, true), (1, true), (2, true), (3, true), (4, true), (5, true), (6, true), (7, true), (8, true), (9, false), (10, false), (11, true), (12, false)] mixed_ok (by kernel_rfl) (rj_v rfl rfl (v_fieldAddr fd_40_1 ty_38 (by decide) rfl) rfl (rj_v rfl rfl (v_loadB 1 ty_38 rfl rfl rfl) rfl (rj_v rfl rfl (v_move rfl) rfl (rj_v rfl rfl (v_fieldAddr fd_40_0 ty_37 (by decide) rfl) rfl (rj_v rfl rfl (v_loadNB 3 ty_37 rfl rfl rfl rfl) rfl (rj_v rfl rfl (v_loadNB 0 ty_34 rfl rfl rfl rfl) rfl (rj_v rfl rfl (v_loadNB 3 ty_40 rfl rfl rfl rfl) rfl (rj_v rfl rfl (v_move rfl) rfl (rj_v rfl rfl (v_move rfl) rfl ?_))))))))))); refine rj_x rfl rfl (x_call rfl en_190 (fun w s => ct_s_l14Needed _ _ _ _ _ _ _ _ _ w (r.mono (s.get 4 rfl)) (r'.mono (s.get 4 rfl)) (by first | assumption | omega) (by first | assumption | omega) (by first | assumption | omega) (by first | assumption | omega))) rfl ?_; rintro v29 h29 r29; refine rj_x rfl rfl (x_call rfl en_100 (fun w s => ct_s_l08Sum _ _ _ _ _ _ _ _ _ w (rl18.mono (s.get 5 rfl)) (rd18.mono (s.get 5 rfl)) (rx18.mono (s.get 5 rfl)) (r29.toR.mono (s.get 0 rfl)) (hnet.2.2.1 t18 (List.mem_of_getElem? ht18)))) rfl ?_; rintro _ h30 ⟨va30, vb30, vc30, rfl, o30⟩; refine rj_v rfl rfl (v_indexAddr Tryz.underlying38 ty_34 rfl rfl rr.toR (by decide) (by omega) (by omega)) rfl ?_; refine rj_m 7 rfl rfl rfl rfl (m_storeE 7 ty_34 rfl rfl (us := [va30, vb30, vc30]) rfl rfl (by simp [o30.toR.1.sl.one, o30.toR.2.1.sl.one, o30.toR.2.2.sl.one]) rfl rr (by decide) (by have := rr.1; omega)) rfl ?_; rintro _ h7 ⟨rfl, r7⟩; refine rj_end (qs_bn (qs_n (wp_sq ?_))); refine sq_v rfl (v_add rfl rfl ((by unfold I64; omega))) rfl ?_; refine sq_v rfl (v_move rfl) rfl (sq_end ?_); refine qs_dj 9 0 rfl rfl rfl (fun hdj => ?_); have e30 : sumR k p n t18 (needS ts op (i : Int).toNat (i : Int).toNat ts.length) = privT k p n ts op i := by rw [privT, Int.toNat_natCast]; congr 1; simp [List.getD, ht18]
      rw [e30] at o30; obtain ⟨g, hg, oh2⟩ := hlv.set (i := i) (by rw [mix_length k p n ts op hi]; omega) o30 hdj; simp only [Int.toNat_natCast] at r7; exact qs_bk (i + 1, h7, cs.take (i * 3) ++ [va30, vb30, vc30] ++ cs.drop (i * 3 + 3), g) ⟨by (try dsimp only); omega, by (try dsimp only); rw [← mix_next k p n ts op (by omega)]; exact oh2, r7⟩ (by simp only; omega) ⟨rfl, rfl, rfl, rfl, rfl, (by first | rfl | exact ksub rfl (by first | omega | (simp; done) | (simp; omega))), trivial⟩ (fun _ s => ((Sat.merge (s.pick (HS' := [hl, h30, box b3 [num k, num p, num n, vt11, vo11] 40, box b2 [num 0, num 0, num 0, .slice none 0 0, .slice none 0 0] 40, box b1 [num k, num p, num n, vt, vo] 40, hp w, h7, go]) [9, 0, 3, 4, 5, 6, 7, 8] (by decide) rfl)).less (i := 0) rfl hg).pick [1, 2, 3, 4, 5, 6, 0] (by decide) rfl)
    · refine wp_ex (qs_x (qs_x (qs_bx (qs_n (wp_sc (wp_sq (sq_v rfl (v_loadNB 0 ty_40 rfl rfl rfl rfl) rfl ?_))))))); refine sq_m 1 rfl rfl (m_store 1 ty_40 rfl rfl rfl rfl (by simp [one_int, rr.toR.sl.one, ro.toR.sl.one]) rfl (Nat.le_of_ble_eq_true rfl)) rfl ?_; rintro _ _ ⟨rfl, rfl⟩; refine sq_end (qs_n (wp_rt ?_)); have ei : i = ts.length := by omega
      subst ei; rw [mix_last] at hlv; refine qs_close [box b2 _ _, hp w] [ha, go, hl] (fun _ s => s.pick [1, 3, 4, 5, 6] (by decide) rfl) (fun md => ?_); exact qs_retc 1 rfl ty_40 rfl rfl rfl (fin_t 0 (i := 2) rfl rfl rfl (PrivYes c8 (NetO.join (by rw [priv_len]; exact rr) ro hlv md)))
end Go.Proofs.YthlmjnihihbckaaGreat
namespace Go.Proofs.YthlmjnihihbckaaGreat
set_option maxRecDepth 100000
open Go.RowKit
set_option maxHeartbeats 4000000 in
theorem ct_s_MergeTensors (k p n i j : Int) (ts : List Ten) (op : List Int) (vt vo : Value) (w : World) (r : TensR ts vt (hp w)) (r' : IntsR op vo (hp w)) (hs : op.length ≤ 1048576) :
    Calls Tryz.prog 237 [netV k p n vt vo, num i, num j].toArray w (Ret w emp (MergR k p n ts op i j)) := by
  refine calls_in Tryz.func237 rfl Tryz.ntmps237 rfl (Sat.start w) ?_; have hle0 := r.le; obtain ⟨cs_r, rr_r, hc_r⟩ := r.at; have hle1 := r'.le; refine wp_sc (wp_sq ?_); refine sq_x rfl (x_box rfl rfl) rfl ?_; rintro _ _ ⟨b3, rfl, rfl⟩; refine sq_x rfl (x_alloc ty_40 rfl) rfl ?_; rintro _ _ ⟨b6, rfl, rfl⟩; refine sq_v rfl (v_assign rfl) rfl (sq_end (qs_n (wp_sc (wp_sq (sq_v rfl (v_fieldAddr fd_40_1 ty_38 (by decide) rfl) rfl (sq_v rfl (v_loadB 1 ty_38 rfl rfl rfl) rfl (sq_v rfl (v_len Tryz.underlying38 rfl r.sl) rfl ?_))))))); refine sq_v rfl (v_sub rfl rfl ((by unfold I64; omega))) rfl ?_; refine sq_v rfl (v_assign rfl) rfl (sq_end (qs_n (wp_sc (wp_sc (wp_sq (sq_v rfl (v_loadNB 1 ty_40 rfl rfl rfl rfl) rfl (sq_u rfl (x_callv rfl en_83 (fun w s => ct_s_NetworkOk _ _ _ _ _ _ _ w (r.mono (s.get 2 rfl)) (r'.mono (s.get 2 rfl)) (by first | assumption | omega))) rfl ?_))))))); refine sq_bb 20 rfl (fun c20 => ?_) (fun c20 => ?_)
  · refine sq_v rfl (v_not rfl) rfl (sq_v rfl (v_move rfl) rfl (sq_v rfl (v_move rfl) rfl (sq_v rfl (v_move rfl) rfl (sq_u rfl (x_callv rfl en_152 (fun w s => ct_s_l01In _ _ _ w)) rfl (sq_v rfl (v_not rfl) rfl (sq_v rfl (v_pickf rfl rfl) rfl ?_)))))); refine sq_bnd 27 rfl (fun c27 => ?_) (fun c27 => ?_)
    · refine sq_v rfl (v_move rfl) rfl (sq_s rfl rfl (sq_s rfl rfl (sq_s rfl rfl (sq_s rfl rfl (sq_v rfl (v_pickt rfl rfl) rfl (sq_v rfl (v_move rfl) rfl (sq_s rfl rfl (sq_s rfl rfl (sq_s rfl rfl ?_))))))))); refine sq_v rfl (v_pickt rfl rfl) rfl (sq_end (qs_n (wp_ct rfl (wp_sc (wp_sq (sq_v rfl (v_build [num 0, num 0, num 0, .slice none 0 0, .slice none 0 0] rfl (by kernel_rfl)) rfl ?_)))))); refine sq_m 0 rfl rfl (m_store 0 ty_40 rfl rfl rfl rfl (by simp [one_int, one_sl]) rfl (Nat.le_of_ble_eq_true rfl)) rfl ?_; rintro _ _ ⟨rfl, rfl⟩; refine sq_v rfl (v_assign rfl) rfl (sq_end (qs_n (wp_rt (qs_r ?_)))); exact qs_retct 0 rfl ty_40 rfl rfl rfl rfl (fin_e (i := 2) rfl (MergNo (fun h => by first | exact netB_false.1 c20 h.1 | (have := h.2.1; have := h.2.2.1; have := h.2.2.2.1; omega) | exact c27 (by have := h.2.1; omega) | exact c33 (by have := h.2.2.1; omega) | exact h.2.2.2.1 c38)))
    · refine sq_v rfl (v_move rfl) rfl (sq_v rfl (v_move rfl) rfl (sq_v rfl (v_move rfl) rfl (sq_u rfl (x_callv rfl en_152 (fun w s => ct_s_l01In _ _ _ w)) rfl (sq_v rfl (v_not rfl) rfl (sq_v rfl (v_pickf rfl rfl) rfl ?_))))); refine sq_bnd 33 rfl (fun c33 => ?_) (fun c33 => ?_)
      · refine sq_v rfl (v_move rfl) rfl (sq_s rfl rfl (sq_s rfl rfl (sq_s rfl rfl (sq_v rfl (v_pickt rfl rfl) rfl (sq_end (qs_n (wp_ct rfl (wp_sc (wp_sq (sq_v rfl (v_build [num 0, num 0, num 0, .slice none 0 0, .slice none 0 0] rfl (by kernel_rfl)) rfl ?_)))))))))); refine sq_m 0 rfl rfl (m_store 0 ty_40 rfl rfl rfl rfl (by simp [one_int, one_sl]) rfl (Nat.le_of_ble_eq_true rfl)) rfl ?_; rintro _ _ ⟨rfl, rfl⟩; refine sq_v rfl (v_assign rfl) rfl (sq_end (qs_n (wp_rt (qs_r ?_)))); exact qs_retct 0 rfl ty_40 rfl rfl rfl rfl (fin_e (i := 2) rfl (MergNo (fun h => by first | exact netB_false.1 c20 h.1 | (have := h.2.1; have := h.2.2.1; have := h.2.2.2.1; omega) | exact c27 (by have := h.2.1; omega) | exact c33 (by have := h.2.2.1; omega) | exact h.2.2.2.1 c38)))
      · refine sq_v rfl (v_move rfl) rfl (sq_v rfl (v_move rfl) rfl (sq_v rfl (v_move rfl) rfl (sq_v rfl (v_eql rfl rfl) rfl (sq_v rfl (v_pickf rfl rfl) rfl (sq_end (qs_n ?_)))))); refine wp_cd rfl (fun c38 => ?_) (fun c38 => ?_)
        · refine wp_sc (wp_sq (sq_v rfl (v_build [num 0, num 0, num 0, .slice none 0 0, .slice none 0 0] rfl (by kernel_rfl)) rfl ?_)); refine sq_m 0 rfl rfl (m_store 0 ty_40 rfl rfl rfl rfl (by simp [one_int, one_sl]) rfl (Nat.le_of_ble_eq_true rfl)) rfl ?_; rintro _ _ ⟨rfl, rfl⟩; refine sq_v rfl (v_assign rfl) rfl (sq_end (qs_n (wp_rt (qs_r ?_)))); exact qs_retct 0 rfl ty_40 rfl rfl rfl rfl (fin_e (i := 2) rfl (MergNo (fun h => by first | exact netB_false.1 c20 h.1 | (have := h.2.1; have := h.2.2.1; have := h.2.2.2.1; omega) | exact c27 (by have := h.2.1; omega) | exact c33 (by have := h.2.2.1; omega) | exact h.2.2.2.1 c38)))
        · refine wp_sk (qs_n (wp_sc (wp_sq ?_))); have hnet := netB_true.1 c20; have h12 := hnet.2.1; have hl12 : ∀ t ∈ ts, t.l.length ≤ 12 := (fun t ht => (net_axes hnet t ht).1); have hdm := net_dmap hnet; refine sq_v rfl (v_fieldAddr fd_40_1 ty_38 (by decide) rfl) rfl (sq_v rfl (v_loadB 1 ty_38 rfl rfl rfl) rfl (sq_v rfl (v_move rfl) rfl (sq_v rfl (v_move rfl) rfl (sq_v rfl (v_min rfl rfl) rfl ?_)))); obtain ⟨t45, a45, b45, c45, ht45, hcs45, rl45, rd45, rx45⟩ := hc_r ((min i j : Int).toNat) (by first | omega | (rw [List.length_set]; omega)); refine sq_v rfl (v_indexAddr Tryz.underlying38 ty_34 rfl rfl rr_r (by decide) (by omega) (by omega)) rfl ?_; refine sq_v rfl (v_loadNE 2 ty_34 rfl rfl rr_r (by have := rr_r.1; omega) rfl hcs45) rfl ?_; refine sq_x rfl (x_alloc ty_34 rfl) rfl ?_; rintro _ _ ⟨b9, rfl, rfl⟩; refine sq_m 0 rfl rfl (m_store 0 ty_34 rfl rfl rfl rfl (by simp [rl45.sl.one, rd45.sl.one, rx45.sl.one]) rfl (Nat.le_of_ble_eq_true rfl)) rfl ?_; rintro _ _ ⟨rfl, rfl⟩; refine sq_end ?_; have e45 : t45 = mgA ts i j := by simp only [mgA, mgLo, List.getD, ht45, Option.getD_some]
          subst e45; have hma : mgA ts i j ∈ ts := List.mem_of_getElem? ht45; refine qs_n (wp_sc (wp_sq (sq_v rfl (v_fieldAddr fd_40_1 ty_38 (by decide) rfl) rfl (sq_v rfl (v_loadB 2 ty_38 rfl rfl rfl) rfl (sq_v rfl (v_move rfl) rfl (sq_v rfl (v_move rfl) rfl (sq_v rfl (v_max rfl rfl) rfl ?_))))))); obtain ⟨t52, a52, b52, c52, ht52, hcs52, rl52, rd52, rx52⟩ := hc_r ((max i j : Int).toNat) (by first | omega | (rw [List.length_set]; omega)); refine sq_v rfl (v_indexAddr Tryz.underlying38 ty_34 rfl rfl rr_r (by decide) (by omega) (by omega)) rfl ?_; refine sq_v rfl (v_loadNE 3 ty_34 rfl rfl rr_r (by have := rr_r.1; omega) rfl hcs52) rfl ?_; refine sq_x rfl (x_alloc ty_34 rfl) rfl ?_; rintro _ _ ⟨b10, rfl, rfl⟩; refine sq_m 0 rfl rfl (m_store 0 ty_34 rfl rfl rfl rfl (by simp [rl52.sl.one, rd52.sl.one, rx52.sl.one]) rfl (Nat.le_of_ble_eq_true rfl)) rfl ?_; rintro _ _ ⟨rfl, rfl⟩; refine sq_end ?_; have e52 : t52 = mgB ts i j := by simp only [mgB, mgHi, List.getD, ht52, Option.getD_some]
          subst e52; have hmb : mgB ts i j ∈ ts := List.mem_of_getElem? ht52; refine qs_n (wp_sc (wp_sq (sq_v rfl (v_loadNB 3 ty_40 rfl rfl rfl rfl) rfl (sq_v rfl (v_move rfl) rfl (sq_v rfl (v_move rfl) rfl ?_))))); refine sq_x rfl (x_call rfl en_190 (fun w s => ct_s_l14Needed _ _ _ _ _ _ _ _ _ w (r.mono (s.get 4 rfl)) (r'.mono (s.get 4 rfl)) (by first | assumption | omega) (by first | assumption | omega) (by first | assumption | omega) (by first | assumption | omega))) rfl ?_; rintro v57 h57 r57; refine sq_v rfl (v_assign rfl) rfl (sq_end (qs_n (wp_sc (wp_sc (wp_sq (sq_v rfl (v_loadNB 2 ty_34 rfl rfl rfl rfl) rfl (sq_v rfl (v_loadNB 1 ty_34 rfl rfl rfl rfl) rfl (sq_v rfl (v_move rfl) rfl (sq_u rfl (x_callv rfl en_65 (fun w s => ct_u_l08Fits k p n (dimOf ts) _ _ _ _ _ _ _ _ _ _ w (rl45.mono (s.get 5 rfl)) (rd45.mono (s.get 5 rfl)) (rx45.mono (s.get 5 rfl)) (rl52.mono (s.get 5 rfl)) (rd52.mono (s.get 5 rfl)) (rx52.mono (s.get 5 rfl)) (r57.toR.mono (s.get 0 rfl)) (hnet.2.2.1 _ hma) (hnet.2.2.1 _ hmb) (hdm _ hma) (hdm _ hmb))) rfl (sq_v rfl (v_not rfl) rfl (sq_end (qs_n ?_)))))))))))); refine wp_cn _ rfl (fun c62 => ?_) (fun c62 => ?_)
          · refine wp_sc (wp_sq (sq_v rfl (v_build [num 0, num 0, num 0, .slice none 0 0, .slice none 0 0] rfl (by kernel_rfl)) rfl ?_)); refine sq_m 3 rfl rfl (m_store 3 ty_40 rfl rfl rfl rfl (by simp [one_int, one_sl]) rfl (Nat.le_of_ble_eq_true rfl)) rfl ?_; rintro _ _ ⟨rfl, rfl⟩; refine sq_v rfl (v_assign rfl) rfl (sq_end (qs_n (wp_rt (qs_r ?_)))); exact qs_retct 3 rfl ty_40 rfl rfl rfl rfl (fin_e (i := 5) rfl (MergNo (fun h => pairB_false.1 c62 h.2.2.2.2)))
          · refine wp_sk (qs_n (wp_sc ?_)); refine wp_ra (σ := Nat × PH × Value) 7 (fun z_ => IntsO op z_.2.2 z_.2.1) (fun z_ => [(1, num i), (2, num j), (3, .pointer (some ⟨b3, 0, none⟩)), (6, .pointer (some ⟨b6, 0, none⟩)), (7, .bool false), (9, .pointer (some ⟨b9, 0, none⟩)), (10, .pointer (some ⟨b10, 0, none⟩)), (11, v57), (12, .pointer (some ⟨z_.1, 0, none⟩)), (38, .bool (decide ((i : Int) = j))), (62, .bool (!(pairB k p n (mgA ts i j) (mgB ts i j) (needS ts op i.toNat j.toNat ts.length))))]) (fun z_ => [box z_.1 [num k, num p, num n, .slice none 0 0, z_.2.2] 40, z_.2.1, h57, box b10 [a52, b52, c52] 34, box b9 [a45, b45, c45] 34, box b6 [num 0, num 0, num 0, .slice none 0 0, .slice none 0 0] 40, box b3 [num k, num p, num n, vt, vo] 40, hp w]) mixed_ok (by kernel_rfl) ?_ ?_
            · refine ra_v (i := 0) (by kernel_rfl) rfl rfl (v_fieldAddr fd_40_0 ty_37 (by decide) rfl) rfl (ra_v (i := 1) (by kernel_rfl) rfl rfl (v_loadNB 4 ty_37 rfl rfl rfl rfl) rfl (ra_v (i := 2) (by kernel_rfl) rfl rfl (v_fieldAddr fd_40_2 ty_25 (by decide) rfl) rfl (ra_v (i := 3) (by kernel_rfl) rfl rfl (v_loadB 4 ty_25 rfl rfl rfl) rfl ?_))); refine ra_2 (i := 4) (j := 6) (by kernel_rfl) ?_ ?_
              · refine ro_x rfl rfl (x_call rfl en_112 (fun w s => ct_s_l05Ints _ _ w (r'.mono (s.get 5 rfl)) (by first | assumption | omega))) rfl ?_; rintro v68 h68 r68; refine ra_rj [(5, true), (6, false), (7, false)] (by kernel_rfl) rfl ?_; refine rj_v rfl rfl (v_build [num k, num p, num n, .slice none 0 0, v68] rfl (by obtain ⟨_, _, rfl⟩ := r68.toR.sl; kernel_rfl)) rfl ?_; refine rj_x rfl rfl (x_alloc ty_40 rfl) rfl ?_; rintro _ _ ⟨b12, rfl, rfl⟩; refine rj_m 0 rfl rfl rfl rfl (m_store 0 ty_40 rfl rfl rfl rfl (by simp [one_int, one_sl, r68.toR.sl.one]) rfl (Nat.le_of_ble_eq_true rfl)) rfl ?_; rintro _ _ ⟨rfl, rfl⟩; refine rj_end ?_; exact qs_mid (b12, h68, v68) (r68) ⟨rfl, rfl, rfl, rfl, rfl, rfl, rfl, rfl, rfl, rfl, rfl, trivial⟩ (fun _ s => s.pick [0, 1, 2, 3, 4, 5, 6, 7] (by decide) rfl)
              · refine ro_x rfl rfl (x_alloc ty_40 rfl) rfl ?_; rintro _ _ ⟨b12, rfl, rfl⟩; refine ra_rj [(4, false), (5, true), (7, false)] (by kernel_rfl) rfl ?_; refine rj_x rfl rfl (x_call rfl en_112 (fun w s => ct_s_l05Ints _ _ w (r'.mono (s.get 6 rfl)) (by first | assumption | omega))) rfl ?_; rintro v68 h68 r68; refine rj_v rfl rfl (v_build [num k, num p, num n, .slice none 0 0, v68] rfl (by obtain ⟨_, _, rfl⟩ := r68.toR.sl; kernel_rfl)) rfl ?_; refine rj_m 1 rfl rfl rfl rfl (m_store 1 ty_40 rfl rfl rfl rfl (by simp [one_int, one_sl, r68.toR.sl.one]) rfl (Nat.le_of_ble_eq_true rfl)) rfl ?_; rintro _ _ ⟨rfl, rfl⟩; refine rj_end ?_; exact qs_mid (b12, h68, v68) (r68) ⟨rfl, rfl, rfl, rfl, rfl, rfl, rfl, rfl, rfl, rfl, rfl, trivial⟩ (fun _ s => s.pick [1, 0, 2, 3, 4, 5, 6, 7] (by decide) rfl)
            · rintro ⟨b12, h68, v68⟩ r68; dsimp only at r68 ⊢; refine qs_n (wp_sc (wp_sc (wp_sq (sq_v rfl (v_fieldAddr fd_40_1 ty_38 (by decide) rfl) rfl (sq_v rfl (v_loadB 6 ty_38 rfl rfl rfl) rfl (sq_v rfl (v_len Tryz.underlying38 rfl r.sl) rfl (sq_v rfl (v_move rfl) rfl (sq_end (qs_n (wp_bl ?_)))))))))); refine wp_lp (σ := Nat × Value × PH × (List Value) × PH) (fun z_ => [(1, num i), (2, num j), (3, .pointer (some ⟨b3, 0, none⟩)), (6, .pointer (some ⟨b6, 0, none⟩)), (7, .bool false), (9, .pointer (some ⟨b9, 0, none⟩)), (10, .pointer (some ⟨b10, 0, none⟩)), (11, v57), (12, .pointer (some ⟨b12, 0, none⟩)), (71, vt), (72, num ts.length), (73, num z_.1)]) (fun z_ => [z_.2.2.2.2, z_.2.2.1, box b12 [num k, num p, num n, z_.2.1, v68] 40, h68, h57, box b10 [a52, b52, c52] 34, box b9 [a45, b45, c45] 34, box b6 [num 0, num 0, num 0, .slice none 0 0, .slice none 0 0] 40, box b3 [num k, num p, num n, vt, vo] 40, hp w]) (fun z_ => z_.1 ≤ ts.length ∧ OwnH (flat (mergL k p n ts op i j z_.1)) z_.2.2.2.1 z_.2.2.2.2 ∧ RowO (34) z_.2.2.2.1 (mergL k p n ts op i j z_.1).length 3 z_.2.1 z_.2.2.1) (fun z_ => ts.length - z_.1) (0, .slice none 0 0, emp, [], emp) (⟨by (try dsimp only); omega, OwnH.nil, RowO.nil⟩) ⟨rfl, rfl, rfl, rfl, rfl, rfl, rfl, rfl, rfl, rfl, rfl, (by first | rfl | exact ksub rfl (by first | omega | (simp; done) | (simp; omega))), trivial⟩ (fun _ s => (emp_sat (emp_sat s))) ?_; rintro ⟨m, lx, ha, cs, hl⟩ ⟨hm, hlv, rr⟩; dsimp only at hm hlv rr ⊢; have hpp := pairB_true.1 c62; have hmp : mergP k p n ts op i j := ⟨hnet, by omega, by omega, by omega, hpp⟩
              have hml := merg_len (k := k) (p := p) (n := n) (ts := ts) (op := op) (i := i) (j := j) m; have hl88 := ten_len (pair_ten hpp).1; refine wp_sc (wp_sq (sq_v rfl (v_lss rfl rfl) rfl (sq_end (qs_n (wp_sc ?_))))); refine wp_cd rfl (fun c74 => ?_) (fun c74 => ?_)
              · refine wp_sk (qs_n (wp_sc (wp_bl (wp_sc (wp_sq (sq_v rfl (v_move rfl) rfl ?_)))))); obtain ⟨t76, a76, b76, c76, ht76, hcs76, rl76, rd76, rx76⟩ := hc_r (m) (by first | omega | (rw [List.length_set]; omega)); refine sq_v rfl (v_indexAddr Tryz.underlying38 ty_34 rfl rfl rr_r (by decide) (by omega) (by omega)) rfl ?_; refine sq_v rfl (v_loadNE 9 ty_34 rfl rfl rr_r (by have := rr_r.1; omega) rfl hcs76) rfl ?_; refine sq_x rfl (x_alloc ty_34 rfl) rfl ?_; rintro _ _ ⟨b14, rfl, rfl⟩; refine sq_v rfl (v_assign rfl) rfl ?_; refine sq_m 0 rfl rfl (m_store 0 ty_34 rfl rfl rfl rfl (by simp [rl76.sl.one, rd76.sl.one, rx76.sl.one]) rfl (Nat.le_of_ble_eq_true rfl)) rfl ?_; rintro _ _ ⟨rfl, rfl⟩; refine sq_end ?_; have hl76 := ten_len (hnet.2.2.1 t76 (List.mem_of_getElem? ht76)); refine qs_n (wp_sc (wp_sc (wp_sq (sq_v rfl (v_move rfl) rfl (sq_v rfl (v_move rfl) rfl (sq_v rfl (v_move rfl) rfl (sq_v rfl (v_min rfl rfl) rfl (sq_v rfl (v_eql rfl rfl) rfl (sq_end (qs_n ?_)))))))))); refine wp_cd rfl (fun c82 => ?_) (fun c82 => ?_)
                · refine wp_sq (sq_v rfl (v_fieldAddr fd_40_0 ty_37 (by decide) rfl) rfl (sq_v rfl (v_loadNB 9 ty_37 rfl rfl rfl rfl) rfl (sq_v rfl (v_loadNB 7 ty_34 rfl rfl rfl rfl) rfl (sq_v rfl (v_loadNB 6 ty_34 rfl rfl rfl rfl) rfl (sq_v rfl (v_move rfl) rfl ?_))))); refine sq_x rfl (x_call rfl en_66 (fun w s => ct_u_l08Pair _ _ _ _ _ _ _ _ _ _ _ _ _ w (rl45.mono (s.get 10 rfl)) (rd45.mono (s.get 10 rfl)) (rx45.mono (s.get 10 rfl)) (rl52.mono (s.get 10 rfl)) (rd52.mono (s.get 10 rfl)) (rx52.mono (s.get 10 rfl)) (r57.toR.mono (s.get 5 rfl)) hpp)) rfl ?_; rintro _ h88 ⟨va88, vb88, vc88, rfl, o88⟩; refine sq_m 1 rfl rfl (m_store 1 ty_34 rfl rfl rfl rfl (by simp [o88.toR.1.sl.one, o88.toR.2.1.sl.one, o88.toR.2.2.sl.one]) rfl (Nat.le_of_ble_eq_true rfl)) rfl ?_; rintro _ _ ⟨rfl, rfl⟩; refine sq_end (qs_n (wp_sc (wp_sq (sq_v rfl (v_move rfl) rfl (sq_v rfl (v_move rfl) rfl (sq_v rfl (v_move rfl) rfl (sq_v rfl (v_max rfl rfl) rfl (sq_v rfl (v_neq rfl rfl) rfl (sq_end (qs_n ?_)))))))))); refine wp_cd rfl (fun c93 => ?_) (fun c93 => ?_)
                  · refine wp_rj 5 [(0, true), (1, true), (2, true), (3, false), (4, false), (5, false), (6, false), (7, false)] mixed_ok (by kernel_rfl) (rj_v rfl rfl (v_fieldAddr fd_40_1 ty_38 (by decide) rfl) rfl (rj_v rfl rfl (v_loadB 4 ty_38 rfl rfl rfl) rfl (rj_v rfl rfl (v_loadNB 1 ty_34 rfl rfl rfl rfl) rfl ?_))); refine rj_x rfl rfl (x_call rfl en_188 (fun w s => ct_s_l05Copy _ _ _ _ w (o88.toR.1.mono (s.get 0 rfl)) (o88.toR.2.1.mono (s.get 0 rfl)) (o88.toR.2.2.mono (s.get 0 rfl)) (by first | assumption | omega))) rfl ?_; rintro _ h97 ⟨va97, vb97, vc97, rfl, o97⟩; refine rj_x rfl rfl (x_buildS [.agg [va97, vb97, vc97].toArray] Tryz.underlying38 ty_34 (by decide) rfl rfl rfl (by decide) (by decide) (by intro v hv; simp at hv; subst hv; rfl)) rfl ?_; intro v98 h98 (r98 : RowO 34 [va97, vb97, vc97] 1 3 v98 h98); refine rj_m 5 rfl rfl rfl rfl (m_append 5 0 Tryz.underlying38 ty_34 rfl rfl (by decide) rfl rfl rfl rr rfl r98.toR (by simp [o97.toR.1.sl.one, o97.toR.2.1.sl.one, o97.toR.2.2.sl.one]) (by unfold maxLen; omega) (by omega)) rfl ?_; intro v99 h_r99 (r99 : RowO 34 (cs ++ [va97, vb97, vc97]) ((mergL k p n ts op i j m).length + 1) 3 v99 h_r99); refine rj_fv rfl rfl (v_fieldAddr fd_40_1 ty_38 (by decide) rfl) rfl ?_; refine rj_m 6 rfl rfl rfl rfl (m_store1 6 ty_38 rfl rfl r99.toR.sl.one rfl (Nat.le_of_ble_eq_true rfl)) rfl ?_; rintro _ _ ⟨rfl, rfl⟩; refine rj_end (qs_bn (qs_n (wp_sq ?_))); refine sq_v rfl (v_add rfl rfl ((by unfold I64; omega))) rfl ?_; refine sq_v rfl (v_move rfl) rfl (sq_end ?_); refine qs_dj 4 1 rfl rfl rfl (fun hdj => ?_); exact qs_bk (m + 1, v99, h_r99, cs ++ [va97, vb97, vc97], PUn hl h97) ⟨by (try dsimp only); omega, by (try dsimp only); rw [merg_lo (by omega) (by omega) (by omega)]; exact hlv.snoc (t := mergT k p n ts op i j) o97 hdj, by (try dsimp only); rw [merg_lo (by omega) (by omega) (by omega), List.length_append]; exact r99⟩ (by simp only; omega) ⟨rfl, rfl, rfl, rfl, rfl, rfl, rfl, rfl, rfl, rfl, rfl, (by first | rfl | exact ksub rfl (by first | omega | (simp; done) | (simp; omega))), trivial⟩ (fun _ s => Sat.merge (s.pick [4, 1, 5, 6, 7, 8, 9, 10, 11, 12, 13] (by decide) rfl))
                  · refine wp_sk (qs_bn (qs_n (wp_sq ?_))); refine sq_v rfl (v_add rfl rfl ((by unfold I64; omega))) rfl ?_; refine sq_v rfl (v_move rfl) rfl (sq_end ?_)
                    exfalso; omega
                · refine wp_sk (qs_n (wp_sc (wp_sq (sq_v rfl (v_move rfl) rfl (sq_v rfl (v_move rfl) rfl (sq_v rfl (v_move rfl) rfl (sq_v rfl (v_max rfl rfl) rfl (sq_v rfl (v_neq rfl rfl) rfl (sq_end (qs_n ?_)))))))))); refine wp_cd rfl (fun c93 => ?_) (fun c93 => ?_)
                  · refine wp_rj 5 [(0, true), (1, true), (2, true), (3, false), (4, false), (5, false), (6, false), (7, false)] mixed_ok (by kernel_rfl) (rj_v rfl rfl (v_fieldAddr fd_40_1 ty_38 (by decide) rfl) rfl (rj_v rfl rfl (v_loadB 3 ty_38 rfl rfl rfl) rfl (rj_v rfl rfl (v_loadNB 0 ty_34 rfl rfl rfl rfl) rfl ?_))); refine rj_x rfl rfl (x_call rfl en_188 (fun w s => ct_s_l05Copy _ _ _ _ w (rl76.mono (s.get 10 rfl)) (rd76.mono (s.get 10 rfl)) (rx76.mono (s.get 10 rfl)) (by first | assumption | omega))) rfl ?_; rintro _ h97 ⟨va97, vb97, vc97, rfl, o97⟩; refine rj_x rfl rfl (x_buildS [.agg [va97, vb97, vc97].toArray] Tryz.underlying38 ty_34 (by decide) rfl rfl rfl (by decide) (by decide) (by intro v hv; simp at hv; subst hv; rfl)) rfl ?_; intro v98 h98 (r98 : RowO 34 [va97, vb97, vc97] 1 3 v98 h98); refine rj_m 4 rfl rfl rfl rfl (m_append 4 0 Tryz.underlying38 ty_34 rfl rfl (by decide) rfl rfl rfl rr rfl r98.toR (by simp [o97.toR.1.sl.one, o97.toR.2.1.sl.one, o97.toR.2.2.sl.one]) (by unfold maxLen; omega) (by omega)) rfl ?_; intro v99 h_r99 (r99 : RowO 34 (cs ++ [va97, vb97, vc97]) ((mergL k p n ts op i j m).length + 1) 3 v99 h_r99); refine rj_fv rfl rfl (v_fieldAddr fd_40_1 ty_38 (by decide) rfl) rfl ?_; refine rj_m 5 rfl rfl rfl rfl (m_store1 5 ty_38 rfl rfl r99.toR.sl.one rfl (Nat.le_of_ble_eq_true rfl)) rfl ?_; rintro _ _ ⟨rfl, rfl⟩; refine rj_end (qs_bn (qs_n (wp_sq ?_))); refine sq_v rfl (v_add rfl rfl ((by unfold I64; omega))) rfl ?_; refine sq_v rfl (v_move rfl) rfl (sq_end ?_); refine qs_dj 3 1 rfl rfl rfl (fun hdj => ?_); exact qs_bk (m + 1, v99, h_r99, cs ++ [va97, vb97, vc97], PUn hl h97) ⟨by (try dsimp only); omega, by (try dsimp only); rw [merg_else ht76 (by omega) (by omega) (by omega)]; exact hlv.snoc o97 hdj, by (try dsimp only); rw [merg_else ht76 (by omega) (by omega) (by omega), List.length_append]; exact r99⟩ (by simp only; omega) ⟨rfl, rfl, rfl, rfl, rfl, rfl, rfl, rfl, rfl, rfl, rfl, (by first | rfl | exact ksub rfl (by first | omega | (simp; done) | (simp; omega))), trivial⟩ (fun _ s => Sat.merge (s.pick [3, 1, 4, 5, 6, 7, 8, 9, 10, 11, 12] (by decide) rfl))
                  · refine wp_sk (qs_bn (qs_n (wp_sq ?_))); refine sq_v rfl (v_add rfl rfl ((by unfold I64; omega))) rfl ?_; refine sq_v rfl (v_move rfl) rfl (sq_end ?_); exact qs_bk (m + 1, lx, ha, cs, hl) ⟨by (try dsimp only); omega, by (try dsimp only); rw [merg_hi (by omega)]; exact hlv, by (try dsimp only); rw [merg_hi (by omega)]; exact rr⟩ (by simp only; omega) ⟨rfl, rfl, rfl, rfl, rfl, rfl, rfl, rfl, rfl, rfl, rfl, (by first | rfl | exact ksub rfl (by first | omega | (simp; done) | (simp; omega))), trivial⟩ (fun _ s => s.pick [1, 2, 3, 4, 5, 6, 7, 8, 9, 10] (by decide) rfl)
              · refine wp_ex (qs_x (qs_x (qs_bx (qs_n (wp_sc (wp_sq (sq_v rfl (v_loadNB 2 ty_40 rfl rfl rfl rfl) rfl ?_))))))); refine sq_m 7 rfl rfl (m_store 7 ty_40 rfl rfl rfl rfl (by simp [one_int, rr.toR.sl.one, r68.toR.sl.one]) rfl (Nat.le_of_ble_eq_true rfl)) rfl ?_; rintro _ _ ⟨rfl, rfl⟩; refine sq_v rfl (v_assign rfl) rfl (sq_end (qs_n (wp_rt ?_))); have ei : m = ts.length := by omega
                subst ei; refine qs_close [box b6 _ _, hp w] [ha, h68, hl] (fun _ s => s.pick [7, 9, 1, 3, 0] (by decide) rfl) (fun md => ?_); exact qs_retct 1 rfl ty_40 rfl rfl rfl rfl (fin_t 0 (i := 2) rfl rfl rfl (MergYes ⟨hnet, by omega, by omega, by omega, pairB_true.1 c62⟩ (NetO.join rr r68 hlv md)))
  · refine sq_v rfl (v_not rfl) rfl (sq_v rfl (v_move rfl) rfl (sq_s rfl rfl (sq_s rfl rfl (sq_s rfl rfl (sq_s rfl rfl (sq_v rfl (v_pickt rfl rfl) rfl (sq_v rfl (v_move rfl) rfl (sq_s rfl rfl (sq_s rfl rfl ?_))))))))); refine sq_s rfl rfl (sq_s rfl rfl (sq_v rfl (v_pickt rfl rfl) rfl (sq_v rfl (v_move rfl) rfl (sq_s rfl rfl (sq_s rfl rfl (sq_s rfl rfl (sq_v rfl (v_pickt rfl rfl) rfl (sq_end (qs_n (wp_ct rfl (wp_sc (wp_sq (sq_v rfl (v_build [num 0, num 0, num 0, .slice none 0 0, .slice none 0 0] rfl (by kernel_rfl)) rfl ?_))))))))))))); refine sq_m 0 rfl rfl (m_store 0 ty_40 rfl rfl rfl rfl (by simp [one_int, one_sl]) rfl (Nat.le_of_ble_eq_true rfl)) rfl ?_; rintro _ _ ⟨rfl, rfl⟩; refine sq_v rfl (v_assign rfl) rfl (sq_end (qs_n (wp_rt (qs_r ?_)))); exact qs_retct 0 rfl ty_40 rfl rfl rfl rfl (fin_e (i := 2) rfl (MergNo (fun h => by first | exact netB_false.1 c20 h.1 | (have := h.2.1; have := h.2.2.1; have := h.2.2.2.1; omega) | exact c27 (by have := h.2.1; omega) | exact c33 (by have := h.2.2.1; omega) | exact h.2.2.2.1 c38)))
set_option maxHeartbeats 4000000 in
theorem ct_i_MergeTensors (k p n i j : Int) (ts : List Ten) (op : List Int) (vt vo : Value) (w : World) (r : TensR ts vt (hp w)) (r' : IntsR op vo (hp w)) (hs : op.length ≤ 1048576) :
    Calls Tryz.prog 238 [netV k p n vt vo, num i, num j].toArray w (Ret w emp (MergR k p n ts op i j)) := by
  refine calls_in Tryz.func238 rfl Tryz.ntmps238 rfl (Sat.start w) ?_; have hle0 := r.le; obtain ⟨cs_r, rr_r, hc_r⟩ := r.at; have hle1 := r'.le; refine wp_sc (wp_sq ?_); refine sq_x rfl (x_box rfl rfl) rfl ?_; rintro _ _ ⟨b3, rfl, rfl⟩; refine sq_x rfl (x_alloc ty_40 rfl) rfl ?_; rintro _ _ ⟨b6, rfl, rfl⟩; refine sq_v rfl (v_assign rfl) rfl (sq_end (qs_n (wp_sc (wp_sq (sq_v rfl (v_fieldAddr fd_40_1 ty_38 (by decide) rfl) rfl (sq_v rfl (v_loadB 1 ty_38 rfl rfl rfl) rfl (sq_v rfl (v_len Tryz.underlying38 rfl r.sl) rfl (sq_v rfl (v_assign rfl) rfl (sq_end (qs_n (wp_sc (wp_sc (wp_sq (sq_v rfl (v_loadNB 1 ty_40 rfl rfl rfl rfl) rfl (sq_u rfl (x_callv rfl en_42 (fun w s => ct_i_NetworkOk _ _ _ _ _ _ _ w (r.mono (s.get 2 rfl)) (r'.mono (s.get 2 rfl)) (by first | assumption | omega))) rfl ?_))))))))))))))); refine sq_bb 20 rfl (fun c20 => ?_) (fun c20 => ?_)
  · refine sq_v rfl (v_not rfl) rfl (sq_v rfl (v_move rfl) rfl (sq_v rfl (v_move rfl) rfl (sq_v rfl (v_lss rfl rfl) rfl (sq_v rfl (v_pickf rfl rfl) rfl ?_)))); refine sq_bd 25 rfl (fun c25 => ?_) (fun c25 => ?_)
    · refine sq_v rfl (v_move rfl) rfl (sq_s rfl rfl (sq_s rfl rfl (sq_v rfl (v_pickt rfl rfl) rfl (sq_v rfl (v_move rfl) rfl (sq_s rfl rfl (sq_s rfl rfl (sq_s rfl rfl (sq_v rfl (v_pickt rfl rfl) rfl (sq_v rfl (v_move rfl) rfl ?_))))))))); refine sq_s rfl rfl (sq_s rfl rfl (sq_s rfl rfl (sq_v rfl (v_pickt rfl rfl) rfl (sq_v rfl (v_move rfl) rfl (sq_s rfl rfl (sq_s rfl rfl (sq_s rfl rfl (sq_v rfl (v_pickt rfl rfl) rfl (sq_end (qs_n (wp_ct rfl (wp_sc (wp_sq ?_))))))))))))); refine sq_v rfl (v_build [num 0, num 0, num 0, .slice none 0 0, .slice none 0 0] rfl (by kernel_rfl)) rfl ?_; refine sq_m 0 rfl rfl (m_store 0 ty_40 rfl rfl rfl rfl (by simp [one_int, one_sl]) rfl (Nat.le_of_ble_eq_true rfl)) rfl ?_; rintro _ _ ⟨rfl, rfl⟩; refine sq_v rfl (v_assign rfl) rfl (sq_end (qs_n (wp_rt (qs_r ?_)))); exact qs_retct 0 rfl ty_40 rfl rfl rfl rfl (fin_e (i := 2) rfl (MergNo (fun h => by first | exact netB_false.1 c20 h.1 | (have := h.2.1; have := h.2.2.1; have := h.2.2.2.1; omega))))
    · refine sq_v rfl (v_move rfl) rfl (sq_v rfl (v_move rfl) rfl (sq_v rfl (v_lss rfl rfl) rfl (sq_v rfl (v_pickf rfl rfl) rfl ?_))); refine sq_bd 29 rfl (fun c29 => ?_) (fun c29 => ?_)
      · refine sq_v rfl (v_move rfl) rfl (sq_s rfl rfl (sq_s rfl rfl (sq_s rfl rfl (sq_v rfl (v_pickt rfl rfl) rfl (sq_v rfl (v_move rfl) rfl (sq_s rfl rfl (sq_s rfl rfl (sq_s rfl rfl (sq_v rfl (v_pickt rfl rfl) rfl ?_))))))))); refine sq_v rfl (v_move rfl) rfl (sq_s rfl rfl (sq_s rfl rfl (sq_s rfl rfl (sq_v rfl (v_pickt rfl rfl) rfl (sq_end (qs_n (wp_ct rfl (wp_sc (wp_sq (sq_v rfl (v_build [num 0, num 0, num 0, .slice none 0 0, .slice none 0 0] rfl (by kernel_rfl)) rfl ?_)))))))))); refine sq_m 0 rfl rfl (m_store 0 ty_40 rfl rfl rfl rfl (by simp [one_int, one_sl]) rfl (Nat.le_of_ble_eq_true rfl)) rfl ?_; rintro _ _ ⟨rfl, rfl⟩; refine sq_v rfl (v_assign rfl) rfl (sq_end (qs_n (wp_rt (qs_r ?_)))); exact qs_retct 0 rfl ty_40 rfl rfl rfl rfl (fin_e (i := 2) rfl (MergNo (fun h => by first | exact netB_false.1 c20 h.1 | (have := h.2.1; have := h.2.2.1; have := h.2.2.2.1; omega))))
      · refine sq_v rfl (v_move rfl) rfl (sq_v rfl (v_move rfl) rfl (sq_v rfl (v_move rfl) rfl (sq_v rfl (v_geq rfl rfl) rfl (sq_v rfl (v_pickf rfl rfl) rfl ?_)))); refine sq_bd 34 rfl (fun c34 => ?_) (fun c34 => ?_)
        · refine sq_v rfl (v_move rfl) rfl (sq_s rfl rfl (sq_s rfl rfl (sq_s rfl rfl (sq_v rfl (v_pickt rfl rfl) rfl (sq_v rfl (v_move rfl) rfl (sq_s rfl rfl (sq_s rfl rfl (sq_s rfl rfl (sq_v rfl (v_pickt rfl rfl) rfl (sq_end (qs_n ?_))))))))))); refine wp_ct rfl (wp_sc (wp_sq (sq_v rfl (v_build [num 0, num 0, num 0, .slice none 0 0, .slice none 0 0] rfl (by kernel_rfl)) rfl ?_))); refine sq_m 0 rfl rfl (m_store 0 ty_40 rfl rfl rfl rfl (by simp [one_int, one_sl]) rfl (Nat.le_of_ble_eq_true rfl)) rfl ?_; rintro _ _ ⟨rfl, rfl⟩; refine sq_v rfl (v_assign rfl) rfl (sq_end (qs_n (wp_rt (qs_r ?_)))); exact qs_retct 0 rfl ty_40 rfl rfl rfl rfl (fin_e (i := 2) rfl (MergNo (fun h => by first | exact netB_false.1 c20 h.1 | (have := h.2.1; have := h.2.2.1; have := h.2.2.2.1; omega))))
        · refine sq_v rfl (v_move rfl) rfl (sq_v rfl (v_move rfl) rfl (sq_v rfl (v_move rfl) rfl (sq_v rfl (v_geq rfl rfl) rfl (sq_v rfl (v_pickf rfl rfl) rfl ?_)))); refine sq_bd 39 rfl (fun c39 => ?_) (fun c39 => ?_)
          · refine sq_v rfl (v_move rfl) rfl (sq_s rfl rfl (sq_s rfl rfl (sq_s rfl rfl (sq_v rfl (v_pickt rfl rfl) rfl (sq_end (qs_n (wp_ct rfl (wp_sc (wp_sq (sq_v rfl (v_build [num 0, num 0, num 0, .slice none 0 0, .slice none 0 0] rfl (by kernel_rfl)) rfl ?_)))))))))); refine sq_m 0 rfl rfl (m_store 0 ty_40 rfl rfl rfl rfl (by simp [one_int, one_sl]) rfl (Nat.le_of_ble_eq_true rfl)) rfl ?_; rintro _ _ ⟨rfl, rfl⟩; refine sq_v rfl (v_assign rfl) rfl (sq_end (qs_n (wp_rt (qs_r ?_)))); exact qs_retct 0 rfl ty_40 rfl rfl rfl rfl (fin_e (i := 2) rfl (MergNo (fun h => by first | exact netB_false.1 c20 h.1 | (have := h.2.1; have := h.2.2.1; have := h.2.2.2.1; omega))))
          · refine sq_v rfl (v_move rfl) rfl (sq_v rfl (v_move rfl) rfl (sq_v rfl (v_move rfl) rfl (sq_v rfl (v_eql rfl rfl) rfl (sq_v rfl (v_pickf rfl rfl) rfl (sq_end (qs_n ?_)))))); refine wp_cd rfl (fun c44 => ?_) (fun c44 => ?_)
            · refine wp_sc (wp_sq (sq_v rfl (v_build [num 0, num 0, num 0, .slice none 0 0, .slice none 0 0] rfl (by kernel_rfl)) rfl ?_)); refine sq_m 0 rfl rfl (m_store 0 ty_40 rfl rfl rfl rfl (by simp [one_int, one_sl]) rfl (Nat.le_of_ble_eq_true rfl)) rfl ?_; rintro _ _ ⟨rfl, rfl⟩; refine sq_v rfl (v_assign rfl) rfl (sq_end (qs_n (wp_rt (qs_r ?_)))); exact qs_retct 0 rfl ty_40 rfl rfl rfl rfl (fin_e (i := 2) rfl (MergNo (fun h => by first | exact netB_false.1 c20 h.1 | (have := h.2.1; have := h.2.2.1; have := h.2.2.2.1; omega))))
            · refine wp_sk (qs_n (wp_sc (wp_sq ?_))); have hnet := netB_true.1 c20; have h12 := hnet.2.1; have hl12 : ∀ t ∈ ts, t.l.length ≤ 12 := (fun t ht => (net_axes hnet t ht).1); have hno := net_open hnet; refine sq_v rfl (v_move rfl) rfl (sq_v rfl (v_move rfl) rfl (sq_v rfl (v_min rfl rfl) rfl (sq_v rfl (v_move rfl) rfl (sq_v rfl (v_move rfl) rfl (sq_v rfl (v_max rfl rfl) rfl (sq_v rfl (v_assign rfl) rfl (sq_v rfl (v_assign rfl) rfl (sq_end (qs_n (wp_sc ?_)))))))))); refine wp_ra (σ := Nat × PH × PH × Value × Value × Value × Value) 22 (fun z_ => IntsO (needI ts op i.toNat j.toNat ts.length) z_.2.2.2.1 z_.2.2.1 ∧ TriO (pairR k p n (mgA ts i j) (mgB ts i j) (needI ts op i.toNat j.toNat ts.length)) z_.2.2.2.2.1 z_.2.2.2.2.2.1 z_.2.2.2.2.2.2 z_.2.1) (fun z_ => [(3, .pointer (some ⟨b3, 0, none⟩)), (6, .pointer (some ⟨b6, 0, none⟩)), (7, .bool false), (9, num (min i j)), (10, num (max i j)), (11, .pointer (some ⟨z_.1, 0, none⟩)), (12, .bool (pairB k p n (mgA ts i j) (mgB ts i j) (needI ts op i.toNat j.toNat ts.length))), (44, .bool (decide ((i : Int) = j)))]) (fun z_ => [box z_.1 [z_.2.2.2.2.1, z_.2.2.2.2.2.1, z_.2.2.2.2.2.2] 34, z_.2.1, z_.2.2.1, box b6 [num 0, num 0, num 0, .slice none 0 0, .slice none 0 0] 40, box b3 [num k, num p, num n, vt, vo] 40, hp w]) mixed_ok (by kernel_rfl) ?_ ?_
              · refine rak_of (rak_v (i := 0) (by kernel_rfl) rfl rfl (v_fieldAddr fd_40_0 ty_37 (by decide) rfl) rfl (rak_v (i := 1) (by kernel_rfl) rfl rfl (v_loadNB 1 ty_37 rfl rfl rfl rfl) rfl (rak_v (i := 2) (by kernel_rfl) rfl rfl (v_fieldAddr fd_40_1 ty_38 (by decide) rfl) rfl (rak_v (i := 3) (by kernel_rfl) rfl rfl (v_loadB 1 ty_38 rfl rfl rfl) rfl (rak_v (i := 4) (by kernel_rfl) rfl rfl (v_move rfl) rfl ?_))))); obtain ⟨t58, a58, b58, c58, ht58, hcs58, rl58, rd58, rx58⟩ := hc_r ((min i j : Int).toNat) (by first | omega | (rw [List.length_set]; omega)); refine rak_v (i := 5) (by kernel_rfl) rfl rfl (v_indexAddr Tryz.underlying38 ty_34 rfl rfl rr_r (by decide) (by omega) (by omega)) rfl ?_; refine rak_v (i := 6) (by kernel_rfl) rfl rfl (v_loadNE 2 ty_34 rfl rfl rr_r (by have := rr_r.1; omega) rfl hcs58) rfl ?_; refine rak_v (i := 7) (by kernel_rfl) rfl rfl (v_fieldAddr fd_40_1 ty_38 (by decide) rfl) rfl (rak_v (i := 8) (by kernel_rfl) rfl rfl (v_loadB 1 ty_38 rfl rfl rfl) rfl (rak_v (i := 9) (by kernel_rfl) rfl rfl (v_move rfl) rfl ?_)); obtain ⟨t63, a63, b63, c63, ht63, hcs63, rl63, rd63, rx63⟩ := hc_r ((max i j : Int).toNat) (by first | omega | (rw [List.length_set]; omega)); refine rak_v (i := 10) (by kernel_rfl) rfl rfl (v_indexAddr Tryz.underlying38 ty_34 rfl rfl rr_r (by decide) (by omega) (by omega)) rfl ?_; refine rak_v (i := 11) (by kernel_rfl) rfl rfl (v_loadNE 2 ty_34 rfl rfl rr_r (by have := rr_r.1; omega) rfl hcs63) rfl ?_; have e58 : t58 = mgA ts i j := (by simp only [mgA, mgLo, List.getD, ht58, Option.getD_some]); have e63 : t63 = mgB ts i j := (by simp only [mgB, mgHi, List.getD, ht63, Option.getD_some]); subst e58; subst e63; refine rak_v (i := 12) (by kernel_rfl) rfl rfl (v_loadNB 1 ty_40 rfl rfl rfl rfl) rfl (rak_v (i := 13) (by kernel_rfl) rfl rfl (v_move rfl) rfl (rak_v (i := 14) (by kernel_rfl) rfl rfl (v_move rfl) rfl ?_)); refine rak_2 (i := 15) (j := 20) (by kernel_rfl) ?_ ?_
                · refine rok_x rfl rfl (x_call rfl en_196 (fun w s => ct_i_labelsElsewhere _ _ _ _ _ _ _ _ _ w (r.mono (s.get 2 rfl)) (r'.mono (s.get 2 rfl)) (by first | assumption | omega) (by first | assumption | omega) (by first | assumption | omega) (by first | assumption | omega))) rfl ?_; rintro v68 h68 r68; refine rak_2 (i := 16) (j := 20) (by kernel_rfl) ?_ ?_
                  · refine rok_x rfl rfl (x_call rfl en_73 (fun w s => ct_i_ContractPair _ _ _ _ _ _ _ _ _ _ _ _ _ w (rl58.mono (s.get 3 rfl)) (rd58.mono (s.get 3 rfl)) (rx58.mono (s.get 3 rfl)) (rl63.mono (s.get 3 rfl)) (rd63.mono (s.get 3 rfl)) (rx63.mono (s.get 3 rfl)) (r68.toR.mono (s.get 0 rfl)))) rfl ?_; rintro _ h69 ⟨va69, vb69, vc69, rfl, o69⟩; refine rak_rk [(17, true), (18, true), (19, true), (20, false), (21, false), (22, false)] (by kernel_rfl) rfl (rk_v rfl rfl (v_move rfl) rfl (rk_v rfl rfl (v_extract rfl rfl) rfl (rk_v rfl rfl (v_extract rfl rfl) rfl ?_))); refine rk_xb rfl rfl (x_alloc ty_34 rfl) rfl ?_; rintro _ _ ⟨b11, rfl, rfl⟩; refine rk_m 0 rfl rfl rfl rfl (m_store 0 ty_34 rfl rfl rfl rfl (by simp [o69.toR.1.sl.one, o69.toR.2.1.sl.one, o69.toR.2.2.sl.one]) rfl (Nat.le_of_ble_eq_true rfl)) rfl ?_; rintro _ _ ⟨rfl, rfl⟩; refine rk_fv rfl rfl (v_assign rfl) rfl (rk_end ?_); exact qs_mid (b11, h69, h68, v68, va69, vb69, vc69) ⟨r68, o69⟩ ⟨rfl, rfl, rfl, rfl, rfl, rfl, rfl, rfl, trivial⟩ (fun _ s => s.pick [0, 1, 2, 3, 4, 5] (by decide) rfl)
                  · refine rok_xb rfl rfl (x_alloc ty_34 rfl) rfl ?_; rintro _ _ ⟨b11, rfl, rfl⟩; refine rak_rk [(16, false), (17, true), (18, true), (19, true), (21, false), (22, false)] (by kernel_rfl) rfl ?_; refine rk_x rfl rfl (x_call rfl en_73 (fun w s => ct_i_ContractPair _ _ _ _ _ _ _ _ _ _ _ _ _ w (rl58.mono (s.get 4 rfl)) (rd58.mono (s.get 4 rfl)) (rx58.mono (s.get 4 rfl)) (rl63.mono (s.get 4 rfl)) (rd63.mono (s.get 4 rfl)) (rx63.mono (s.get 4 rfl)) (r68.toR.mono (s.get 1 rfl)))) rfl ?_; rintro _ h69 ⟨va69, vb69, vc69, rfl, o69⟩; refine rk_v rfl rfl (v_move rfl) rfl (rk_v rfl rfl (v_extract rfl rfl) rfl (rk_v rfl rfl (v_extract rfl rfl) rfl ?_)); refine rk_m 1 rfl rfl rfl rfl (m_store 1 ty_34 rfl rfl rfl rfl (by simp [o69.toR.1.sl.one, o69.toR.2.1.sl.one, o69.toR.2.2.sl.one]) rfl (Nat.le_of_ble_eq_true rfl)) rfl ?_; rintro _ _ ⟨rfl, rfl⟩; refine rk_fv rfl rfl (v_assign rfl) rfl (rk_end ?_); exact qs_mid (b11, h69, h68, v68, va69, vb69, vc69) ⟨r68, o69⟩ ⟨rfl, rfl, rfl, rfl, rfl, rfl, rfl, rfl, trivial⟩ (fun _ s => s.pick [1, 0, 2, 3, 4, 5] (by decide) rfl)
                · refine rok_xb rfl rfl (x_alloc ty_34 rfl) rfl ?_; rintro _ _ ⟨b11, rfl, rfl⟩; refine rak_rk [(15, false), (16, false), (17, true), (18, true), (19, true), (21, false), (22, false)] (by kernel_rfl) rfl ?_; refine rk_x rfl rfl (x_call rfl en_196 (fun w s => ct_i_labelsElsewhere _ _ _ _ _ _ _ _ _ w (r.mono (s.get 3 rfl)) (r'.mono (s.get 3 rfl)) (by first | assumption | omega) (by first | assumption | omega) (by first | assumption | omega) (by first | assumption | omega))) rfl ?_; rintro v68 h68 r68; refine rk_x rfl rfl (x_call rfl en_73 (fun w s => ct_i_ContractPair _ _ _ _ _ _ _ _ _ _ _ _ _ w (rl58.mono (s.get 4 rfl)) (rd58.mono (s.get 4 rfl)) (rx58.mono (s.get 4 rfl)) (rl63.mono (s.get 4 rfl)) (rd63.mono (s.get 4 rfl)) (rx63.mono (s.get 4 rfl)) (r68.toR.mono (s.get 0 rfl)))) rfl ?_; rintro _ h69 ⟨va69, vb69, vc69, rfl, o69⟩; refine rk_v rfl rfl (v_move rfl) rfl (rk_v rfl rfl (v_extract rfl rfl) rfl (rk_v rfl rfl (v_extract rfl rfl) rfl ?_)); refine rk_m 2 rfl rfl rfl rfl (m_store 2 ty_34 rfl rfl rfl rfl (by simp [o69.toR.1.sl.one, o69.toR.2.1.sl.one, o69.toR.2.2.sl.one]) rfl (Nat.le_of_ble_eq_true rfl)) rfl ?_; rintro _ _ ⟨rfl, rfl⟩; refine rk_fv rfl rfl (v_assign rfl) rfl (rk_end ?_); exact qs_mid (b11, h69, h68, v68, va69, vb69, vc69) ⟨r68, o69⟩ ⟨rfl, rfl, rfl, rfl, rfl, rfl, rfl, rfl, trivial⟩ (fun _ s => s.pick [2, 0, 1, 3, 4, 5] (by decide) rfl)
              · rintro ⟨b11, h69, h68, v68, va69, vb69, vc69⟩ ⟨r68, o69⟩; dsimp only at r68 o69 ⊢; refine qs_n (wp_sc (wp_sc (wp_sq (sq_v rfl (v_move rfl) rfl (sq_v rfl (v_not rfl) rfl (sq_end ?_)))))); have e69 := pairR_congr (k := k) (p := p) (n := n) (t := mgA ts i j) (u := mgB ts i j) (fun x => need_iff (ts := ts) (op := op) (i := i.toNat) (j := j.toNat) (m := ts.length) x); rw [e69.1] at o69; refine qs_n ?_; refine wp_cn _ rfl (fun c73 => ?_) (fun c73 => ?_)
                · refine wp_sc (wp_sq (sq_v rfl (v_build [num 0, num 0, num 0, .slice none 0 0, .slice none 0 0] rfl (by kernel_rfl)) rfl ?_)); refine sq_m 3 rfl rfl (m_store 3 ty_40 rfl rfl rfl rfl (by simp [one_int, one_sl]) rfl (Nat.le_of_ble_eq_true rfl)) rfl ?_; rintro _ _ ⟨rfl, rfl⟩; refine sq_v rfl (v_assign rfl) rfl (sq_end (qs_n (wp_rt (qs_r ?_)))); exact qs_retct 3 rfl ty_40 rfl rfl rfl rfl (fin_e (i := 5) rfl (MergNo (fun h => pairB_false.1 c73 (e69.2.2.2 h.2.2.2.2))))
                · refine wp_sk (qs_n (wp_sc ?_)); refine wp_ra (σ := Nat × PH × Value) 7 (fun z_ => IntsO op z_.2.2 z_.2.1) (fun z_ => [(3, .pointer (some ⟨b3, 0, none⟩)), (6, .pointer (some ⟨b6, 0, none⟩)), (7, .bool false), (9, num (min i j)), (10, num (max i j)), (11, .pointer (some ⟨b11, 0, none⟩)), (13, .pointer (some ⟨z_.1, 0, none⟩)), (44, .bool (decide ((i : Int) = j))), (73, .bool (!(pairB k p n (mgA ts i j) (mgB ts i j) (needI ts op i.toNat j.toNat ts.length))))]) (fun z_ => [box z_.1 [num k, num p, num n, .slice none 0 0, z_.2.2] 40, z_.2.1, box b11 [va69, vb69, vc69] 34, h69, h68, box b6 [num 0, num 0, num 0, .slice none 0 0, .slice none 0 0] 40, box b3 [num k, num p, num n, vt, vo] 40, hp w]) mixed_ok (by kernel_rfl) ?_ ?_
                  · refine ra_v (i := 0) (by kernel_rfl) rfl rfl (v_fieldAddr fd_40_0 ty_37 (by decide) rfl) rfl (ra_v (i := 1) (by kernel_rfl) rfl rfl (v_loadNB 4 ty_37 rfl rfl rfl rfl) rfl (ra_v (i := 2) (by kernel_rfl) rfl rfl (v_fieldAddr fd_40_2 ty_25 (by decide) rfl) rfl (ra_v (i := 3) (by kernel_rfl) rfl rfl (v_loadB 4 ty_25 rfl rfl rfl) rfl ?_))); refine ra_2 (i := 4) (j := 6) (by kernel_rfl) ?_ ?_
                    · refine ro_x rfl rfl (x_call rfl en_132 (fun w s => ct_i_copyInts _ _ w (r'.mono (s.get 5 rfl)) (by first | assumption | omega))) rfl ?_; rintro v79 h79 r79; refine ra_rj [(5, true), (6, false), (7, false)] (by kernel_rfl) rfl ?_; refine rj_v rfl rfl (v_build [num k, num p, num n, .slice none 0 0, v79] rfl (by obtain ⟨_, _, rfl⟩ := r79.toR.sl; kernel_rfl)) rfl ?_; refine rj_x rfl rfl (x_alloc ty_40 rfl) rfl ?_; rintro _ _ ⟨b13, rfl, rfl⟩; refine rj_m 0 rfl rfl rfl rfl (m_store 0 ty_40 rfl rfl rfl rfl (by simp [one_int, one_sl, r79.toR.sl.one]) rfl (Nat.le_of_ble_eq_true rfl)) rfl ?_; rintro _ _ ⟨rfl, rfl⟩; refine rj_end ?_; exact qs_mid (b13, h79, v79) (r79) ⟨rfl, rfl, rfl, rfl, rfl, rfl, rfl, rfl, rfl, trivial⟩ (fun _ s => s.pick [0, 1, 2, 3, 4, 5, 6, 7] (by decide) rfl)
                    · refine ro_x rfl rfl (x_alloc ty_40 rfl) rfl ?_; rintro _ _ ⟨b13, rfl, rfl⟩; refine ra_rj [(4, false), (5, true), (7, false)] (by kernel_rfl) rfl ?_; refine rj_x rfl rfl (x_call rfl en_132 (fun w s => ct_i_copyInts _ _ w (r'.mono (s.get 6 rfl)) (by first | assumption | omega))) rfl ?_; rintro v79 h79 r79; refine rj_v rfl rfl (v_build [num k, num p, num n, .slice none 0 0, v79] rfl (by obtain ⟨_, _, rfl⟩ := r79.toR.sl; kernel_rfl)) rfl ?_; refine rj_m 1 rfl rfl rfl rfl (m_store 1 ty_40 rfl rfl rfl rfl (by simp [one_int, one_sl, r79.toR.sl.one]) rfl (Nat.le_of_ble_eq_true rfl)) rfl ?_; rintro _ _ ⟨rfl, rfl⟩; refine rj_end ?_; exact qs_mid (b13, h79, v79) (r79) ⟨rfl, rfl, rfl, rfl, rfl, rfl, rfl, rfl, rfl, trivial⟩ (fun _ s => s.pick [1, 0, 2, 3, 4, 5, 6, 7] (by decide) rfl)
                  · rintro ⟨b13, h79, v79⟩ r79; dsimp only at r79 ⊢; refine qs_n (wp_sc (wp_sc (wp_sq (sq_v rfl (v_fieldAddr fd_40_1 ty_38 (by decide) rfl) rfl (sq_v rfl (v_loadB 6 ty_38 rfl rfl rfl) rfl (sq_v rfl (v_len Tryz.underlying38 rfl r.sl) rfl (sq_v rfl (v_move rfl) rfl (sq_end (qs_n (wp_bl ?_)))))))))); refine wp_lp (σ := Nat × Value × PH × (List Value) × PH × PH) (fun z_ => [(6, .pointer (some ⟨b6, 0, none⟩)), (7, .bool false), (9, num (min i j)), (10, num (max i j)), (11, .pointer (some ⟨b11, 0, none⟩)), (13, .pointer (some ⟨b13, 0, none⟩)), (82, vt), (83, num ts.length), (84, num z_.1)]) (fun z_ => [z_.2.2.2.2.1, z_.2.2.1, box b13 [num k, num p, num n, z_.2.1, v79] 40, h79, box b11 [va69, vb69, vc69] 34, z_.2.2.2.2.2, h68, box b6 [num 0, num 0, num 0, .slice none 0 0, .slice none 0 0] 40, box b3 [num k, num p, num n, vt, vo] 40, hp w]) (fun z_ => z_.1 ≤ ts.length ∧ ((z_.1 : Int) ≤ min i j → TriO (mergT k p n ts op i j) va69 vb69 vc69 z_.2.2.2.2.2) ∧ OwnH (flat (mergL k p n ts op i j z_.1)) z_.2.2.2.1 z_.2.2.2.2.1 ∧ RowO (34) z_.2.2.2.1 (mergL k p n ts op i j z_.1).length 3 z_.2.1 z_.2.2.1) (fun z_ => ts.length - z_.1) (0, .slice none 0 0, emp, [], emp, h69) (⟨by (try dsimp only); omega, fun _ => o69, OwnH.nil, RowO.nil⟩) ⟨rfl, rfl, rfl, rfl, rfl, rfl, rfl, rfl, (by first | rfl | exact ksub rfl (by first | omega | (simp; done) | (simp; omega))), trivial⟩ (fun _ s => (emp_sat (emp_sat s))) ?_; rintro ⟨m, lx, ha, cs, hl, hq⟩ ⟨hm, hmg, hlv, rr⟩; dsimp only at hm hmg hlv rr ⊢; have hmp : mergP k p n ts op i j := ⟨hnet, by omega, by omega, by omega, e69.2.2.1 (pairB_true.1 c73)⟩
                    have hml := merg_len (k := k) (p := p) (n := n) (ts := ts) (op := op) (i := i) (j := j) m; refine wp_sc (wp_sq (sq_v rfl (v_lss rfl rfl) rfl (sq_end (qs_n (wp_sc ?_))))); refine wp_cd rfl (fun c85 => ?_) (fun c85 => ?_)
                    · refine wp_sk (qs_n (wp_sc (wp_bl (wp_sc (wp_sq (sq_v rfl (v_move rfl) rfl ?_)))))); obtain ⟨t87, a87, b87, c87, ht87, hcs87, rl87, rd87, rx87⟩ := hc_r (m) (by first | omega | (rw [List.length_set]; omega)); refine sq_v rfl (v_indexAddr Tryz.underlying38 ty_34 rfl rfl rr_r (by decide) (by omega) (by omega)) rfl ?_; refine sq_v rfl (v_loadNE 9 ty_34 rfl rfl rr_r (by have := rr_r.1; omega) rfl hcs87) rfl ?_; refine sq_x rfl (x_alloc ty_34 rfl) rfl ?_; rintro _ _ ⟨b15, rfl, rfl⟩; refine sq_v rfl (v_assign rfl) rfl ?_; refine sq_m 0 rfl rfl (m_store 0 ty_34 rfl rfl rfl rfl (by simp [rl87.sl.one, rd87.sl.one, rx87.sl.one]) rfl (Nat.le_of_ble_eq_true rfl)) rfl ?_; rintro _ _ ⟨rfl, rfl⟩; refine sq_end ?_; have hl87 := ten_len (hnet.2.2.1 t87 (List.mem_of_getElem? ht87)); refine qs_n (wp_sc (wp_sq (sq_v rfl (v_move rfl) rfl (sq_v rfl (v_move rfl) rfl (sq_v rfl (v_eql rfl rfl) rfl (sq_end (qs_n ?_))))))); refine wp_cd rfl (fun c91 => ?_) (fun c91 => ?_)
                      · refine wp_sq ?_; have q1 := (hmg (by omega)).toR; refine sq_v rfl (v_fieldAddr fd_40_1 ty_38 (by decide) rfl) rfl (sq_v rfl (v_loadB 3 ty_38 rfl rfl rfl) rfl (sq_v rfl (v_loadNB 5 ty_34 rfl rfl rfl rfl) rfl ?_)); refine sq_x rfl (x_buildS [.agg [va69, vb69, vc69].toArray] Tryz.underlying38 ty_34 (by decide) rfl rfl rfl (by decide) (by decide) (by intro v hv; simp at hv; subst hv; rfl)) rfl ?_; intro v95 h95 (r95 : RowO 34 [va69, vb69, vc69] 1 3 v95 h95); refine sq_m 3 rfl rfl (m_append 3 0 Tryz.underlying38 ty_34 rfl rfl (by decide) rfl rfl rfl rr rfl r95.toR (by simp [q1.1.sl.one, q1.2.1.sl.one, q1.2.2.sl.one]) (by unfold maxLen; omega) (by omega)) rfl ?_; intro v96 h_r96 (r96 : RowO 34 (cs ++ [va69, vb69, vc69]) ((mergL k p n ts op i j m).length + 1) 3 v96 h_r96); refine sq_v rfl (v_fieldAddr fd_40_1 ty_38 (by decide) rfl) rfl ?_; refine sq_m 4 rfl rfl (m_store1 4 ty_38 rfl rfl r96.toR.sl.one rfl (Nat.le_of_ble_eq_true rfl)) rfl ?_; rintro _ _ ⟨rfl, rfl⟩; refine sq_end (qs_bn (qs_n (wp_sq ?_))); refine sq_v rfl (v_add rfl rfl ((by unfold I64; omega))) rfl ?_; refine sq_v rfl (v_move rfl) rfl (sq_end ?_); refine qs_dj 2 7 rfl rfl rfl (fun hdj => ?_); exact qs_bk (m + 1, v96, h_r96, cs ++ [va69, vb69, vc69], PUn hl hq, emp) ⟨by (try dsimp only); omega, fun h => by omega, by (try dsimp only); rw [merg_lo (by omega) (by omega) (by omega)]; exact hlv.snoc (t := mergT k p n ts op i j) (hmg (by omega)) hdj, by (try dsimp only); rw [merg_lo (by omega) (by omega) (by omega), List.length_append]; exact r96⟩ (by simp only; omega) ⟨rfl, rfl, rfl, rfl, rfl, rfl, rfl, rfl, (by first | rfl | exact ksub rfl (by first | omega | (simp; done) | (simp; omega))), trivial⟩ (fun _ s => (emp_sat (Sat.merge (s.pick (HS' := [hl, hq, h_r96, box b13 [num k, num p, num n, v96, v79] 40, h79, box b11 [va69, vb69, vc69] 34, h68, box b6 [num 0, num 0, num 0, .slice none 0 0, .slice none 0 0] 40, box b3 [num k, num p, num n, vt, vo] 40, hp w]) [2, 7, 3, 4, 5, 6, 8, 9, 10, 11] (by decide) rfl))).pick [1, 2, 3, 4, 5, 0, 6, 7, 8, 9] (by decide) rfl)
                      · refine wp_sc (wp_sq (sq_v rfl (v_move rfl) rfl (sq_v rfl (v_move rfl) rfl (sq_v rfl (v_neq rfl rfl) rfl (sq_end (qs_n ?_)))))); refine wp_cd rfl (fun c100 => ?_) (fun c100 => ?_)
                        · refine wp_rj 5 [(0, true), (1, true), (2, true), (3, false), (4, false), (5, false), (6, false), (7, false)] mixed_ok (by kernel_rfl) (rj_v rfl rfl (v_fieldAddr fd_40_1 ty_38 (by decide) rfl) rfl (rj_v rfl rfl (v_loadB 3 ty_38 rfl rfl rfl) rfl (rj_v rfl rfl (v_loadNB 0 ty_34 rfl rfl rfl rfl) rfl ?_))); refine rj_x rfl rfl (x_call rfl en_194 (fun w s => ct_i_copyTensor _ _ _ _ w (rl87.mono (s.get 10 rfl)) (rd87.mono (s.get 10 rfl)) (rx87.mono (s.get 10 rfl)) (by first | assumption | omega))) rfl ?_; rintro _ h104 ⟨va104, vb104, vc104, rfl, o104⟩; refine rj_x rfl rfl (x_buildS [.agg [va104, vb104, vc104].toArray] Tryz.underlying38 ty_34 (by decide) rfl rfl rfl (by decide) (by decide) (by intro v hv; simp at hv; subst hv; rfl)) rfl ?_; intro v105 h105 (r105 : RowO 34 [va104, vb104, vc104] 1 3 v105 h105); refine rj_m 4 rfl rfl rfl rfl (m_append 4 0 Tryz.underlying38 ty_34 rfl rfl (by decide) rfl rfl rfl rr rfl r105.toR (by simp [o104.toR.1.sl.one, o104.toR.2.1.sl.one, o104.toR.2.2.sl.one]) (by unfold maxLen; omega) (by omega)) rfl ?_; intro v106 h_r106 (r106 : RowO 34 (cs ++ [va104, vb104, vc104]) ((mergL k p n ts op i j m).length + 1) 3 v106 h_r106); refine rj_fv rfl rfl (v_fieldAddr fd_40_1 ty_38 (by decide) rfl) rfl ?_; refine rj_m 5 rfl rfl rfl rfl (m_store1 5 ty_38 rfl rfl r106.toR.sl.one rfl (Nat.le_of_ble_eq_true rfl)) rfl ?_; rintro _ _ ⟨rfl, rfl⟩; refine rj_end (qs_bn (qs_n (wp_sq ?_))); refine sq_v rfl (v_add rfl rfl ((by unfold I64; omega))) rfl ?_; refine sq_v rfl (v_move rfl) rfl (sq_end ?_); refine qs_dj 3 1 rfl rfl rfl (fun hdj => ?_); exact qs_bk (m + 1, v106, h_r106, cs ++ [va104, vb104, vc104], PUn hl h104, hq) ⟨by (try dsimp only); omega, fun h => hmg (by omega), by (try dsimp only); rw [merg_else ht87 (by omega) (by omega) (by omega)]; exact hlv.snoc o104 hdj, by (try dsimp only); rw [merg_else ht87 (by omega) (by omega) (by omega), List.length_append]; exact r106⟩ (by simp only; omega) ⟨rfl, rfl, rfl, rfl, rfl, rfl, rfl, rfl, (by first | rfl | exact ksub rfl (by first | omega | (simp; done) | (simp; omega))), trivial⟩ (fun _ s => Sat.merge (s.pick [3, 1, 4, 5, 6, 7, 8, 9, 10, 11, 12] (by decide) rfl))
                        · refine wp_sk (qs_bn (qs_n (wp_sq ?_))); refine sq_v rfl (v_add rfl rfl ((by unfold I64; omega))) rfl ?_; refine sq_v rfl (v_move rfl) rfl (sq_end ?_); exact qs_bk (m + 1, lx, ha, cs, hl, hq) ⟨by (try dsimp only); omega, fun h => hmg (by omega), by (try dsimp only); rw [merg_hi (by omega)]; exact hlv, by (try dsimp only); rw [merg_hi (by omega)]; exact rr⟩ (by simp only; omega) ⟨rfl, rfl, rfl, rfl, rfl, rfl, rfl, rfl, (by first | rfl | exact ksub rfl (by first | omega | (simp; done) | (simp; omega))), trivial⟩ (fun _ s => s.pick [1, 2, 3, 4, 5, 6, 7, 8, 9, 10] (by decide) rfl)
                    · refine wp_ex (qs_x (qs_x (qs_bx (qs_n (wp_sc (wp_sq (sq_v rfl (v_loadNB 2 ty_40 rfl rfl rfl rfl) rfl ?_))))))); refine sq_m 7 rfl rfl (m_store 7 ty_40 rfl rfl rfl rfl (by simp [one_int, rr.toR.sl.one, r79.toR.sl.one]) rfl (Nat.le_of_ble_eq_true rfl)) rfl ?_; rintro _ _ ⟨rfl, rfl⟩; refine sq_v rfl (v_assign rfl) rfl (sq_end (qs_n (wp_rt ?_))); have ei : m = ts.length := by omega
                      subst ei; refine qs_close [box b6 _ _, hp w] [ha, h79, hl] (fun _ s => s.pick [7, 9, 1, 3, 0] (by decide) rfl) (fun md => ?_); exact qs_retct 1 rfl ty_40 rfl rfl rfl rfl (fin_t 0 (i := 2) rfl rfl rfl (MergYes ⟨hnet, by omega, by omega, by omega, e69.2.2.1 (pairB_true.1 c73)⟩ (NetO.join rr r79 hlv md)))
  · refine sq_v rfl (v_not rfl) rfl (sq_v rfl (v_move rfl) rfl (sq_s rfl rfl (sq_s rfl rfl (sq_v rfl (v_pickt rfl rfl) rfl (sq_v rfl (v_move rfl) rfl (sq_s rfl rfl (sq_s rfl rfl (sq_v rfl (v_pickt rfl rfl) rfl (sq_v rfl (v_move rfl) rfl ?_))))))))); refine sq_s rfl rfl (sq_s rfl rfl (sq_s rfl rfl (sq_v rfl (v_pickt rfl rfl) rfl (sq_v rfl (v_move rfl) rfl (sq_s rfl rfl (sq_s rfl rfl (sq_s rfl rfl (sq_v rfl (v_pickt rfl rfl) rfl (sq_v rfl (v_move rfl) rfl ?_))))))))); refine sq_s rfl rfl (sq_s rfl rfl (sq_s rfl rfl (sq_v rfl (v_pickt rfl rfl) rfl (sq_end (qs_n (wp_ct rfl (wp_sc (wp_sq (sq_v rfl (v_build [num 0, num 0, num 0, .slice none 0 0, .slice none 0 0] rfl (by kernel_rfl)) rfl ?_))))))))); refine sq_m 0 rfl rfl (m_store 0 ty_40 rfl rfl rfl rfl (by simp [one_int, one_sl]) rfl (Nat.le_of_ble_eq_true rfl)) rfl ?_; rintro _ _ ⟨rfl, rfl⟩; refine sq_v rfl (v_assign rfl) rfl (sq_end (qs_n (wp_rt (qs_r ?_)))); exact qs_retct 0 rfl ty_40 rfl rfl rfl rfl (fin_e (i := 2) rfl (MergNo (fun h => by first | exact netB_false.1 c20 h.1 | (have := h.2.1; have := h.2.2.1; have := h.2.2.2.1; omega))))
end Go.Proofs.YthlmjnihihbckaaGreat
