/-
  Parts of the proof of FnMarginals: laws of heaps, contracts of functions.
  Conditions: none.
-/
import Derived.Test.YtdkgaejmgnojhaaGreatQFnMarginals6
namespace Go.Proofs.YtdkgaejmgnojhaaGreat
set_option maxRecDepth 100000
open Go.RowKit
theorem flat_len_all {α : Type} {e : α → List Int} {W : Nat} : ∀ {l : List α}, (∀ m ∈ l, (e m).length = W) → (l.flatMap e).length = l.length * W
  | [], _ => by simp
  | a :: l, h => by
    have ih := flat_len_all (l := l) fun m hm => h m (by simp [hm]); rw [List.flatMap_cons, List.length_append, ih, h a (by simp), List.length_cons, Nat.add_mul, Nat.one_mul, Nat.add_comm]
theorem elt_flat {α : Type} {e : α → List Int} {W : Nat} {l : List α} (h : ∀ m ∈ l, (e m).length = W) {i : Nat} (hi : i < l.length) : elt (l.flatMap e) W i = e l[i] := by
  have e1 : l = l.take i ++ (l[i] :: l.drop (i + 1)) := by rw [← List.drop_eq_getElem_cons hi, List.take_append_drop]
  have hl : ((l.take i).flatMap e).length = i * W := by
    rw [flat_len_all fun m hm => h m (List.mem_of_mem_take hm), List.length_take, Nat.min_eq_left (by omega)]
  unfold elt
  rw [show ((i : Int) * (W : Int)).toNat = i * W by rw [← Int.natCast_mul, Int.toNat_natCast], Int.toNat_natCast]
  conv => lhs; rw [e1]
  rw [List.flatMap_append, List.drop_left' hl, List.flatMap_cons, List.take_left' (h _ (List.getElem_mem hi))]
end Go.Proofs.YtdkgaejmgnojhaaGreat
namespace Go.Proofs.YtdkgaejmgnojhaaGreat
set_option maxRecDepth 100000
open Go.RowKit
structure RLaw (k p n : Int) : Prop where
  addC : ∀ a b, InR k p n a → InR k p n b → addL k p a b = addL k p b a
  addA : ∀ a b c, InR k p n a → InR k p n b → InR k p n c → addL k p (addL k p a b) c = addL k p a (addL k p b c)
  add0 : ∀ a, InR k p n a → addL k p (zeroL k p n) a = a
  mulC : ∀ a b, InR k p n a → InR k p n b → mulL k p n a b = mulL k p n b a
  mulA : ∀ a b c, InR k p n a → InR k p n b → InR k p n c → mulL k p n (mulL k p n a b) c = mulL k p n a (mulL k p n b c)
  mul1 : ∀ a, InR k p n a → mulL k p n (oneL k p n) a = a
  mul0 : ∀ a, InR k p n a → mulL k p n (zeroL k p n) a = zeroL k p n
  dist : ∀ a b c, InR k p n a → InR k p n b → InR k p n c → mulL k p n (addL k p a b) c = addL k p (mulL k p n a c) (mulL k p n b c)
theorem in_one {k p n : Int} (h7 : k ≠ 7) (h8 : k ≠ 8) {xs : List Int} (h : InR k p n xs) : ∃ a, xs = [a] ∧ 0 ≤ a ∧ a ≤ topI k p n := by
  have hl := h.1; rw [width_1 h7 h8] at hl
  match xs, hl with
  | [a], _ => exact ⟨a, rfl, h.2 a (by simp)⟩
theorem addL_one (k p a b : Int) : addL k p [a] [b] = [add1 k p a b] := rfl
theorem zero_one {k p n : Int} (h4 : k ≠ 4) (h7 : k ≠ 7) (h8 : k ≠ 8) : zeroL k p n = [0] := by
  rw [zeroL, if_neg h4, width_1 h7 h8]; rfl
theorem cap_mul {x p c : Int} (hx : 0 ≤ x) (hc : 0 ≤ c) (hp : 1 ≤ p) : min (min x p * c) p = min (x * c) p := by
  by_cases h : x ≤ p
  · rw [Int.min_eq_left h]
  · rw [Int.min_eq_right (show p ≤ x by omega)]
    by_cases h0 : c = 0
    · subst h0; simp
    · have h1 : p * 1 ≤ p * c := Int.mul_le_mul_of_nonneg_left (by omega) (by omega); have h2 : x * 1 ≤ x * c := Int.mul_le_mul_of_nonneg_left (by omega) hx
      omega
theorem law_lat {k p n : Int} (hk : k = 1 ∨ k = 5) (h1 : k = 1 → topI k p n = 1) : RLaw k p n := by
  have h7 : k ≠ 7 := by omega
  have h8 : k ≠ 8 := by omega
  have hz : zeroL k p n = [0] := zero_one (by omega) h7 h8; have ho : oneL k p n = [topI k p n] := by
    unfold oneL
    rw [if_neg (by omega)]
    rcases hk with rfl | rfl
    · rw [if_neg (by omega), width_1 h7 h8, h1 rfl]; rfl
    · rw [if_pos (.inl rfl)]
  have ea : ∀ a b : Int, addL k p [a] [b] = [max a b] := fun a b => by rw [addL_one, add1, if_pos hk]
  have em : ∀ a b : Int, mulL k p n [a] [b] = [min a b] := fun a b => by rw [mulL, if_pos hk]; rfl
  refine ⟨?_, ?_, ?_, ?_, ?_, ?_, ?_, ?_⟩
  · intro a b ha hb; obtain ⟨a, rfl, ha⟩ := in_one h7 h8 ha; obtain ⟨b, rfl, hb⟩ := in_one h7 h8 hb; rw [ea, ea, Int.max_comm]
  · intro a b c ha hb hc; obtain ⟨a, rfl, ha⟩ := in_one h7 h8 ha; obtain ⟨b, rfl, hb⟩ := in_one h7 h8 hb; obtain ⟨c, rfl, hc⟩ := in_one h7 h8 hc; rw [ea, ea, ea, ea]; congr 1; omega
  · intro a ha; obtain ⟨a, rfl, ha⟩ := in_one h7 h8 ha; rw [hz, ea]; congr 1; omega
  · intro a b ha hb; obtain ⟨a, rfl, ha⟩ := in_one h7 h8 ha; obtain ⟨b, rfl, hb⟩ := in_one h7 h8 hb; rw [em, em, Int.min_comm]
  · intro a b c ha hb hc; obtain ⟨a, rfl, ha⟩ := in_one h7 h8 ha; obtain ⟨b, rfl, hb⟩ := in_one h7 h8 hb; obtain ⟨c, rfl, hc⟩ := in_one h7 h8 hc; rw [em, em, em, em]; congr 1; omega
  · intro a ha; obtain ⟨a, rfl, ha⟩ := in_one h7 h8 ha; rw [ho, em]; congr 1; omega
  · intro a ha; obtain ⟨a, rfl, ha⟩ := in_one h7 h8 ha; rw [hz, em]; congr 1; omega
  · intro a b c ha hb hc; obtain ⟨a, rfl, ha⟩ := in_one h7 h8 ha; obtain ⟨b, rfl, hb⟩ := in_one h7 h8 hb; obtain ⟨c, rfl, hc⟩ := in_one h7 h8 hc; rw [ea, em, em, em, ea]; congr 1; omega
theorem law_cap {p : Int} (hp : 1 ≤ p) (n : Int) : RLaw 3 p n := by
  have h7 : (3 : Int) ≠ 7 := by omega
  have h8 : (3 : Int) ≠ 8 := by omega
  have hz : zeroL 3 p n = [0] := zero_one (by omega) h7 h8; have ho : oneL 3 p n = [1] := rfl; have ht : topI 3 p n = p := rfl; have ea : ∀ a b : Int, addL 3 p [a] [b] = [min (a + b) p] := fun a b => rfl; have em : ∀ a b : Int, mulL 3 p n [a] [b] = [min (a * b) p] := fun a b => by simp [mulL]
  refine ⟨?_, ?_, ?_, ?_, ?_, ?_, ?_, ?_⟩
  · intro a b ha hb; obtain ⟨a, rfl, ja⟩ := in_one h7 h8 ha; obtain ⟨b, rfl, jb⟩ := in_one h7 h8 hb; rw [ea, ea, Int.add_comm]
  · intro a b c ha hb hc; obtain ⟨a, rfl, ja⟩ := in_one h7 h8 ha; obtain ⟨b, rfl, jb⟩ := in_one h7 h8 hb; obtain ⟨c, rfl, jc⟩ := in_one h7 h8 hc; rw [ea, ea, ea, ea]; congr 1; omega
  · intro a ha; obtain ⟨a, rfl, ja⟩ := in_one h7 h8 ha; rw [hz, ea]; congr 1; omega
  · intro a b ha hb; obtain ⟨a, rfl, ja⟩ := in_one h7 h8 ha; obtain ⟨b, rfl, jb⟩ := in_one h7 h8 hb; rw [em, em, Int.mul_comm]
  · intro a b c ha hb hc; obtain ⟨a, rfl, ja⟩ := in_one h7 h8 ha; obtain ⟨b, rfl, jb⟩ := in_one h7 h8 hb; obtain ⟨c, rfl, jc⟩ := in_one h7 h8 hc; rw [em, em, em, em, cap_mul (Int.mul_nonneg ja.1 jb.1) jc.1 hp, Int.mul_comm a (min (b * c) p), cap_mul (Int.mul_nonneg jb.1 jc.1) ja.1 hp, Int.mul_assoc, Int.mul_comm (b * c) a]
  · intro a ha; obtain ⟨a, rfl, ja⟩ := in_one h7 h8 ha; rw [ho, em]; congr 1; omega
  · intro a ha; obtain ⟨a, rfl, ja⟩ := in_one h7 h8 ha; rw [hz, em]; congr 1; omega
  · intro a b c ha hb hc; obtain ⟨a, rfl, ja⟩ := in_one h7 h8 ha; obtain ⟨b, rfl, jb⟩ := in_one h7 h8 hb; obtain ⟨c, rfl, jc⟩ := in_one h7 h8 hc; rw [ea, em, em, em, ea, cap_mul (by omega) jc.1 hp, Int.add_mul]; have h1 := Int.mul_nonneg ja.1 jc.1; have h2 := Int.mul_nonneg jb.1 jc.1
    congr 1; omega
theorem law_min {p : Int} (hp : 0 ≤ p) (n : Int) : RLaw 4 p n := by
  have h7 : (4 : Int) ≠ 7 := by omega
  have h8 : (4 : Int) ≠ 8 := by omega
  have hz : zeroL 4 p n = [p] := rfl; have ho : oneL 4 p n = [0] := rfl; have ht : topI 4 p n = p := rfl; have ea : ∀ a b : Int, addL 4 p [a] [b] = [min a b] := fun a b => rfl; have em : ∀ a b : Int, mulL 4 p n [a] [b] = [min (a + b) p] := fun a b => by simp [mulL]
  refine ⟨?_, ?_, ?_, ?_, ?_, ?_, ?_, ?_⟩
  · intro a b ha hb; obtain ⟨a, rfl, ha⟩ := in_one h7 h8 ha; obtain ⟨b, rfl, hb⟩ := in_one h7 h8 hb; rw [ea, ea, Int.min_comm]
  · intro a b c ha hb hc; obtain ⟨a, rfl, ha⟩ := in_one h7 h8 ha; obtain ⟨b, rfl, hb⟩ := in_one h7 h8 hb; obtain ⟨c, rfl, hc⟩ := in_one h7 h8 hc; rw [ea, ea, ea, ea]; congr 1; omega
  · intro a ha; obtain ⟨a, rfl, ha⟩ := in_one h7 h8 ha; rw [hz, ea]; congr 1; omega
  · intro a b ha hb; obtain ⟨a, rfl, ha⟩ := in_one h7 h8 ha; obtain ⟨b, rfl, hb⟩ := in_one h7 h8 hb; rw [em, em, Int.add_comm]
  · intro a b c ha hb hc; obtain ⟨a, rfl, ha⟩ := in_one h7 h8 ha; obtain ⟨b, rfl, hb⟩ := in_one h7 h8 hb; obtain ⟨c, rfl, hc⟩ := in_one h7 h8 hc; rw [em, em, em, em]; congr 1; omega
  · intro a ha; obtain ⟨a, rfl, ha⟩ := in_one h7 h8 ha; rw [ho, em]; congr 1; omega
  · intro a ha; obtain ⟨a, rfl, ha⟩ := in_one h7 h8 ha; rw [hz, em]; congr 1; omega
  · intro a b c ha hb hc; obtain ⟨a, rfl, ha⟩ := in_one h7 h8 ha; obtain ⟨b, rfl, hb⟩ := in_one h7 h8 hb; obtain ⟨c, rfl, hc⟩ := in_one h7 h8 hc; rw [ea, em, em, em, ea]; congr 1; omega
abbrev El (k p n : Int) := {xs : List Int // InR k p n xs}
noncomputable def smL {k p n : Int} (hr : ringL k p n) (h : RLaw k p n) : Sm (El k p n) where
  zero := ⟨zeroL k p n, zeroL_in hr⟩
  one := ⟨oneL k p n, oneL_in hr⟩
  add a b := ⟨addL k p a.1 b.1, addL_in hr a.2 b.2⟩
  mul a b := ⟨mulL k p n a.1 b.1, mulL_in hr a.2 b.2⟩
  addC a b := Subtype.ext (h.addC _ _ a.2 b.2)
  addA a b c := Subtype.ext (h.addA _ _ _ a.2 b.2 c.2)
  add0 a := Subtype.ext (h.add0 _ a.2)
  mulC a b := Subtype.ext (h.mulC _ _ a.2 b.2)
  mulA a b c := Subtype.ext (h.mulA _ _ _ a.2 b.2 c.2)
  mul1 a := Subtype.ext (h.mul1 _ a.2)
  mul0 a := Subtype.ext (h.mul0 _ a.2)
  dist a b c := Subtype.ext (h.dist _ _ _ a.2 b.2 c.2)
section
variable {k p n : Int} (hr : ringL k p n)
open Classical in
noncomputable def toA (xs : List Int) : El k p n := if h : InR k p n xs then ⟨xs, h⟩ else ⟨zeroL k p n, zeroL_in hr⟩
theorem toA_val {xs : List Int} (h : InR k p n xs) : (toA hr xs).1 = xs := by rw [toA, dif_pos h]
theorem toA_eq {xs : List Int} (h : InR k p n xs) : toA hr xs = ⟨xs, h⟩ := by rw [toA, dif_pos h]
end
end Go.Proofs.YtdkgaejmgnojhaaGreat
namespace Go.Proofs.YtdkgaejmgnojhaaGreat
set_option maxRecDepth 100000
open Go.RowKit
theorem putL_get? {xs ys : List Int} {lo : Nat} (h : lo + ys.length ≤ xs.length) (q : Nat) : (putL xs lo ys)[q]? = if q < lo then xs[q]? else if q < lo + ys.length then ys[q - lo]? else xs[q]? := by
  unfold putL
  have hl : (xs.take lo).length = lo := by simp; omega
  by_cases c1 : q < lo
  · rw [if_pos c1, List.append_assoc, List.getElem?_append_left (by omega), List.getElem?_take, if_pos c1]
  · rw [if_neg c1, List.append_assoc, List.getElem?_append_right (by omega), hl]
    by_cases c2 : q < lo + ys.length
    · rw [if_pos c2, List.getElem?_append_left (by omega)]
    · rw [if_neg c2, List.getElem?_append_right (by omega), List.getElem?_drop]
      congr 1
      omega
theorem elt_get? {xs : List Int} {w i : Int} (q : Nat) : (elt xs w i)[q]? = if q < w.toNat then xs[(i * w).toNat + q]? else none := by
  unfold elt
  rw [List.getElem?_take]
  split
  · rw [List.getElem?_drop]
  · rfl
theorem elt_put {xs ys : List Int} {w i : Int} (hw : 1 ≤ w) (hi : 0 ≤ i) (hy : ys.length = w.toNat) (hl : i * w + w ≤ xs.length) : elt (putL xs (i * w).toNat ys) w i = ys := by
  have h0 : 0 ≤ i * w := Int.mul_nonneg hi (by omega)
  apply List.ext_getElem?
  intro q; rw [elt_get?, putL_get? (by omega)]
  by_cases c : q < w.toNat
  · rw [if_pos c, if_neg (by omega), if_pos (by omega), Nat.add_sub_cancel_left]
  · rw [if_neg c, List.getElem?_eq_none (by omega)]
theorem elt_put_ne {xs ys : List Int} {w i j : Int} (hw : 1 ≤ w) (hi : 0 ≤ i) (hj : 0 ≤ j) (hy : ys.length = w.toNat) (hl : i * w + w ≤ xs.length) (hne : i ≠ j) : elt (putL xs (i * w).toNat ys) w j = elt xs w j := by
  have h0 : 0 ≤ i * w := Int.mul_nonneg hi (by omega); have h1 : 0 ≤ j * w := Int.mul_nonneg hj (by omega)
  apply List.ext_getElem?
  intro q; rw [elt_get?, elt_get?]
  by_cases c : q < w.toNat
  · rw [if_pos c, if_pos c, putL_get? (by omega)]
    rcases Int.lt_or_gt_of_ne hne with h | h
    · have := Int.mul_le_mul_of_nonneg_right (show i + 1 ≤ j by omega) (show 0 ≤ w by omega); rw [Int.add_mul, Int.one_mul] at this; rw [if_neg (by omega), if_neg (by omega)]
    · have := Int.mul_le_mul_of_nonneg_right (show j + 1 ≤ i by omega) (show 0 ≤ w by omega); rw [Int.add_mul, Int.one_mul] at this; rw [if_pos (by omega)]
  · rw [if_neg c, if_neg c]
theorem elt_rep {z : List Int} {W P : Nat} (hz : z.length = W) {i : Nat} (hi : i < P) : elt (List.replicate P z).flatten W i = z := by
  have e : (List.replicate P z).flatten = (List.range P).flatMap fun _ => z := by
    rw [List.flatMap_def, List.map_const', List.length_range]
  rw [e, elt_flat (e := fun _ => z) (l := List.range P) (fun _ _ => hz) (by simpa using hi)]
theorem offL_inj : ∀ {ds is js : List Int}, (∀ d ∈ ds, 1 ≤ d) → idxIn ds is → idxIn ds js → offL ds is = offL ds js → is = js
  | [], [], [], _, _, _, _ => rfl
  | [], i :: is, _, _, h, _, _ => by have := h.1; simp at this
  | [], [], j :: js, _, _, h, _ => by have := h.1; simp at this
  | d :: ds, [], _, _, h, _, _ => by have := h.1; simp at this
  | d :: ds, i :: is, [], _, _, h, _ => by have := h.1; simp at this
  | d :: ds, i :: is, j :: js, hd, hi, hj, he => by
    have hd' : ∀ x ∈ ds, 1 ≤ x := fun x hx => hd x (by simp [hx]); have tl : ∀ {v : Int} {vs : List Int}, idxIn (d :: ds) (v :: vs) → idxIn ds vs := fun {v vs} h => ⟨by have := h.1; simpa using this, fun q hq => by
      have := h.2 (q + 1) (by simp; omega)
      simpa using this⟩
    have oi := offL_in hd' (tl hi); have oj := offL_in hd' (tl hj); have hP := prodI_one hd'; simp only [offL] at he; have e1 : i = j := by
      rcases Int.lt_trichotomy i j with h | h | h
      · have := Int.mul_le_mul_of_nonneg_right (show i + 1 ≤ j by omega) (show 0 ≤ prodI ds by omega); rw [Int.add_mul, Int.one_mul] at this
        omega
      · exact h
      · have := Int.mul_le_mul_of_nonneg_right (show j + 1 ≤ i by omega) (show 0 ≤ prodI ds by omega); rw [Int.add_mul, Int.one_mul] at this
        omega
    subst e1; rw [offL_inj hd' (tl hi) (tl hj) (by omega)]
theorem idx_map {f a : Int → Int} {K : List Int} (h : ∀ x ∈ K, 0 ≤ a x ∧ a x < f x) : idxIn (K.map f) (K.map a) := ⟨by simp, fun j hj => by
  have hj' : j < K.length := by simpa using hj
  rw [map_getD hj', map_getD hj']; exact h _ (mem_getD hj')⟩
theorem idxAt_of {J ls : List Int} (hs : ∀ l ∈ ls, l ∈ J) (c : Int → Int) : idxAt J (J.map c) ls = ls.map c :=
  List.map_congr_left fun x hx => by
    have hg := findI_get (hs x hx)
    show (J.map c).getD (findI J x).toNat 0 = c x
    rw [map_getD hg.1, hg.2]
section
variable {k p n : Int} (hr : ringL k p n) (hR : RLaw k p n)
/-- What a tensor holds at an assignment. -/
noncomputable def val (t : Ten) (a : Int → Int) : El k p n := toA hr (elt t.x (widthI k n) (offL t.d (t.l.map a)))
theorem toA_add {x y : List Int} (hx : InR k p n x) (hy : InR k p n y) : toA hr (addL k p x y) = (smL hr hR).add (toA hr x) (toA hr y) := by
  rw [toA_eq hr hx, toA_eq hr hy, toA_eq hr (addL_in hr hx hy)]; rfl
theorem toA_mul {x y : List Int} (hx : InR k p n x) (hy : InR k p n y) : toA hr (mulL k p n x y) = (smL hr hR).mul (toA hr x) (toA hr y) := by
  rw [toA_eq hr hx, toA_eq hr hy, toA_eq hr (mulL_in hr hx hy)]; rfl
theorem toA_zero : toA hr (zeroL k p n) = (smL hr hR).zero := by rw [toA_eq hr (zeroL_in hr)]; rfl
variable {t u : Ten} {f : Int → Int} {K : List Int}
theorem pair_elt (h : PairOK k p n t u f) (hk : KeepOK t u f K) {i : Int} (h0 : 0 ≤ i) (h1 : i < prodI (K.map f)) : ∀ M : Nat, toA hr (elt (pairX k p n f t u K M) (widthI k n) i) =
    sumN (smL hr hR) (fun (m : Nat) => if atI f (joinI t.l u.l) K m = i then (smL hr hR).mul (toA hr (elt t.x (widthI k n) (atI f (joinI t.l u.l) t.l m))) (toA hr (elt u.x (widthI k n) (atI f (joinI t.l u.l) u.l m))) else (smL hr hR).zero) M
  | 0 => by
    have hw := width_range hr; have e := elt_rep (z := zeroL k p n) (W := (widthI k n).toNat) (P := (prodI (K.map f)).toNat) (zeroL_len k p n) (i := i.toNat) (by omega); rw [show (((widthI k n).toNat : Nat) : Int) = widthI k n by omega, show ((i.toNat : Nat) : Int) = i by omega] at e; rw [pairX, e, toA_zero hr hR]; rfl
  | M + 1 => by
    have hw := width_range hr; have ih := pair_elt h hk h0 h1 M; have hak := h.at_k hk M; have hal := h.all hk M; have hel := hal.el hr hak.1 hak.2; have hpr := mulL_in hr (h.el_t M) (h.el_u M); have hsum := addL_in hr hel hpr; rw [pairX, sumN, ← ih]
    by_cases c : atI f (joinI t.l u.l) K M = i
    · rw [if_pos c, c]; rw [c] at hsum hel; rw [elt_put (by omega) h0 hsum.1 (by have := h.fits hk M; rw [c] at this; exact this), toA_add hr hR hel hpr, toA_mul hr hR (h.el_t M) (h.el_u M)]
    · rw [if_neg c, Sm.add0', elt_put_ne (by omega) hak.1 h0 hsum.1 (h.fits hk M) c]
theorem pair_val (h : PairOK k p n t u f) (hk : KeepOK t u f K) {a : Int → Int} (ha : ∀ x ∈ K, 0 ≤ a x ∧ a x < f x) :
    val hr (pairT k p n f t u K) a = sumO (smL hr hR) f ((joinI t.l u.l).filter fun x => decide (x ∉ K)) (fun b => (smL hr hR).mul (val hr t b) (val hr u b)) a := by
  have hdK : ∀ d ∈ K.map f, 1 ≤ d := fun d hd => (map_dim h.dim hk.sub d hd).1; have hia := idx_map (f := f) ha; have hoa := offL_in hdK hia; have hsT : ∀ l ∈ t.l, l ∈ joinI t.l u.l := fun l hl => mem_joinI.2 (.inl hl); have hsU : ∀ l ∈ u.l, l ∈ joinI t.l u.l := fun l hl => mem_joinI.2 (.inr hl); have at_off : ∀ {ls : List Int}, ls.Nodup → (∀ l ∈ ls, l ∈ joinI t.l u.l) → ∀ m : Int, atI f (joinI t.l u.l) ls m = offL (ls.map f) (idxAt (joinI t.l u.l) (idxL ((joinI t.l u.l).map f) m) ls) := fun {ls} hn hs m => by
    unfold atI dotL
    rw [stepsL_len]; exact dot_off h.nd (by simp) hn hs
  show toA hr (elt (pairX k p n f t u K (prodI ((joinI t.l u.l).map f)).toNat) (widthI k n) (offL (K.map f) (K.map a))) = _
  rw [pair_elt hr hR h hk hoa.1 (by omega)]
  classical
  have e1 := sumO_idx (smL hr hR) f (J := joinI t.l u.l) h.nd (fun x hx => (h.dim x hx).1)
    (fun l => if offL (K.map f) (idxAt (joinI t.l u.l) l K) = offL (K.map f) (K.map a) then (smL hr hR).mul (toA hr (elt t.x (widthI k n) (offL (t.l.map f) (idxAt (joinI t.l u.l) l t.l)))) (toA hr (elt u.x (widthI k n) (offL (u.l.map f) (idxAt (joinI t.l u.l) l u.l)))) else (smL hr hR).zero) a
  rw [sumN_congr (smL hr hR) (G := fun (m : Nat) => if offL (K.map f) (idxAt (joinI t.l u.l) (idxL ((joinI t.l u.l).map f) m) K) = offL (K.map f) (K.map a) then (smL hr hR).mul (toA hr (elt t.x (widthI k n) (offL (t.l.map f) (idxAt (joinI t.l u.l) (idxL ((joinI t.l u.l).map f) m) t.l)))) (toA hr (elt u.x (widthI k n) (offL (u.l.map f) (idxAt (joinI t.l u.l) (idxL ((joinI t.l u.l).map f) m) u.l)))) else (smL hr hR).zero)
    fun m _ => by rw [at_off hk.nd hk.sub, at_off (axes_nodup (ten_axes h.tt)) hsT, at_off (axes_nodup (ten_axes h.uu)) hsU], e1]
  rw [sumO_congr (smL hr hR) f (G := fun b => if ∀ x ∈ K, b x = a x then (smL hr hR).mul (val hr t b) (val hr u b) else (smL hr hR).zero) fun b _ hb => ?_]
  · exact sumO_pick (smL hr hR) f h.nd (fun _ _ => rfl) fun x _ hx => ha x hx
  · rw [idxAt_of hk.sub, idxAt_of hsT, idxAt_of hsU]; have hib := idx_map (f := f) (a := b) (K := K) fun x hx => hb x (hk.sub x hx); have e2 : offL (K.map f) (K.map b) = offL (K.map f) (K.map a) ↔ ∀ x ∈ K, b x = a x :=
      ⟨fun e x hx => (List.map_inj_left.1 (offL_inj hdK hib hia e)) x hx, fun e => by rw [List.map_congr_left e]⟩
    unfold val
    rw [h.ht, h.hu]
    by_cases c : ∀ x ∈ K, b x = a x
    · rw [if_pos (e2.2 c), if_pos c]
    · rw [if_neg (fun e => c (e2.1 e)), if_neg c]
end
end Go.Proofs.YtdkgaejmgnojhaaGreat
namespace Go.Proofs.YtdkgaejmgnojhaaGreat
set_option maxRecDepth 100000
open Go.RowKit
theorem off_idx : ∀ {ds : List Int} {m : Int}, (∀ d ∈ ds, 1 ≤ d) → 0 ≤ m → m < prodI ds → offL ds (idxL ds m) = m
  | [], m, _, h0, h1 => by
    have e : prodI ([] : List Int) = 1 := rfl
    show (0 : Int) = m
    omega
  | d :: ds, m, hd, h0, h1 => by
    have hd' : ∀ x ∈ ds, 1 ≤ x := fun x hx => hd x (by simp [hx]); have hP := prodI_one hd'; have hm := Int.emod_nonneg m (show prodI ds ≠ 0 by omega); have hm2 := Int.emod_lt_of_pos m (show 0 < prodI ds by omega); have e : m / prodI ds * prodI ds + m % prodI ds = m := by rw [Int.mul_comm]; exact Int.mul_ediv_add_emod m (prodI ds)
    have e2 : idxL ds m = idxL ds (m % prodI ds) := by
      have := idxL_shift hd' (m / prodI ds) (m % prodI ds)
      rwa [e] at this
    have hlt : m / prodI ds < d := Int.ediv_lt_of_lt_mul (by omega) (by rw [prodI_cons] at h1; exact h1); rw [idxL_cons]
    show m / prodI ds % d * prodI ds + offL ds (idxL ds m) = m
    rw [e2, off_idx hd' hm hm2, Int.emod_eq_of_lt (Int.ediv_nonneg h0 (by omega)) hlt]; exact e
theorem at_self {f : Int → Int} {L : List Int} (hn : L.Nodup) (hf : ∀ x ∈ L, 1 ≤ f x ∧ f x ≤ 8) {m : Int} (h0 : 0 ≤ m) (h1 : m < prodI (L.map f)) : atI f L L m = m := by
  have hd : ∀ d ∈ L.map f, 1 ≤ d := fun d hd => (map_dim hf (fun _ h => h) d hd).1; have e : idxAt L (idxL (L.map f) m) L = idxL (L.map f) m := by
    refine ext_getD (by simp [idxAt, idxL_len]) fun j hj => ?_; have hj' : j < L.length := by simpa [idxAt] using hj
    rw [idxAt, map_getD hj', find_at' hn hj', Int.toNat_natCast]
  rw [at_off hn hn (fun _ h => h), e, off_idx hd h0 h1]
theorem elts_ext {xs ys : List Int} {w : Int} (hw : 1 ≤ w) {P : Int} (h1 : (xs.length : Int) = P * w) (h2 : (ys.length : Int) = P * w) (h : ∀ j : Int, 0 ≤ j → j < P → elt xs w j = elt ys w j) : xs = ys := by
  apply List.ext_getElem?
  intro q
  by_cases hq : (q : Int) < P * w
  · have hj : (q : Int) / w < P := Int.ediv_lt_of_lt_mul (by omega) hq; have hj0 : 0 ≤ (q : Int) / w := Int.ediv_nonneg (by omega) (by omega); have hr0 := Int.emod_nonneg (q : Int) (show w ≠ 0 by omega); have hr1 := Int.emod_lt_of_pos (q : Int) (show 0 < w by omega); have e : (q : Int) / w * w + (q : Int) % w = q := by rw [Int.mul_comm]; exact Int.mul_ediv_add_emod q w
    have h3 := congrArg (fun l => l[((q : Int) % w).toNat]?) (h _ hj0 hj); have hm0 := Int.mul_nonneg hj0 (show 0 ≤ w by omega); have e3 : ((q : Int) / w * w).toNat + ((q : Int) % w).toNat = q := by omega
    simp only [elt_get?] at h3; rw [if_pos (by omega), if_pos (by omega), e3] at h3; exact h3
  · rw [List.getElem?_eq_none (by omega), List.getElem?_eq_none (by omega)]
end Go.Proofs.YtdkgaejmgnojhaaGreat
namespace Go.Proofs.YtdkgaejmgnojhaaGreat
set_option maxRecDepth 100000
open Go.RowKit
theorem step_zero {k p n : Int} {x y out : List Int} {i j : Nat} (hk : k = 7 ∧ (widthI k n).toNat ≤ 6 ∨ k = 8) (hp : 1 ≤ p) (ho : PolyIn k p n out) (hy : PolyIn k p n y) (hi : x.getD i 0 = 0) (hij : 4 ≤ i + j → k = 8 → i + j - 4 < out.length) : mulStep k p x y out i j = out := by
  have h0 : ∀ m, (out.getD m 0).tmod p = out.getD m 0 := fun m => by
    have := ho.at hp m; exact Int.tmod_eq_of_lt this.1 (by omega)
  unfold mulStep
  split
  · rename_i h
    rw [hi, Int.zero_mul, Int.add_zero, h0, set_same h]
  · split
    · rename_i h h8
      have hw : out.length = 4 := by rw [ho.1, widthI, if_neg (by omega), if_pos h8]; rfl
      have hz := ho.at hp (i + j - 4); have hyj := hy.at hp j; have e : (out.getD (i + j - 4) 0 + (p - x.getD i 0) * y.getD j 0).tmod p = out.getD (i + j - 4) 0 := by
        rw [hi, Int.sub_zero]; have hm : 0 ≤ p * y.getD j 0 := Int.mul_nonneg (by omega) hyj.1; rw [Int.tmod_eq_emod_of_nonneg (by omega), Int.add_mul_emod_self_left]; exact Int.emod_eq_of_lt hz.1 (by omega)
      rw [e]; exact set_same (hij (by omega) h8)
    · rfl
theorem row_zero {k p n : Int} {x y out : List Int} {i : Nat} (hk : k = 7 ∧ (widthI k n).toNat ≤ 6 ∨ k = 8) (hp : 1 ≤ p) (ho : PolyIn k p n out) (hy : PolyIn k p n y) (hi : x.getD i 0 = 0) (hil : i < out.length) (hyl : y.length = out.length) :
    ∀ m, m ≤ y.length → mulRow k p x y i out m = out
  | 0, _ => rfl
  | m + 1, hm => by
    rw [mulRow_step, row_zero hk hp ho hy hi hil hyl m (by omega)]; refine step_zero hk hp ho hy hi (fun h4 h8 => ?_); have hw : out.length = 4 := by rw [ho.1, widthI, if_neg (by omega), if_pos h8]; rfl
    omega
theorem row_copy {k p n : Int} {x y : List Int} (hk : k = 7 ∧ (widthI k n).toNat ≤ 6 ∨ k = 8) (hp : 2 ≤ p) (hy : PolyIn k p n y) (h1 : x.getD 0 0 = 1) :
    ∀ m, m ≤ y.length → mulRow k p x y 0 (List.replicate y.length 0) m = y.take m ++ List.replicate (y.length - m) 0
  | 0, _ => by simp [mulRow]
  | m + 1, hm => by
    rw [mulRow_step, row_copy hk hp hy h1 m (by omega)]; have hlt : (y.take m).length = m := by simp; omega
    have hol : (y.take m ++ List.replicate (y.length - m) (0 : Int)).length = y.length := by simp; omega
    have hz : (y.take m ++ List.replicate (y.length - m) (0 : Int)).getD m 0 = 0 := by
      simp only [List.getD]; rw [List.getElem?_append_right (by omega), hlt, Nat.sub_self]
      simp [show 0 < y.length - m by omega]
    have hym := hy.at (by omega : 1 ≤ p) m
    unfold mulStep
    rw [Nat.zero_add, if_pos (by rw [hol]; omega), hz, h1, Int.one_mul, Int.zero_add, Int.tmod_eq_of_lt hym.1 (by omega)]; obtain ⟨r, hr⟩ : ∃ r, y.length - m = r + 1 := ⟨y.length - m - 1, by omega⟩
    rw [List.set_append_right _ _ (by omega), hlt, Nat.sub_self, hr, List.replicate_succ, List.set_cons_zero, show y.length - (m + 1) = r by omega, List.take_succ_eq_append_getElem (by omega), List.append_assoc]
    congr 1
    simp [List.getD, show m < y.length by omega]
theorem one_to {k p n : Int} {x y : List Int} (hk : k = 7 ∧ (widthI k n).toNat ≤ 6 ∨ k = 8) (hp : 2 ≤ p) (hy : PolyIn k p n y) (h1 : x.getD 0 0 = 1) (h0 : ∀ j, 0 < j → x.getD j 0 = 0) (hl : x.length = y.length) :
    ∀ m, m + 1 ≤ x.length → mulTo k p x y (List.replicate y.length 0) (m + 1) = y
  | 0, h => by
    rw [mulTo_step]
    show mulRow k p x y 0 (List.replicate y.length 0) y.length = y
    rw [row_copy hk hp hy h1 y.length (Nat.le_refl _), Nat.sub_self, List.take_length]
    simp
  | m + 1, h => by
    rw [mulTo_step, one_to hk hp hy h1 h0 hl m (by omega)]; exact row_zero hk (by omega) hy hy (h0 _ (by omega)) (by omega) rfl y.length (Nat.le_refl _)
theorem one_mul {k p n : Int} (hr : ringL k p n) {x : List Int} (hx : InR k p n x) : mulL k p n (oneL k p n) x = x := by
  have hlen := hx.len hr; have hx0 := hx.at hr 0 (by omega); have hwd : 1 ≤ (widthI k n).toNat := by have := hx.1; omega
  by_cases hk : k = 7 ∨ k = 8
  · have htp := top_poly hr (.inr hk); have ho := one_poly (p := p) (n := n) (k := k) (by omega) hwd; have hk' : k = 7 ∧ (widthI k n).toNat ≤ 6 ∨ k = 8 := by rcases hk with h | h; exact .inl ⟨h, by have := hx.1; omega⟩; exact .inr h
    have hol := oneL_len k p n; obtain ⟨q, hq⟩ : ∃ q, (oneL k p n).length = q + 1 := ⟨(oneL k p n).length - 1, by omega⟩
    have := one_to hk' htp.2.1 (hx.poly hr (.inr hk)) ho.1 ho.2 (by rw [hol, hx.1]) q (by omega)
    unfold mulL
    rw [if_neg (by omega), if_neg (by omega), if_neg (by omega), if_neg (by omega), if_neg (by omega), hq, ← hx.1]; exact this
  · have hm := mul_one hr hx; have e : mulL k p n (oneL k p n) x = mulL k p n x (oneL k p n) := by
      unfold mulL
      split
      · rw [Int.min_comm]
      · split
        · rw [Int.mul_comm]
        · split
          · rw [Int.mul_comm]
          · split
            · rw [Int.add_comm]
            · split
              · rw [Nat.and_comm]
              · exfalso
                unfold ringL at hr
                omega
    rw [e, hm]
end Go.Proofs.YtdkgaejmgnojhaaGreat
namespace Go.Proofs.YtdkgaejmgnojhaaGreat
set_option maxRecDepth 100000
open Go.RowKit
section
variable {k p n : Int} {f : Int → Int} {t : Ten} {us : List Ten}
theorem getD_ten {i : Nat} {u : Ten} (h : us[i]? = some u) : us.getD i noTen = u := by simp [List.getD, h]
end
section
variable {k p n : Int} {ts : List Ten} {ls op : List Int}
end
end Go.Proofs.YtdkgaejmgnojhaaGreat
namespace Go.Proofs.YtdkgaejmgnojhaaGreat
set_option maxRecDepth 100000
open Go.RowKit
section
variable {P : Program} {n : Nat} {w0 : World} {K : Env} {HS : List PH} {d : Option Tmp} {ty : TypeId} {ps : String} {af : Array Edge} {g : Option (Nat × Bool)}
def landW (a b : Int) : Int := ((BitVec.ofInt 64 a &&& BitVec.ofInt 64 b).toNat : Nat)
theorem landW_in {a b : Int} (h0 : 0 ≤ b) (h1 : b ≤ 9223372036854775807) : 0 ≤ landW a b ∧ landW a b ≤ b := by
  unfold landW
  rw [BitVec.toNat_and, toNat_ofInt h0 h1]; have := Nat.and_le_right (n := (BitVec.ofInt 64 a).toNat) (m := b.toNat)
  omega
theorem v_andW {t t' : TypeId} {x y : Operand} {a b : Int} (hx : ev K x = some (.int .i64 a)) (hy : ev K y = some (.int .i64 b)) (h0 : 0 ≤ b) (h1 : b ≤ 9223372036854775807) : StepV P n w0 K HS ⟨d, .binOp .and t x y t', ty, ps, af, g⟩ (.int .i64 (landW a b)) :=
  fun ac w e _ => by
    have hl := landW_in (a := a) h0 h1; have hw : IntKind.i64.wrap (landW a b) = landW a b := IntWalk.i64_in _ (by omega); have h5 : (Op.intBits .and .i64 a b).run P w = .ok (.int .i64 (landW a b)) w := by
      show Result.ok (Value.int .i64 (IntKind.i64.wrap (landW a b))) w = _
      rw [hw]
    simp only [execOp, e.ev hx, e.ev hy, eqGuard, binOp, Sem.run_bind]; rw [show (if (!(match BinOp.and with | .eql => true | .neq => true | _ => false)) = true then (pure () : Sem Unit) else pure ()) = pure () by rfl]; rw [Sem.run_pure, Result.andThen_ok, if_neg (by simp), h5, Result.andThen_ok]
    rfl
end
end Go.Proofs.YtdkgaejmgnojhaaGreat
namespace Go.Proofs.YtdkgaejmgnojhaaGreat
set_option maxRecDepth 100000
open Go.RowKit
theorem dimOf_pos {ts : List Ten} (hok : ∀ t ∈ ts, AxOK t) {x : Int} : 0 < dimOf ts x ↔ ∃ t ∈ ts, x ∈ t.l := by
  induction ts with
  | nil => simp [dimOf]
  | cons t r ih =>
    have ih' := ih (fun t ht => hok t (by simp [ht])); rw [dimOf]
    split
    · rename_i h
      have ha := hok t (by simp); have hf := findI_range t.l x; have hg := findI_ge.2 h; have := ha.2 (findI t.l x).toNat (by omega); exact ⟨fun _ => ⟨t, by simp, h⟩, fun _ => by omega⟩
    · rename_i h
      rw [ih']
      constructor
      · rintro ⟨u, hu, hx⟩; exact ⟨u, by simp [hu], hx⟩
      · rintro ⟨u, hu, hx⟩
        rcases List.mem_cons.1 hu with rfl | hu
        · exact absurd hx h
        · exact ⟨u, hu, hx⟩
end Go.Proofs.YtdkgaejmgnojhaaGreat
namespace Go.Proofs.YtdkgaejmgnojhaaGreat
set_option maxRecDepth 100000
open Go.RowKit
def meetP (t u : Ten) : Prop := ∃ x ∈ t.l, x ∈ u.l
open Classical in
noncomputable def meetB (t u : Ten) : Bool := decide (meetP t u)
theorem meetB_true {t u : Ten} : meetB t u = true ↔ meetP t u := by simp [meetB]
theorem meetB_no {t u : Ten} (h : ¬ meetP t u) : meetB t u = false := by simp [meetB, h]
def mrgX (a b x : Int) : Int := if x = max a b then min a b else x
def mrgI (P : List Int) (a b : Int) (m : Nat) : List Int := (P.take m).map (mrgX a b) ++ P.drop m
theorem mrgI_zero (P : List Int) (a b : Int) : mrgI P a b 0 = P := by simp [mrgI]
theorem mrgI_len (P : List Int) (a b : Int) (m : Nat) : (mrgI P a b m).length = P.length := by simp [mrgI]; omega
theorem mrgI_at {P : List Int} {a b : Int} {m : Nat} (h : m < P.length) : (mrgI P a b m).getD m 0 = P.getD m 0 := by
  have hl : ((P.take m).map (mrgX a b)).length = m := by simp; omega
  unfold mrgI
  simp only [List.getD]; rw [List.getElem?_append_right (by omega), hl, Nat.sub_self, List.getElem?_drop, Nat.add_zero]
theorem mrgI_step {P : List Int} {a b : Int} {m : Nat} (h : m < P.length) : mrgI P a b (m + 1) = (mrgI P a b m).set m (mrgX a b (P.getD m 0)) := by
  have hl : ((P.take m).map (mrgX a b)).length = m := by simp; omega
  unfold mrgI
  rw [List.set_append_right _ _ (by omega), hl, Nat.sub_self, List.drop_eq_getElem_cons h, List.set_cons_zero, List.take_succ_eq_append_getElem h, List.map_append, List.append_assoc]
  congr 1
  simp [List.getD, h]
theorem mrgI_yes {P : List Int} {a b : Int} {m : Nat} (h : m < P.length) (e : P.getD m 0 = max a b) : mrgI P a b (m + 1) = (mrgI P a b m).set m (min a b) := by rw [mrgI_step h, mrgX, if_pos e]
theorem mrgI_no {P : List Int} {a b : Int} {m : Nat} (h : m < P.length) (e : P.getD m 0 ≠ max a b) : mrgI P a b (m + 1) = mrgI P a b m := by
  rw [mrgI_step h, mrgX, if_neg e, ← mrgI_at (a := a) (b := b) h]; exact set_same (by rw [mrgI_len]; exact h)
open Classical in
noncomputable def ptI (ts : List Ten) (P : List Int) (i : Nat) : Nat → List Int
  | 0 => P
  | m + 1 => if meetP (ts.getD i noTen) (ts.getD m noTen) then mrgI (ptI ts P i m) ((ptI ts P i m).getD i 0) ((ptI ts P i m).getD m 0) P.length else ptI ts P i m
theorem ptI_yes {ts : List Ten} {P : List Int} {i m : Nat} (h : meetP (ts.getD i noTen) (ts.getD m noTen)) : ptI ts P i (m + 1) = mrgI (ptI ts P i m) ((ptI ts P i m).getD i 0) ((ptI ts P i m).getD m 0) P.length := by rw [ptI, if_pos h]
theorem ptI_no {ts : List Ten} {P : List Int} {i m : Nat} (h : ¬ meetP (ts.getD i noTen) (ts.getD m noTen)) : ptI ts P i (m + 1) = ptI ts P i m := by rw [ptI, if_neg h]
theorem ptI_len {ts : List Ten} {P : List Int} {i : Nat} : ∀ m, (ptI ts P i m).length = P.length
  | 0 => rfl
  | m + 1 => by
    rw [ptI]
    split
    · rw [mrgI_len]; exact ptI_len m
    · exact ptI_len m
def inP (m : Nat) (P : List Int) : Prop := ∀ j, j < P.length → 0 ≤ P.getD j 0 ∧ P.getD j 0 < m
theorem inP.mrg {m : Nat} {P : List Int} {a b : Int} (h : inP m P) (ha : 0 ≤ a ∧ a < m) (hb : 0 ≤ b ∧ b < m) : ∀ q, q ≤ P.length → inP m (mrgI P a b q)
  | 0, _ => by rw [mrgI_zero]; exact h
  | q + 1, hq => by
    have ih := inP.mrg h ha hb q (by omega); intro j hj; rw [mrgI_len] at hj; rw [mrgI_step (by omega)]
    by_cases e : q = j
    · subst e; simp only [List.getD]; rw [List.getElem?_set_self (by rw [mrgI_len]; omega)]
      show 0 ≤ mrgX a b (P.getD q 0) ∧ mrgX a b (P.getD q 0) < m
      have := h q (by omega)
      unfold mrgX
      split <;> omega
    · have := ih j (by rw [mrgI_len]; exact hj); simp only [List.getD] at this ⊢; rw [List.getElem?_set_ne e]; exact this
theorem inP.pt {ts : List Ten} {n : Nat} {P : List Int} {i : Nat} (h : inP n P) (hi : i < P.length) : ∀ m, m ≤ P.length → inP n (ptI ts P i m)
  | 0, _ => h
  | m + 1, hm => by
    have ih := h.pt (ts := ts) hi m (by omega); have hl := ptI_len (ts := ts) (P := P) (i := i) m; rw [ptI]
    split
    · exact ih.mrg (ih i (by omega)) (ih m (by omega)) _ (by omega)
    · exact ih
noncomputable def ptO (ts : List Ten) : Nat → List Int
  | 0 => (List.range ts.length).map Int.ofNat
  | i + 1 => ptI ts (ptO ts i) i i
theorem ptO_ok (ts : List Ten) : ∀ i, i ≤ ts.length → (ptO ts i).length = ts.length ∧ inP ts.length (ptO ts i)
  | 0, _ => by
    refine ⟨by simp [ptO], fun j hj => ?_⟩; have hj' : j < ts.length := by simpa [ptO] using hj
    have e : (ptO ts 0).getD j 0 = (j : Int) := by simp [ptO, List.getD, hj']
    rw [e]; omega
  | i + 1, hi => by
    obtain ⟨h1, h2⟩ := ptO_ok ts i (by omega); exact ⟨by rw [ptO, ptI_len]; exact h1, by rw [ptO]; exact h2.pt (by omega) i (by omega)⟩
noncomputable def ptP (ts : List Ten) : List Int := ptO ts ts.length
def partJ (P : List Int) (i m : Nat) : List Int := ((List.range m).filter fun j => decide (P.getD j 0 = i)).map Int.ofNat
theorem partJ_yes {P : List Int} {i m : Nat} (h : P.getD m 0 = i) : partJ P i (m + 1) = partJ P i m ++ [(m : Int)] := by
  rw [partJ, List.range_succ, List.filter_append, List.filter_cons_of_pos (by simpa using h), List.map_append]; rfl
theorem partJ_no {P : List Int} {i m : Nat} (h : P.getD m 0 ≠ i) : partJ P i (m + 1) = partJ P i m := by
  rw [partJ, List.range_succ, List.filter_append, List.filter_cons_of_neg (by simpa using h)]; simp [partJ]
theorem mem_partJ {P : List Int} {i m : Nat} {x : Int} : x ∈ partJ P i m ↔ ∃ j : Nat, x = j ∧ j < m ∧ P.getD j 0 = i := by
  unfold partJ
  simp only [List.mem_map, List.mem_filter, List.mem_range, decide_eq_true_eq]
  constructor
  · rintro ⟨j, ⟨h1, h2⟩, rfl⟩; exact ⟨j, rfl, h1, h2⟩
  · rintro ⟨j, rfl, h1, h2⟩; exact ⟨j, ⟨h1, h2⟩, rfl⟩
theorem partJ_nodup (P : List Int) (i m : Nat) : (partJ P i m).Nodup :=
  List.Pairwise.map _ (fun a b (h : a ≠ b) (e : Int.ofNat a = Int.ofNat b) => h (Int.ofNat.inj e)) (List.Pairwise.filter _ List.nodup_range)
theorem partJ_len (P : List Int) (i m : Nat) : (partJ P i m).length ≤ m := by
  unfold partJ
  rw [List.length_map]; refine Nat.le_trans (List.length_filter_le _ _) ?_; rw [List.length_range]; omega
noncomputable def partsTo (ts : List Ten) (i : Nat) : List (List Int) := ((List.range i).map fun j => partJ (ptP ts) j ts.length).filter fun l => decide (l ≠ [])
noncomputable def partsL (ts : List Ten) : List (List Int) := partsTo ts ts.length
theorem partsTo_yes {ts : List Ten} {i : Nat} (h : partJ (ptP ts) i ts.length ≠ []) : partsTo ts (i + 1) = partsTo ts i ++ [partJ (ptP ts) i ts.length] := by
  rw [partsTo, List.range_succ, List.map_append, List.filter_append, List.map_singleton, List.filter_cons_of_pos (by simpa using h)]; rfl
theorem partsTo_no {ts : List Ten} {i : Nat} (h : partJ (ptP ts) i ts.length = []) : partsTo ts (i + 1) = partsTo ts i := by
  rw [partsTo, List.range_succ, List.map_append, List.filter_append, List.map_singleton, List.filter_cons_of_neg (by simpa using h)]; simp [partsTo]
theorem partsTo_len (ts : List Ten) (i : Nat) : (partsTo ts i).length ≤ i := by
  unfold partsTo
  refine Nat.le_trans (List.length_filter_le _ _) ?_
  simp
/-- What each part is. -/
structure PartL (ts : List Ten) (l : List Int) : Prop where
  ne : l ≠ []
  nd : l.Nodup
  inr : ∀ x ∈ l, 0 ≤ x ∧ x < ts.length
theorem part_ok {ts : List Ten} {l : List Int} (h : l ∈ partsL ts) : PartL ts l := by
  obtain ⟨h1, h2⟩ := List.mem_filter.1 h; obtain ⟨j, hj, rfl⟩ := List.mem_map.1 h1; refine ⟨by simpa using h2, partJ_nodup _ _ _, fun x hx => ?_⟩; obtain ⟨m, rfl, hm, _⟩ := mem_partJ.1 hx
  omega
theorem part_all {ts : List Ten} {j : Nat} (hj : j < ts.length) : ∃ l ∈ partsL ts, (j : Int) ∈ l := by
  obtain ⟨hl, hin⟩ := ptO_ok ts ts.length (Nat.le_refl _); have h1 := hin j (by omega); have hm : (j : Int) ∈ partJ (ptP ts) ((ptP ts).getD j 0).toNat ts.length := mem_partJ.2 ⟨j, rfl, hj, by show (ptO ts ts.length).getD j 0 = _; unfold ptP; omega⟩; refine ⟨_, List.mem_filter.2 ⟨List.mem_map.2 ⟨((ptP ts).getD j 0).toNat, List.mem_range.2 (by unfold ptP; omega), rfl⟩, ?_⟩, hm⟩; simp only [decide_eq_true_eq]; intro e; rw [e] at hm; simp at hm
section
variable {k p n : Int} {ts : List Ten} {op : List Int}
theorem parts_get {i : Nat} (hi : i < (partsL ts).length) : PartL ts ((partsL ts).getD i []) := part_ok (List.mem_of_getElem? (i := i) (by simp [hi, List.getD]))
end
end Go.Proofs.YtdkgaejmgnojhaaGreat
namespace Go.Proofs.YtdkgaejmgnojhaaGreat
set_option maxRecDepth 100000
open Go.RowKit
def mrgE (R : List Int) (e : Nat × Nat) : List Int := R.map fun x => if x = R.getD e.2 0 then R.getD e.1 0 else x
def ufF (R : List Int) (es : List (Nat × Nat)) : List Int := es.foldl mrgE R
def okE : List Int → List (Nat × Nat) → Prop
  | _, [] => True
  | R, e :: r => R.getD e.1 0 ≠ R.getD e.2 0 ∧ okE (mrgE R e) r
theorem ufF_snoc (R : List Int) (a : List (Nat × Nat)) (e : Nat × Nat) : ufF R (a ++ [e]) = mrgE (ufF R a) e := by simp [ufF, List.foldl_append]
theorem okE_snoc : ∀ (a : List (Nat × Nat)) (R : List Int) (e : Nat × Nat), okE R (a ++ [e]) ↔ okE R a ∧ (ufF R a).getD e.1 0 ≠ (ufF R a).getD e.2 0
  | [], R, e => by simp [okE, ufF]
  | x :: r, R, e => by
    have ih := okE_snoc r (mrgE R x) e
    show (R.getD x.1 0 ≠ R.getD x.2 0 ∧ okE (mrgE R x) (r ++ [e])) ↔ _
    rw [ih]
    show _ ↔ (R.getD x.1 0 ≠ R.getD x.2 0 ∧ okE (mrgE R x) r) ∧ (ufF (mrgE R x) r).getD e.1 0 ≠ (ufF (mrgE R x) r).getD e.2 0
    rw [and_assoc]
theorem mrgE_len (R : List Int) (e : Nat × Nat) : (mrgE R e).length = R.length := by simp [mrgE]
theorem mrgE_at {R : List Int} {e : Nat × Nat} {u : Nat} (h : u < R.length) : (mrgE R e).getD u 0 = if R.getD u 0 = R.getD e.2 0 then R.getD e.1 0 else R.getD u 0 := by
  have e : (mrgE R e)[u]? = some (if R.getD u 0 = R.getD e.2 0 then R.getD e.1 0 else R.getD u 0) := by
    unfold mrgE
    rw [List.getElem?_map, List.getElem?_eq_getElem h]; simp only [Option.map_some, Option.some.injEq]; have e1 : R.getD u 0 = R[u] := by simp [List.getD, h]
    rw [e1]
  rw [List.getD, e]; rfl
/-- Snoc induction. -/
theorem snocI {α : Type} {P : List α → Prop} (h0 : P []) (h1 : ∀ a x, P a → P (a ++ [x])) : ∀ l, P l := fun l => by
  have : ∀ n (l : List α), l.length = n → P l := fun n => by
    induction n with
    | zero => intro l h; rw [List.length_eq_zero_iff.1 h]; exact h0
    | succ n ih =>
      intro l h; have hne : l ≠ [] := fun e => by rw [e] at h; simp at h
      rw [← List.dropLast_concat_getLast hne]; exact h1 _ _ (ih _ (by rw [List.length_dropLast]; omega))
  exact this _ l rfl
def inE (n : Nat) (es : List (Nat × Nat)) : Prop := ∀ e ∈ es, e.1 < n ∧ e.2 < n
theorem ufF_len (R : List Int) : ∀ es, (ufF R es).length = R.length :=
  snocI rfl fun a e h => by rw [ufF_snoc, mrgE_len, h]
/-- Each edge's ends are of one class. -/
theorem ufF_compat {R : List Int} : ∀ es, inE R.length es → ∀ e ∈ es, (ufF R es).getD e.1 0 = (ufF R es).getD e.2 0 := by
  refine snocI (fun _ e he => by cases he) fun a x ih hin e he => ?_; have hl := ufF_len R a; have hin' : inE R.length a := fun e he => hin e (by simp [he]); have h1 := hin e he; rw [ufF_snoc, mrgE_at (by omega), mrgE_at (by omega)]
  rcases List.mem_append.1 he with he | he
  · rw [ih hin' e he]
  · rw [List.mem_singleton.1 he]
    simp
/-- Nothing else is. -/
theorem ufF_least {α : Type} {R : List Int} {g : Nat → α} (h0 : ∀ u v, u < R.length → v < R.length → R.getD u 0 = R.getD v 0 → g u = g v) : ∀ es, inE R.length es → (∀ e ∈ es, g e.1 = g e.2) → ∀ u v, u < R.length → v < R.length → (ufF R es).getD u 0 = (ufF R es).getD v 0 → g u = g v := by
  refine snocI (fun _ _ => h0) fun a x ih hin hg u v hu hv h => ?_; have hl := ufF_len R a; have ih := ih (fun e he => hin e (by simp [he])) fun e he => hg e (by simp [he]); have hx := hin x (by simp); have hgx := hg x (by simp); rw [ufF_snoc, mrgE_at (by omega), mrgE_at (by omega)] at h
  split at h <;> split at h
  · rename_i h1 h2; exact ih u v hu hv (h1.trans h2.symm)
  · rename_i h1 h2
    exact (ih u x.2 hu hx.2 h1).trans (hgx.symm.trans (ih x.1 v hx.1 hv h))
  · rename_i h1 h2
    exact (ih u x.1 hu hx.1 h).trans (hgx.trans (ih v x.2 hv hx.2 h2).symm)
  · exact ih u v hu hv h
def Adj (es : List (Nat × Nat)) (u v : Nat) : Prop := (u, v) ∈ es ∨ (v, u) ∈ es
theorem Adj.symm {es : List (Nat × Nat)} {u v : Nat} (h : Adj es u v) : Adj es v u := Or.symm h
structure Cert (es : List (Nat × Nat)) (pos : Nat → Nat) (r : Nat) : Prop where
  ne : ∀ u v, Adj es u v → pos u ≠ pos v
  one : ∀ u v w, Adj es u v → Adj es u w → pos u < pos v → pos u < pos w → v = w
  top : ∀ v, Adj es r v → pos v < pos r
theorem adj_class {R : List Int} {es : List (Nat × Nat)} (hin : inE R.length es) {u v : Nat} (h : Adj es u v) : (ufF R es).getD u 0 = (ufF R es).getD v 0 := by
  rcases h with h | h
  · exact ufF_compat es hin _ h
  · exact (ufF_compat es hin _ h).symm
theorem adj_in {n : Nat} {es : List (Nat × Nat)} (hin : inE n es) {u v : Nat} (h : Adj es u v) : u < n ∧ v < n := by
  rcases h with h | h
  · exact hin _ h
  · exact (hin _ h).symm
theorem pos_bound (pos : Nat → Nat) : ∀ n, ∃ N, ∀ u, u < n → pos u ≤ N
  | 0 => ⟨0, fun u h => by omega⟩
  | n + 1 => by
    obtain ⟨N, hN⟩ := pos_bound pos n; refine ⟨max N (pos n), fun u hu => ?_⟩
    rcases Nat.lt_or_ge u n with h | h
    · have := hN u h; omega
    · rw [show u = n by omega]; omega
/-- Two certificates put together at a new edge: b's class below, the rest above. -/
theorem cert_join {n : Nat} {es : List (Nat × Nat)} {R : List Int} (hl : R.length = n) (hin : inE n es) (hcl : ∀ u v, Adj es u v → R.getD u 0 = R.getD v 0) {a b r : Nat} (ha : a < n) (hb : b < n) (hab : R.getD a 0 ≠ R.getD b 0) (hr : R.getD r 0 ≠ R.getD b 0)
    {p1 p2 : Nat → Nat} (c1 : Cert es p1 r) (c2 : Cert es p2 b) : ∃ pos : Nat → Nat, (∀ u v, (Adj es u v ∨ (u = a ∧ v = b) ∨ (u = b ∧ v = a)) → pos u ≠ pos v) ∧
      (∀ u v w, (Adj es u v ∨ (u = a ∧ v = b) ∨ (u = b ∧ v = a)) → (Adj es u w ∨ (u = a ∧ w = b) ∨ (u = b ∧ w = a)) → pos u < pos v → pos u < pos w → v = w) ∧
      (∀ v, (Adj es r v ∨ (r = a ∧ v = b) ∨ (r = b ∧ v = a)) → pos v < pos r) := by
  obtain ⟨N, hN⟩ := pos_bound p2 n; have pin : ∀ u, R.getD u 0 = R.getD b 0 → (if R.getD u 0 = R.getD b 0 then p2 u else p1 u + N + 1) = p2 u := fun u h => if_pos h; have pout : ∀ u, R.getD u 0 ≠ R.getD b 0 → (if R.getD u 0 = R.getD b 0 then p2 u else p1 u + N + 1) = p1 u + N + 1 := fun u h => if_neg h; have hpb := hN b hb; refine ⟨fun u => if R.getD u 0 = R.getD b 0 then p2 u else p1 u + N + 1, ?_, ?_, ?_⟩
  · intro u v h
    simp only
    rcases h with h | ⟨rfl, rfl⟩ | ⟨rfl, rfl⟩
    · have hc := hcl u v h
      by_cases hu : R.getD u 0 = R.getD b 0
      · rw [pin u hu, pin v (hc ▸ hu)]; exact c2.ne u v h
      · rw [pout u hu, pout v (hc ▸ hu)]; have := c1.ne u v h; omega
    · rw [pout _ hab, pin _ rfl]; omega
    · rw [pout _ hab, pin _ rfl]; omega
  · intro u v w hv hw
    simp only
    have key : ∀ v, (Adj es u v ∨ (u = a ∧ v = b) ∨ (u = b ∧ v = a)) → (if R.getD u 0 = R.getD b 0 then p2 u else p1 u + N + 1) < (if R.getD v 0 = R.getD b 0 then p2 v else p1 v + N + 1) → (u = b ∧ v = a) ∨ (R.getD u 0 = R.getD b 0 ∧ u ≠ b ∧ Adj es u v ∧ p2 u < p2 v) ∨ (R.getD u 0 ≠ R.getD b 0 ∧ Adj es u v ∧ p1 u < p1 v) := by
      intro v h hlt
      rcases h with h | ⟨rfl, rfl⟩ | ⟨rfl, rfl⟩
      · have hc := hcl u v h
        by_cases hu : R.getD u 0 = R.getD b 0
        · rw [pin u hu, pin v (hc ▸ hu)] at hlt
          by_cases hub : u = b
          · have := c2.top v (hub ▸ h); rw [hub] at hlt
            omega
          · exact .inr (.inl ⟨hu, hub, h, hlt⟩)
        · rw [pout u hu, pout v (hc ▸ hu)] at hlt; exact .inr (.inr ⟨hu, h, by omega⟩)
      · rw [pout _ hab, pin _ rfl] at hlt; omega
      · exact .inl ⟨rfl, rfl⟩
    intro h1 h2
    rcases key v hv h1 with k1 | k1 | k1 <;> rcases key w hw h2 with k2 | k2 | k2
    · exact k1.2.trans k2.2.symm
    · exact absurd k1.1 k2.2.1
    · exact absurd (by rw [k1.1]) k2.1
    · exact absurd k2.1 k1.2.1
    · exact c2.one u v w k1.2.2.1 k2.2.2.1 k1.2.2.2 k2.2.2.2
    · exact absurd k1.1 k2.1
    · exact absurd (by rw [k2.1]) k1.1
    · exact absurd k2.1 k1.1
    · exact c1.one u v w k1.2.1 k2.2.1 k1.2.2 k2.2.2
  · intro v h
    simp only
    rcases h with h | ⟨rfl, rfl⟩ | ⟨rfl, rfl⟩
    · have hc := hcl r v h; rw [pout r hr, pout v (hc ▸ hr)]; have := c1.top v h
      omega
    · rw [pout _ hab, pin _ rfl]; omega
    · exact absurd rfl hr
theorem adj_snoc {es : List (Nat × Nat)} {a b u v : Nat} : Adj (es ++ [(a, b)]) u v ↔ Adj es u v ∨ (u = a ∧ v = b) ∨ (u = b ∧ v = a) := by
  unfold Adj
  simp only [List.mem_append, List.mem_singleton, Prod.mk.injEq]
  constructor
  · rintro ((h | h) | (h | h))
    · exact .inl (.inl h)
    · exact .inr (.inl h)
    · exact .inl (.inr h)
    · exact .inr (.inr ⟨h.2, h.1⟩)
  · rintro ((h | h) | h | h)
    · exact .inl (.inl h)
    · exact .inr (.inl h)
    · exact .inl (.inr h)
    · exact .inr (.inr ⟨h.2, h.1⟩)
theorem cert_all {R : List Int} : ∀ es, inE R.length es → okE R es → ∀ r, ∃ pos, Cert es pos r := by
  refine snocI (fun _ _ r => ⟨fun _ => 0, ⟨fun u v h => by simp [Adj] at h, fun u v w h => by simp [Adj] at h, fun v h => by simp [Adj] at h⟩⟩) fun es x ih hin hok r => ?_; obtain ⟨a, b⟩ := x; have hin' : inE R.length es := fun e he => hin e (by simp [he]); obtain ⟨hok', hab⟩ := (okE_snoc es R (a, b)).1 hok; have hx := hin (a, b) (by simp); have ih := ih hin' hok'; have hl := ufF_len R es; have hcl : ∀ u v, Adj es u v → (ufF R es).getD u 0 = (ufF R es).getD v 0 := fun u v h => adj_class hin' h
  by_cases hr : (ufF R es).getD r 0 = (ufF R es).getD b 0
  · obtain ⟨p1, c1⟩ := ih r; obtain ⟨p2, c2⟩ := ih a; obtain ⟨pos, h1, h2, h3⟩ := cert_join hl hin' hcl hx.2 hx.1 (Ne.symm hab) (fun e => hab (e.symm.trans hr)) c1 c2; refine ⟨pos, ⟨fun u v h => h1 u v ?_, fun u v w hv hw => h2 u v w ?_ ?_, fun v h => h3 v ?_⟩⟩
    · rcases adj_snoc.1 h with h | h | h
      · exact .inl h
      · exact .inr (.inr h)
      · exact .inr (.inl h)
    · rcases adj_snoc.1 hv with h | h | h
      · exact .inl h
      · exact .inr (.inr h)
      · exact .inr (.inl h)
    · rcases adj_snoc.1 hw with h | h | h
      · exact .inl h
      · exact .inr (.inr h)
      · exact .inr (.inl h)
    · rcases adj_snoc.1 h with h | h | h
      · exact .inl h
      · exact .inr (.inr h)
      · exact .inr (.inl h)
  · obtain ⟨p1, c1⟩ := ih r; obtain ⟨p2, c2⟩ := ih b; obtain ⟨pos, h1, h2, h3⟩ := cert_join hl hin' hcl hx.1 hx.2 hab hr c1 c2; exact ⟨pos, ⟨fun u v h => h1 u v (adj_snoc.1 h), fun u v w hv hw => h2 u v w (adj_snoc.1 hv) (adj_snoc.1 hw), fun v h => h3 v (adj_snoc.1 h)⟩⟩
/-- How far a message is from the leaves that it needs. -/
def muE (pos : Nat → Nat) (N u v : Nat) : Nat := if pos u < pos v then pos u else 2 * N - pos u
theorem muE_less {es : List (Nat × Nat)} {pos : Nat → Nat} {n N r : Nat} (hin : inE n es) (hN : ∀ u, u < n → pos u ≤ N) (c : Cert es pos r) {u v w : Nat} (hv : Adj es u v) (hw : Adj es u w) (hne : w ≠ v) : muE pos N w u < muE pos N u v := by
  have h1 := c.ne u v hv; have h2 := c.ne u w hw; have b1 := hN u (adj_in hin hv).1; have b2 := hN w (adj_in hin hw).2; have b3 := hN v (adj_in hin hv).2
  unfold muE
  by_cases huv : pos u < pos v
  · have h3 : ¬ pos u < pos w := fun h => hne (c.one u w v hw hv h huv); rw [if_pos huv, if_pos (by omega)]; omega
  · rw [if_neg huv]
    split <;> omega
end Go.Proofs.YtdkgaejmgnojhaaGreat
namespace Go.Proofs.YtdkgaejmgnojhaaGreat
set_option maxRecDepth 100000
open Go.RowKit
theorem mrgI_full {P : List Int} {a b : Int} {u : Nat} (h : u < P.length) : (mrgI P a b P.length).getD u 0 = mrgX a b (P.getD u 0) := by
  unfold mrgI
  rw [List.take_length, List.drop_length, List.append_nil]
  simp [List.getD, h]
theorem mrg_iff {P : List Int} {i m u v : Nat} (hu : u < P.length) (hv : v < P.length) : (mrgI P (P.getD i 0) (P.getD m 0) P.length).getD u 0 = (mrgI P (P.getD i 0) (P.getD m 0) P.length).getD v 0 ↔
    P.getD u 0 = P.getD v 0 ∨ (P.getD u 0 = P.getD i 0 ∧ P.getD v 0 = P.getD m 0) ∨ (P.getD u 0 = P.getD m 0 ∧ P.getD v 0 = P.getD i 0) := by
  rw [mrgI_full hu, mrgI_full hv]
  unfold mrgX
  split <;> split <;> omega
section
variable {ts : List Ten}
/-- Pairs that are joined stay joined; the least joining. -/
theorem ptI_ok {α : Type} {g : Nat → α} {P : List Int} {i : Nat} (hP : P.length = ts.length) (hi : i < ts.length) (hg : ∀ a b, a < ts.length → b < ts.length → meetP (ts.getD a noTen) (ts.getD b noTen) → g a = g b)
    (hl : ∀ u v, u < ts.length → v < ts.length → P.getD u 0 = P.getD v 0 → g u = g v) : ∀ m, m ≤ i → (∀ u v, u < ts.length → v < ts.length → P.getD u 0 = P.getD v 0 → (ptI ts P i m).getD u 0 = (ptI ts P i m).getD v 0) ∧
      (∀ b, b < m → meetP (ts.getD i noTen) (ts.getD b noTen) → (ptI ts P i m).getD i 0 = (ptI ts P i m).getD b 0) ∧ (∀ u v, u < ts.length → v < ts.length → (ptI ts P i m).getD u 0 = (ptI ts P i m).getD v 0 → g u = g v)
  | 0, _ => ⟨fun _ _ _ _ h => h, fun b hb => by omega, hl⟩
  | m + 1, hm => by
    obtain ⟨h1, h2, h3⟩ := ptI_ok hP hi hg hl m (by omega); have hlen := ptI_len (ts := ts) (P := P) (i := i) m
    by_cases c : meetP (ts.getD i noTen) (ts.getD m noTen)
    · have e := ptI_yes (P := P) c; have hgm := hg i m hi (by omega) c; have e2 : ptI ts P i (m + 1) = mrgI (ptI ts P i m) ((ptI ts P i m).getD i 0) ((ptI ts P i m).getD m 0) (ptI ts P i m).length := by rw [e, hlen]
      rw [e2]; refine ⟨fun u v hu hv h => (mrg_iff (by omega) (by omega)).2 (.inl (h1 u v hu hv h)), fun b hb hmb => ?_, fun u v hu hv h => ?_⟩
      · by_cases hbm : b = m
        · subst hbm; exact (mrg_iff (by omega) (by omega)).2 (.inr (.inl ⟨rfl, rfl⟩))
        · exact (mrg_iff (by omega) (by omega)).2 (.inl (h2 b (by omega) hmb))
      · rcases (mrg_iff (by omega) (by omega)).1 h with h | ⟨ha, hb⟩ | ⟨ha, hb⟩
        · exact h3 u v hu hv h
        · exact (h3 u i hu hi ha).trans (hgm.trans (h3 v m hv (by omega) hb).symm)
        · exact (h3 u m hu (by omega) ha).trans (hgm.symm.trans (h3 v i hv hi hb).symm)
    · rw [ptI_no c]; exact ⟨h1, fun b hb hmb => h2 b (by
        rcases Nat.lt_or_ge b m with h | h
        · exact h
        · exact absurd (by rw [show b = m by omega] at hmb; exact hmb) c) hmb, h3⟩
theorem meet_symm {t u : Ten} (h : meetP t u) : meetP u t := by
  obtain ⟨x, h1, h2⟩ := h; exact ⟨x, h2, h1⟩
theorem ptO_all {α : Type} {g : Nat → α} (hg : ∀ a b, a < ts.length → b < ts.length → meetP (ts.getD a noTen) (ts.getD b noTen) → g a = g b) : ∀ i, i ≤ ts.length →
    (∀ a b, a < i → b < a → meetP (ts.getD a noTen) (ts.getD b noTen) → (ptO ts i).getD a 0 = (ptO ts i).getD b 0) ∧ (∀ u v, u < ts.length → v < ts.length → (ptO ts i).getD u 0 = (ptO ts i).getD v 0 → g u = g v)
  | 0, _ => ⟨fun a b ha => by omega, fun u v hu hv h => by
      have e : ∀ j, j < ts.length → (ptO ts 0).getD j 0 = (j : Int) := fun j hj => by simp [ptO, List.getD, hj]
      rw [e u hu, e v hv] at h; rw [show u = v by omega]⟩
  | i + 1, hi => by
    obtain ⟨h1, h2⟩ := ptO_all hg i (by omega); have hP := (ptO_ok ts i (by omega)).1; obtain ⟨k1, k2, k3⟩ := ptI_ok hP (by omega : i < ts.length) hg h2 i (Nat.le_refl _); refine ⟨fun a b ha hb hm => ?_, k3⟩
    show (ptI ts (ptO ts i) i i).getD a 0 = _
    by_cases hai : a = i
    · subst hai; exact k2 b hb hm
    · exact k1 a b (by omega) (by omega) (h1 a b (by omega) hb hm)
theorem pt_meet {i j : Nat} (hi : i < ts.length) (hj : j < ts.length) (h : meetP (ts.getD i noTen) (ts.getD j noTen)) : (ptP ts).getD i 0 = (ptP ts).getD j 0 := by
  have h1 := (ptO_all (ts := ts) (g := fun _ => ()) (fun _ _ _ _ _ => rfl) ts.length (Nat.le_refl _)).1
  rcases Nat.lt_trichotomy i j with hl | hl | hl
  · exact (h1 j i hj hl (meet_symm h)).symm
  · rw [hl]
  · exact h1 i j hi hl h
theorem pt_least {α : Type} {g : Nat → α} (hg : ∀ a b, a < ts.length → b < ts.length → meetP (ts.getD a noTen) (ts.getD b noTen) → g a = g b) {u v : Nat} (hu : u < ts.length) (hv : v < ts.length) (h : (ptP ts).getD u 0 = (ptP ts).getD v 0) : g u = g v :=
  (ptO_all hg ts.length (Nat.le_refl _)).2 u v hu hv h
end
end Go.Proofs.YtdkgaejmgnojhaaGreat
namespace Go.Proofs.YtdkgaejmgnojhaaGreat
set_option maxRecDepth 100000
open Go.RowKit
def nodesR (m : Nat) : List Int := (List.range m).map Int.ofNat
theorem nodesR_len (m : Nat) : (nodesR m).length = m := by simp [nodesR]
theorem nodesR_at {m u : Nat} (h : u < m) : (nodesR m).getD u 0 = u := by simp [nodesR, List.getD, h]
def edg (ts : List Ten) (i j : Nat) : List (Nat × Nat) := ((ts.getD i noTen).l.take j).map fun x => (i, ts.length + x.toNat)
def edgTo (ts : List Ten) (i : Nat) : List (Nat × Nat) := (List.range i).flatMap fun q => edg ts q (ts.getD q noTen).l.length
theorem edg_zero (ts : List Ten) (i : Nat) : edg ts i 0 = [] := by simp [edg]
theorem edg_step {ts : List Ten} {i j : Nat} (h : j < (ts.getD i noTen).l.length) : edg ts i (j + 1) = edg ts i j ++ [(i, ts.length + ((ts.getD i noTen).l.getD j 0).toNat)] := by
  unfold edg
  rw [List.take_succ_eq_append_getElem h, List.map_append]; have e : (ts.getD i noTen).l.getD j 0 = (ts.getD i noTen).l[j] := by rw [List.getD, List.getElem?_eq_getElem h]; rfl
  rw [e]; rfl
theorem edgTo_step (ts : List Ten) (i : Nat) : edgTo ts (i + 1) = edgTo ts i ++ edg ts i (ts.getD i noTen).l.length := by simp [edgTo, List.range_succ, List.flatMap_append]
theorem mem_edgTo {ts : List Ten} {i : Nat} {e : Nat × Nat} : e ∈ edgTo ts i ↔ e.1 < i ∧ ∃ x ∈ (ts.getD e.1 noTen).l, e.2 = ts.length + x.toNat := by
  unfold edgTo edg
  rw [List.mem_flatMap]
  constructor
  · rintro ⟨q, hq, he⟩; rw [List.take_length] at he; obtain ⟨x, hx, rfl⟩ := List.mem_map.1 he; exact ⟨List.mem_range.1 hq, x, hx, rfl⟩
  · rintro ⟨hi, x, hx, he⟩; refine ⟨e.1, List.mem_range.2 hi, ?_⟩; rw [List.take_length]; exact List.mem_map.2 ⟨x, hx, by rw [← he]⟩
section
variable {k p n : Int} {ts : List Ten} {op : List Int}
theorem net_lab (h : netL k p n ts op) {i : Nat} (hi : i < ts.length) {x : Int} (hx : x ∈ (ts.getD i noTen).l) : 0 ≤ x ∧ x ≤ 99 := by
  have ht : ts.getD i noTen ∈ ts := by simp [List.getD, hi]
  obtain ⟨j, hj⟩ := List.getElem?_of_mem hx; have hjl := (List.getElem?_eq_some_iff.1 hj).1; have ha := (net_axes h _ ht).2.2 j hjl
  unfold axP at ha
  have e : (ts.getD i noTen).l.getD j 0 = x := by rw [List.getD, hj]; rfl
  rw [e] at ha; exact ha.1
theorem edg_in (h : netL k p n ts op) {i : Nat} (hi : i ≤ ts.length) : inE (ts.length + 100) (edgTo ts i) := fun e he => by
  obtain ⟨h1, x, hx, h2⟩ := mem_edgTo.1 he; have := net_lab h (by omega) hx
  omega
def forL (ts : List Ten) : Prop := okE (nodesR (ts.length + 100)) (edgTo ts ts.length)
end
end Go.Proofs.YtdkgaejmgnojhaaGreat
namespace Go.Proofs.YtdkgaejmgnojhaaGreat
set_option maxRecDepth 100000
open Go.RowKit
/-- Elements one behind the other. -/
def mapE (d : Nat) (g : Nat → List Int) : List Int := (List.range d).flatMap g
theorem mapE_elt {k n : Int} {d : Nat} {g : Nat → List Int} (hw : 1 ≤ widthI k n) (hg : ∀ v, v < d → (g v).length = (widthI k n).toNat) {v : Nat} (hv : v < d) : elt (mapE d g) (widthI k n) v = g v := by
  have h := elt_flat (e := g) (W := (widthI k n).toNat) (l := List.range d) (fun m hm => hg m (List.mem_range.1 hm)) (i := v) (by simpa using hv); rw [Int.toNat_of_nonneg (by omega), List.getElem_range] at h; exact h
theorem mapE_len {W d : Nat} {g : Nat → List Int} (hg : ∀ v, v < d → (g v).length = W) : (mapE d g).length = d * W := by
  unfold mapE
  rw [flat_len_all fun m hm => hg m (List.mem_range.1 hm), List.length_range]
theorem mapE_congr {d : Nat} {g h : Nat → List Int} (e : ∀ v, v < d → g v = h v) : mapE d g = mapE d h := by
  unfold mapE
  rw [List.flatMap_def, List.flatMap_def, List.map_congr_left fun v hv => e v (List.mem_range.1 hv)]
theorem mapE_step (d : Nat) (g : Nat → List Int) : mapE (d + 1) g = mapE d g ++ g d := by simp [mapE, List.range_succ, List.flatMap_append]
/-- The coordinate of a label at an offset. -/
def co (t : Ten) (y : Int) (o : Nat) : Int := (idxL t.d o).getD (findI t.l y).toNat 0
section
variable {k p n : Int} {t : Ten}
theorem co_in (h : tensorL k p n t.l t.d t.x) {y : Int} (hy : y ∈ t.l) (o : Nat) : 0 ≤ co t y o ∧ co t y o < t.d.getD (findI t.l y).toNat 0 := by
  have ha := ten_axes h; have hd := dims_mem (axes_dims ha); have hi := idxL_in (ds := t.d) (fun d hd' => (hd d hd').1) (o : Int); have hg := findI_get hy; exact hi.2 _ (by have := ha.2.1; omega)
def oneAx (y d : Int) (X : List Int) : Ten := ⟨[y], [d], X⟩
/-- A message fits a label. -/
def MsgOK (k p n : Int) (d : Nat) (X : List Int) : Prop := X.length = d * (widthI k n).toNat ∧ ∀ v : Nat, v < d → InR k p n (elt X (widthI k n) v)
theorem elt_msg (hr : ringL k p n) {d : Nat} {g : Nat → List Int} (hg : ∀ v, v < d → InR k p n (g v)) : MsgOK k p n d (mapE d g) := by
  have hw := width_range hr; refine ⟨mapE_len fun v hv => (hg v hv).1, fun v hv => ?_⟩; rw [mapE_elt hw.1 (fun v hv => (hg v hv).1) hv]; exact hg v hv
theorem msg_all {d : Nat} {X : List Int} (hr : ringL k p n) (h : MsgOK k p n d X) : ∀ a ∈ X, 0 ≤ a ∧ a ≤ topI k p n := fun a ha => by
  have hw := width_range hr; obtain ⟨q, hq⟩ := List.getElem?_of_mem ha; have hl := (List.getElem?_eq_some_iff.1 hq).1; rw [h.1] at hl; have hW : 1 ≤ (widthI k n).toNat := by omega
  have hv : q / (widthI k n).toNat < d := Nat.div_lt_of_lt_mul (by rw [Nat.mul_comm]; exact hl); have hm := Nat.mod_lt q (show (widthI k n).toNat > 0 by omega); have hin := (h.2 _ hv).2; refine hin a ?_; have e : (((q / (widthI k n).toNat : Nat) : Int) * widthI k n).toNat = q / (widthI k n).toNat * (widthI k n).toNat := by
    obtain ⟨m, hm⟩ : ∃ m : Nat, widthI k n = m := ⟨(widthI k n).toNat, by omega⟩
    rw [hm, Int.toNat_natCast, ← Int.natCast_mul, Int.toNat_natCast]
  have h3 : (elt X (widthI k n) ((q / (widthI k n).toNat : Nat) : Int))[q % (widthI k n).toNat]? = some a := by
    rw [elt_get?, if_pos hm, e, Nat.div_add_mod' q]; exact hq
  exact List.mem_of_getElem? h3
theorem oneAx_ten (hr : ringL k p n) {y : Int} (hy : 0 ≤ y ∧ y ≤ 99) {d : Nat} (hd : 1 ≤ d ∧ d ≤ 8) {X : List Int} (h : MsgOK k p n d X) : tensorL k p n (oneAx y d X).l (oneAx y d X).d (oneAx y d X).x := by
  have hw := width_range hr; have hax : axesL [y] [(d : Int)] := ⟨by simp, rfl, fun j hj => by
    have : j = 0 := by simpa using hj
    subst this; exact ⟨by simpa using hy, by simp; omega, by simp⟩⟩
  have hp : prodI [(d : Int)] = d := by simp [prodI]
  have hs : sizeI [y] [(d : Int)] = d := by rw [sizeI_yes hax (by rw [hp]; omega), hp]
  refine ⟨hr, by show 0 ≤ sizeI [y] [(d : Int)]; omega, ?_, msg_all hr h⟩
  show (X.length : Int) = sizeI [y] [(d : Int)] * widthI k n
  rw [hs, h.1, Int.natCast_mul, Int.toNat_of_nonneg (by omega)]
/-- The sum of the elements at one coordinate. -/
noncomputable def sumM (k p n : Int) (g : Nat → List Int) (t : Ten) (x v : Int) : Nat → List Int
  | 0 => zeroL k p n
  | o + 1 => if co t x o = v then addL k p (sumM k p n g t x v o) (g o) else sumM k p n g t x v o
theorem sumM_yes {g : Nat → List Int} {x v : Int} {o : Nat} (h : co t x o = v) : sumM k p n g t x v (o + 1) = addL k p (sumM k p n g t x v o) (g o) := by rw [sumM, if_pos h]
theorem sumM_no {g : Nat → List Int} {x v : Int} {o : Nat} (h : co t x o ≠ v) : sumM k p n g t x v (o + 1) = sumM k p n g t x v o := by rw [sumM, if_neg h]
theorem sumM_in (hr : ringL k p n) {g : Nat → List Int} {x v : Int} : ∀ m, (∀ o, o < m → InR k p n (g o)) → InR k p n (sumM k p n g t x v m)
  | 0, _ => zeroL_in hr
  | m + 1, h => by
    have ih := sumM_in hr (x := x) (v := v) m fun o ho => h o (by omega)
    by_cases c : co t x m = v
    · rw [sumM_yes c]; exact addL_in hr ih (h m (by omega))
    · rw [sumM_no c]; exact ih
theorem sumM_congr {g h : Nat → List Int} {x v : Int} : ∀ m, (∀ o, o < m → g o = h o) → sumM k p n g t x v m = sumM k p n h t x v m
  | 0, _ => rfl
  | m + 1, e => by
    have ih := sumM_congr (x := x) (v := v) m fun o ho => e o (by omega); rw [sumM, sumM, ih, e m (by omega)]
end
end Go.Proofs.YtdkgaejmgnojhaaGreat
namespace Go.Proofs.YtdkgaejmgnojhaaGreat
set_option maxRecDepth 100000
open Go.RowKit
/-- The product of a tensor's element and the messages of its first labels but one. -/
noncomputable def mulM (k p n : Int) (t : Ten) (x : Int) (M : Int → List Int) (o : Nat) : Nat → List Int
  | 0 => elt t.x (widthI k n) o
  | j + 1 => if t.l.getD j 0 ≠ x then mulL k p n (mulM k p n t x M o j) (elt (M (t.l.getD j 0)) (widthI k n) (co t (t.l.getD j 0) o)) else mulM k p n t x M o j
/-- The product of the messages of the first tensors, but one, to a value of a label. -/
noncomputable def lblM (k p n : Int) (ts : List Ten) (x kk : Int) (T : Nat → List Int) (v : Nat) : Nat → List Int
  | 0 => oneL k p n
  | i + 1 => if (i : Int) ≠ kk ∧ x ∈ (ts.getD i noTen).l then mulL k p n (lblM k p n ts x kk T v i) (elt (T i) (widthI k n) v) else lblM k p n ts x kk T v i
noncomputable def msg (k p n : Int) (ts : List Ten) : Nat → (Nat → Int → List Int) × (Int → Int → List Int)
  | 0 => (fun _ x => mapE (dimOf ts x).toNat fun _ => oneL k p n, fun x _ => mapE (dimOf ts x).toNat fun _ => oneL k p n)
  | f + 1 => (fun i x => mapE (dimOf ts x).toNat fun v => sumM k p n (fun o => mulM k p n (ts.getD i noTen) x (fun y => (msg k p n ts f).2 y i) o (ts.getD i noTen).l.length) (ts.getD i noTen) x v (prodI (ts.getD i noTen).d).toNat,
      fun x kk => mapE (dimOf ts x).toNat fun v => lblM k p n ts x kk (fun i => (msg k p n ts f).1 i x) v ts.length)
section
variable {k p n : Int} {ts : List Ten} {op : List Int}
theorem mulM_yes {t : Ten} {x : Int} {M : Int → List Int} {o j : Nat} (h : t.l.getD j 0 ≠ x) : mulM k p n t x M o (j + 1) = mulL k p n (mulM k p n t x M o j) (elt (M (t.l.getD j 0)) (widthI k n) (co t (t.l.getD j 0) o)) := by rw [mulM, if_pos h]
theorem mulM_no {t : Ten} {x : Int} {M : Int → List Int} {o j : Nat} (h : t.l.getD j 0 = x) : mulM k p n t x M o (j + 1) = mulM k p n t x M o j := by rw [mulM, if_neg (fun e => e h)]
theorem lblM_yes {x kk : Int} {T : Nat → List Int} {v i : Nat} (h : (i : Int) ≠ kk ∧ x ∈ (ts.getD i noTen).l) : lblM k p n ts x kk T v (i + 1) = mulL k p n (lblM k p n ts x kk T v i) (elt (T i) (widthI k n) v) := by rw [lblM, if_pos h]
theorem lblM_no {x kk : Int} {T : Nat → List Int} {v i : Nat} (h : ¬ ((i : Int) ≠ kk ∧ x ∈ (ts.getD i noTen).l)) : lblM k p n ts x kk T v (i + 1) = lblM k p n ts x kk T v i := by rw [lblM, if_neg h]
theorem ten_in (h : netL k p n ts op) {i : Nat} (hi : i < ts.length) : tensorL k p n (ts.getD i noTen).l (ts.getD i noTen).d (ts.getD i noTen).x := h.2.2.1 _ (by simp [List.getD, hi])
theorem dim_at (h : netL k p n ts op) {i : Nat} (hi : i < ts.length) {x : Int} (hx : x ∈ (ts.getD i noTen).l) : (ts.getD i noTen).d.getD (findI (ts.getD i noTen).l x).toNat 0 = dimOf ts x := (net_dim h (by simp [List.getD, hi]) hx).symm
theorem mulM_in (h : netL k p n ts op) {i : Nat} (hi : i < ts.length) {x : Int} {M : Int → List Int} (hM : ∀ y ∈ (ts.getD i noTen).l, y ≠ x → MsgOK k p n (dimOf ts y).toNat (M y)) {o : Nat} (ho : (o : Int) < prodI (ts.getD i noTen).d) : ∀ j, j ≤ (ts.getD i noTen).l.length → InR k p n (mulM k p n (ts.getD i noTen) x M o j)
  | 0, _ => elt_inR (ten_in h hi) (by omega) ho
  | j + 1, hj => by
    have ih := mulM_in h hi hM ho j (by omega)
    by_cases c : (ts.getD i noTen).l.getD j 0 = x
    · rw [mulM_no c]; exact ih
    · rw [mulM_yes c]; have hy : (ts.getD i noTen).l.getD j 0 ∈ (ts.getD i noTen).l := mem_getD (by omega); have hc := co_in (ten_in h hi) hy o; rw [dim_at h hi hy] at hc; have h2 := (hM _ hy c).2 (co (ts.getD i noTen) ((ts.getD i noTen).l.getD j 0) o).toNat (by omega); rw [Int.toNat_of_nonneg hc.1] at h2; exact mulL_in h.1 ih h2
theorem lblM_in (hr : ringL k p n) {x kk : Int} {T : Nat → List Int} {v : Nat} (hT : ∀ i, i < ts.length → x ∈ (ts.getD i noTen).l → InR k p n (elt (T i) (widthI k n) v)) : ∀ i, i ≤ ts.length → InR k p n (lblM k p n ts x kk T v i)
  | 0, _ => oneL_in hr
  | i + 1, hi => by
    have ih := lblM_in hr (kk := kk) hT i (by omega)
    by_cases c : (i : Int) ≠ kk ∧ x ∈ (ts.getD i noTen).l
    · rw [lblM_yes c]; exact mulL_in hr ih (hT i (by omega) c.2)
    · rw [lblM_no c]; exact ih
/-- Every message fits its label. -/
theorem msg_ok (h : netL k p n ts op) : ∀ f, (∀ i x, i < ts.length → x ∈ (ts.getD i noTen).l → MsgOK k p n (dimOf ts x).toNat ((msg k p n ts f).1 i x)) ∧ (∀ x kk, MsgOK k p n (dimOf ts x).toNat ((msg k p n ts f).2 x kk))
  | 0 => ⟨fun i x _ _ => elt_msg h.1 fun v _ => oneL_in h.1, fun x kk => elt_msg h.1 fun v _ => oneL_in h.1⟩
  | f + 1 => by
    obtain ⟨h1, h2⟩ := msg_ok h f; refine ⟨fun i x hi hx => elt_msg h.1 fun v hv => sumM_in h.1 _ fun o ho => mulM_in h hi (fun y _ _ => h2 y i) (by omega) _ (Nat.le_refl _), fun x kk => elt_msg h.1 fun v hv => lblM_in h.1 (fun i hi hx => (h1 i x hi hx).2 v hv) _ (Nat.le_refl _)⟩
end
end Go.Proofs.YtdkgaejmgnojhaaGreat
namespace Go.Proofs.YtdkgaejmgnojhaaGreat
set_option maxRecDepth 100000
open Go.RowKit
/-- The arguments' part with fresh ones beside it. -/
def UnW (w : World) (H : PH) : Prop := ∃ hl, PDj hl (hp w) ∧ H = PUn hl (hp w)
theorem UnW.start (w : World) : UnW w (hp w) := ⟨emp, PDj.emp _, rfl⟩
theorem UnW.le {w : World} {H : PH} (h : UnW w H) : PLe (hp w) H := by obtain ⟨hl, d, rfl⟩ := h; exact PLe.un_r d
theorem UnW.add {w : World} {H g : PH} (h : UnW w H) (d : PDj g H) : UnW w (PUn g H) := by
  obtain ⟨hl, d1, rfl⟩ := h; refine ⟨PUn g hl, PDj.un (d.symm.mono (PLe.un_r d1)).symm d1, ?_⟩
  funext k
  unfold PUn
  cases g k <;> rfl
end Go.Proofs.YtdkgaejmgnojhaaGreat
namespace Go.Proofs.YtdkgaejmgnojhaaGreat
set_option maxRecDepth 100000
open Go.RowKit
def LR (l : List Int) (cs : List Value) (h : PH) : Prop := ∃ v, cs = [v] ∧ IntsR l v h
theorem LR.mono {l : List Int} {cs : List Value} {h h' : PH} (r : LR l cs h) (q : PLe h h') : LR l cs h' := by
  obtain ⟨v, e, r1⟩ := r; exact ⟨v, e, r1.mono q⟩
def LLR (bs : List (List Int)) (v : Value) (h : PH) : Prop := RowsR 1 LR bs v h
theorem LLR.mono {bs : List (List Int)} {v : Value} {h h' : PH} (r : LLR bs v h) (l : PLe h h') : LLR bs v h' := RowsR.mono (R := LR) LR.mono r l
theorem LLR.sl {bs : List (List Int)} {v : Value} {h : PH} (r : LLR bs v h) : SlL v bs.length := RowsR.sl r
theorem LLR.at {bs : List (List Int)} {v : Value} {h : PH} (r : LLR bs v h) : ∃ cells, RowR cells bs.length 1 v h ∧ ∀ i, i < bs.length → ∃ l a, bs[i]? = some l ∧ (cells.drop (i * 1)).take 1 = [a] ∧ IntsR l a h := by
  obtain ⟨cells, rr, hc⟩ := r; refine ⟨cells, rr, fun i hi => ?_⟩; have ht : bs[i]? = some bs[i] := List.getElem?_eq_getElem hi; obtain ⟨a, e, r1⟩ := hc i _ ht; exact ⟨_, a, ht, e, r1⟩
/-- Lists that own their parts. -/
def LLO (bs : List (List Int)) (v : Value) (h : PH) : Prop := ∃ vs h0 hs, RowO 26 vs bs.length 1 v h0 ∧ OwnL bs vs hs ∧ Made h (h0 :: hs)
theorem LLO.toR {bs : List (List Int)} {v : Value} {h : PH} (r : LLO bs v h) : LLR bs v h := by
  obtain ⟨vs, h0, hs, r0, o, m⟩ := r; refine ⟨vs, r0.toR.mono (m.le h0 (by simp)), fun i x hx => ?_⟩; obtain ⟨a, g, e1, e2, q⟩ := o.own i x hx; refine ⟨a, ?_, q.toR.mono (m.le g (by simp [List.mem_of_getElem? e2]))⟩
  apply List.ext_getElem?
  intro j; rw [List.getElem?_take]
  match j with
  | 0 => simpa using e1
  | j + 1 => rw [if_neg (by omega)]; simp
end Go.Proofs.YtdkgaejmgnojhaaGreat
namespace Go.Proofs.YtdkgaejmgnojhaaGreat
set_option maxRecDepth 100000
open Go.RowKit
section
variable {P : Program} {n : Nat} {w0 : World} {K : Env} {HS : List PH} {d : Option Tmp} {ty : TypeId} {ps : String} {af : Array Edge} {g : Option (Nat × Bool)}
/-- A slice held against nil. -/
theorem v_neqNil {t t' e' : TypeId} {x y : Operand} {xs : List Int} {v : Value} {h : PH} (ht : P.underlying t = some (.slice e')) (hx : ev K x = some v) (hy : ev K y = some (.slice none 0 0)) (r : IntsR xs v h) (hn : xs = [] → v = .slice none 0 0) : StepV P n w0 K HS ⟨d, .binOp .neq t x y t', ty, ps, af, g⟩ (.bool (decide (xs ≠ []))) :=
  fun ac w e _ => by
    obtain ⟨_, a, c, rfl, _, hp⟩ := r; have hb : (!a.isNone) = decide (xs ≠ []) := by
      by_cases hxs : xs = []
      · have := hn hxs; simp only [Value.slice.injEq] at this; rw [this.1, hxs]; rfl
      · obtain ⟨b, o, e1, _⟩ := hp (by have := List.length_pos_iff.2 hxs; omega); rw [e1, decide_eq_true hxs]; rfl
    have := run_neq_slice_nil_any (P := P) w t e' a xs.length c 0 0 ht; rw [hb] at this; simp only [execOp, e.ev hx, e.ev hy, eqGuard, Sem.run_bind]
    simp [this]
theorem x_build1 {t e' : TypeId} {parts : Array (Nat × Operand)} {z : Value} {bytes m : Nat} {agg : Bool} {v : Value} (hs : SlL v m) (ht : P.underlying t = some (.slice e')) (he : TyF P e' z 1 bytes agg) (hev : evP K parts.toList = some [(0, v)]) :
    StepX P n w0 K HS ⟨d, .buildSlice t 1 parts, ty, ps, af, g⟩ emp (RowO e' [v] 1 1) := by
  obtain ⟨a, c, rfl⟩ := hs; exact x_buildS [.slice a m c] ht he (by decide) hev rfl rfl (by decide) (by decide) (by intro v hv; simp at hv; subst hv; rfl)
end
theorem Made.one (h : PH) : Made h [h] := ⟨⟨fun x hx => (List.not_mem_nil hx).elim, trivial⟩, fun x hx => by rw [List.mem_singleton.1 hx]; exact PLe.refl _, fun k o e => ⟨h, List.mem_singleton.2 rfl, e⟩⟩
theorem OwnL.uno {xs : List Int} {v : Value} {h : PH} (r : IntsO xs v h) : OwnL [xs] [v] [h] := by
  refine ⟨rfl, rfl, fun i ys e => ?_⟩
  match i, e with
  | 0, e => cases e; exact ⟨v, h, rfl, rfl, r⟩
  | i + 1, e => simp at e
theorem OwnH.add {xss : List (List Int)} {xs : List Int} {vs : List Value} {v : Value} {h h' : PH} (o : OwnH xss vs h) (r : IntsO xs v h') (hd : PDj h h') : OwnH (xss ++ [xs]) (vs ++ [v]) (PUn h h') := by
  obtain ⟨l, ol, m⟩ := o; exact ⟨l ++ [h'], ol.append (OwnL.uno r), m.un (Made.one h') hd⟩
theorem ct_i_shareLabel (t u : Ten) (a b : Value) (w : World) (r1 : IntsR t.l a (hp w)) (r2 : IntsR u.l b (hp w)) :
    Calls Tryz.prog 43 [a, b].toArray w (RetV w (.bool (meetB t u))) := by
  refine calls_in Tryz.func43 rfl Tryz.ntmps43 rfl (Sat.start w) ?_; have hle0 := r1.le; have hle1 := r2.le; refine wp_sc (wp_sq (sq_v rfl (v_assign rfl) rfl (sq_end (qs_n (wp_sc (wp_sc (wp_sq (sq_v rfl (v_move rfl) rfl (sq_v rfl (v_len Tryz.underlying26 rfl r1.sl) rfl (sq_v rfl (v_move rfl) rfl (sq_end (qs_n (wp_bl ?_))))))))))))); refine wp_lp (σ := Nat) (fun z_ => [(1, b), (4, .bool false), (7, a), (8, num t.l.length), (9, num z_)]) (fun z_ => [hp w]) (fun z_ => z_ ≤ t.l.length ∧ (∀ j, j < z_ → t.l.getD j 0 ∉ u.l)) (fun z_ => t.l.length - z_) 0 (⟨by omega, fun j hj => by omega⟩) ⟨rfl, rfl, rfl, rfl, (by first | rfl | exact ksub rfl (by first | omega | (simp; done) | (simp; omega))), trivial⟩ (fun _ s => s) ?_; rintro i ⟨hi, hall⟩; refine wp_sc (wp_sq (sq_v rfl (v_lss rfl rfl) rfl (sq_end (qs_n (wp_sc ?_))))); refine wp_cd rfl (fun c10 => ?_) (fun c10 => ?_)
  · refine wp_sk (qs_n (wp_sc (wp_bl (wp_sc (wp_sq ?_))))); refine sq_v rfl (v_idxI Tryz.underlying26 ty_3 rfl rfl r1 (by first | omega | (simp; omega) | (simp only [List.length_append, List.length_cons, List.length_nil]; omega) | (rw [List.length_set]; omega)) (by first | omega | (simp; omega) | (simp only [List.length_append, List.length_cons, List.length_nil]; omega) | (rw [List.length_set]; omega))) rfl ?_; refine sq_v rfl (v_loadI (k := i) 0 ty_3 rfl rfl r1 (by first | omega | (simp; omega) | (simp only [List.length_append, List.length_cons, List.length_nil]; omega) | (rw [List.length_set]; omega))) rfl ?_; refine sq_v rfl (v_assign rfl) rfl (sq_end (qs_n (wp_sc (wp_sq (sq_v rfl (v_move rfl) rfl (sq_v rfl (v_move rfl) rfl (sq_u rfl (x_callv rfl en_23 (fun w s => ct_i_hasInt _ _ _ w (r2.mono (s.get 0 rfl)))) rfl (sq_end (qs_n ?_))))))))); refine wp_cd rfl (fun c15 => ?_) (fun c15 => ?_)
    · refine wp_sc (wp_sq (sq_v rfl (v_assign rfl) rfl (sq_end (qs_n (wp_rt (qs_br (qs_r (qs_r (qs_br (qs_r ?_)))))))))); exact qs_ret1 rfl rfl (fin_q (i := 0) rfl (by rw [meetB_true.2 ⟨_, mem_getD (k := i) (by omega), c15⟩]))
    · refine wp_sk (qs_bn (qs_n (wp_sq ?_))); refine sq_v rfl (v_add rfl rfl ((by unfold I64; omega))) rfl ?_; refine sq_v rfl (v_move rfl) rfl (sq_end ?_); exact qs_bk (i + 1) ⟨by omega, fun j hj => (Nat.lt_or_ge j i).elim (hall j) (fun h => by rw [show j = i by omega]; exact c15)⟩ (by omega) ⟨rfl, rfl, rfl, rfl, (by first | rfl | exact ksub rfl (by first | omega | (simp; done) | (simp; omega))), trivial⟩ (fun _ s => s)
  · refine wp_ex (qs_x (qs_x (qs_bx (qs_n (wp_sc (wp_sq (sq_v rfl (v_assign rfl) rfl (sq_end (qs_n (wp_rt ?_)))))))))); exact qs_ret1 rfl rfl (fin_q (i := 0) rfl (by rw [meetB_no (fun h => by obtain ⟨x, hx, hu⟩ := h; obtain ⟨j, hj, e⟩ := getD_of_mem hx; exact hall j (by omega) (by rw [e]; exact hu))]))
def fillI (n i : Nat) : List Int := (List.range i).map Int.ofNat ++ List.replicate (n - i) 0
theorem fill_zero (n : Nat) : fillI n 0 = List.replicate ((n : Int)).toNat 0 := by simp [fillI]
theorem fill_len {n i : Nat} (h : i ≤ n) : (fillI n i).length = n := by simp [fillI]; omega
theorem fill_all (ts : List Ten) : fillI ts.length ts.length = ptO ts 0 := by simp [fillI, ptO]
theorem fill_set {n i : Nat} (h : i < n) : (fillI n i).set i (i : Int) = fillI n (i + 1) := by
  have hl : ((List.range i).map Int.ofNat).length = i := by simp
  obtain ⟨r, hr⟩ : ∃ r, n - i = r + 1 := ⟨n - i - 1, by omega⟩
  unfold fillI
  rw [List.set_append_right _ _ (by omega), hl, Nat.sub_self, hr, List.replicate_succ, List.set_cons_zero, List.range_succ, List.map_append, List.append_assoc, show n - (i + 1) = r by omega]
  rfl
theorem LLO.of {bs : List (List Int)} {cs : List Value} {v : Value} {h ha hl : PH} (rr : RowO 26 cs bs.length 1 v ha) (o : OwnH bs cs hl) (md : Made h [ha, hl]) : LLO bs v h := by
  obtain ⟨l, ol, ml⟩ := o; refine ⟨cs, ha, l, rr, ol, ⟨⟨fun x hx => ?_, ml.sep⟩, fun x hx => ?_, fun k o e => ?_⟩⟩
  · exact ((md.sep.1 hl (by simp)).symm.mono (ml.le x hx)).symm
  · rcases List.mem_cons.1 hx with rfl | hx
    · exact md.le _ (by simp)
    · exact (ml.le x hx).trans (md.le hl (by simp))
  · obtain ⟨x, hx, hxe⟩ := md.dom k o e
    rcases List.mem_cons.1 hx with rfl | hx
    · exact ⟨x, by simp, hxe⟩
    · rw [List.mem_singleton.1 hx] at hxe; obtain ⟨y, hy, hye⟩ := ml.dom k o hxe; exact ⟨y, by simp [hy], hye⟩
set_option maxHeartbeats 4000000 in
theorem ct_i_PartsOf (k p n : Int) (ts : List Ten) (op : List Int) (vt vo : Value) (w : World) (r : TensR ts vt (hp w)) (r' : IntsR op vo (hp w)) (hs : op.length ≤ 1048576) (hnet : netL k p n ts op) :
    Calls Tryz.prog 18 [netV k p n vt vo].toArray w (Ret w emp (LLO (partsL ts))) := by
  have h12 := hnet.2.1; refine calls_in Tryz.func18 rfl Tryz.ntmps18 rfl (Sat.start w) ?_; have hle0 := r.le; obtain ⟨cs_r, rr_r, hc_r⟩ := r.at; have hle1 := r'.le; refine wp_sc (wp_sq ?_); refine sq_x rfl (x_box rfl rfl) rfl ?_; rintro _ _ ⟨b1, rfl, rfl⟩; refine sq_v rfl (v_assign rfl) rfl (sq_end (qs_n (wp_sc (wp_sc (wp_sq (sq_v rfl (v_loadNB 0 ty_28 rfl rfl rfl rfl) rfl (sq_u rfl (x_callv rfl en_26 (fun w s => ct_i_NetworkOk _ _ _ _ _ _ _ w (r.mono (s.get 1 rfl)) (r'.mono (s.get 1 rfl)) (by first | assumption | omega))) rfl (sq_v rfl (v_not rfl) rfl (sq_end (qs_n ?_)))))))))); refine wp_cn _ rfl (fun c18 => ?_) (fun c18 => ?_)
  · refine wp_sc (wp_sq (sq_v rfl (v_assign rfl) rfl (sq_end (qs_n (wp_rt (qs_r ?_))))))
    exfalso; rw [netB_true.2 hnet] at c18; cases c18
  · refine wp_sk (qs_n (wp_sc (wp_sq (sq_v rfl (v_fieldAddr fd_28_1 ty_25 (by decide) rfl) rfl (sq_v rfl (v_loadB 0 ty_25 rfl rfl rfl) rfl (sq_v rfl (v_len Tryz.underlying25 rfl r.sl) rfl ?_)))))); refine sq_x rfl (x_makeI Tryz.underlying26 ty_3 rfl rfl (by first | omega | (simp; omega) | (simp only [List.length_append, List.length_cons, List.length_nil]; omega) | (rw [List.length_set]; omega)) (by first | omega | (simp; omega) | (simp only [List.length_append, List.length_cons, List.length_nil]; omega) | (rw [List.length_set]; omega)) (by first | omega | (simp; omega) | (simp only [List.length_append, List.length_cons, List.length_nil]; omega) | (rw [List.length_set]; omega))) rfl ?_; intro v22 h22 r22; refine sq_v rfl (v_assign rfl) rfl (sq_end (qs_n (wp_sc (wp_sc (wp_sq (sq_v rfl (v_move rfl) rfl (sq_v rfl (v_len Tryz.underlying26 rfl r22.toR.sl) rfl (sq_v rfl (v_move rfl) rfl (sq_end ?_))))))))); have hrep : (List.replicate (ts.length : Int).toNat (0 : Int)).length = ts.length := by rw [List.length_replicate]; omega
    refine qs_n (wp_bl ?_); refine wp_lp (σ := Nat × PH) (fun z_ => [(1, .pointer (some ⟨b1, 0, none⟩)), (2, .slice none 0 0), (3, v22), (24, num (List.replicate (ts.length : Int).toNat 0).length), (25, num z_.1)]) (fun z_ => [z_.2, box b1 [num k, num p, num n, vt, vo] 28, hp w]) (fun z_ => z_.1 ≤ ts.length ∧ IntsO (fillI ts.length z_.1) v22 z_.2) (fun z_ => ts.length - z_.1) (0, h22) (⟨by (try dsimp only); omega, by (try dsimp only); rw [fill_zero]; exact r22⟩) ⟨rfl, rfl, rfl, rfl, (by first | rfl | exact ksub rfl (by first | omega | (simp; done) | (simp; omega))), trivial⟩ (fun _ s => s) ?_; rintro ⟨i, lh⟩ ⟨hi, q⟩; dsimp only at hi q ⊢; have hle_q := q.toR.le; have hfl := fill_len (n := ts.length) (i := i) hi; refine wp_sc (wp_sq (sq_v rfl (v_lss rfl rfl) rfl (sq_end (qs_n (wp_sc ?_))))); refine wp_cd rfl (fun c26 => ?_) (fun c26 => ?_)
    · refine wp_sk (qs_n (wp_sc (wp_bl (wp_sc (wp_sq (sq_v rfl (v_move rfl) rfl (sq_v rfl (v_assign rfl) rfl (sq_end (qs_n (wp_sq (sq_v rfl (v_move rfl) rfl (sq_v rfl (v_move rfl) rfl (sq_v rfl (v_move rfl) rfl ?_))))))))))))); refine sq_v rfl (v_idxI Tryz.underlying26 ty_3 rfl rfl q.toR (by first | omega | (simp; omega) | (simp only [List.length_append, List.length_cons, List.length_nil]; omega) | (rw [List.length_set]; omega)) (by first | omega | (simp; omega) | (simp only [List.length_append, List.length_cons, List.length_nil]; omega) | (rw [List.length_set]; omega))) rfl ?_; refine sq_m 0 rfl rfl (m_storeI (k := i) 0 ty_3 rfl rfl rfl q (by first | omega | (simp; omega) | (simp only [List.length_append, List.length_cons, List.length_nil]; omega) | (rw [List.length_set]; omega))) rfl ?_; rintro _ h_q7_4 ⟨rfl, q7_4⟩; refine sq_end (qs_bn (qs_n (wp_sq ?_))); refine sq_v rfl (v_add rfl rfl ((by unfold I64; omega))) rfl ?_; refine sq_v rfl (v_move rfl) rfl (sq_end ?_); exact qs_bk (i + 1, h_q7_4) ⟨by (try dsimp only); omega, by (try dsimp only); rw [← fill_set (by omega)]; exact q7_4⟩ (by simp only; omega) ⟨rfl, rfl, rfl, rfl, (by first | rfl | exact ksub rfl (by first | omega | (simp; done) | (simp; omega))), trivial⟩ (fun _ s => s)
    · refine wp_ex (qs_x (qs_x (qs_bx (qs_n (wp_sc (wp_sc (wp_sq (sq_v rfl (v_fieldAddr fd_28_1 ty_25 (by decide) rfl) rfl (sq_v rfl (v_loadB 1 ty_25 rfl rfl rfl) rfl (sq_v rfl (v_len Tryz.underlying25 rfl r.sl) rfl (sq_v rfl (v_move rfl) rfl (sq_end (qs_n (wp_bl ?_)))))))))))))); refine wp_lp (σ := Nat × PH) (fun z_ => [(1, .pointer (some ⟨b1, 0, none⟩)), (2, .slice none 0 0), (3, v22), (34, vt), (35, num ts.length), (36, num z_.1)]) (fun z_ => [z_.2, box b1 [num k, num p, num n, vt, vo] 28, hp w]) (fun z_ => z_.1 ≤ ts.length ∧ IntsO (ptO ts z_.1) v22 z_.2) (fun z_ => ts.length - z_.1) (0, lh) (⟨by (try dsimp only); omega, by (try dsimp only); rw [show i = ts.length by omega, fill_all] at q; exact q⟩) ⟨rfl, rfl, rfl, rfl, rfl, (by first | rfl | exact ksub rfl (by first | omega | (simp; done) | (simp; omega))), trivial⟩ (fun _ s => s) ?_; rintro ⟨i, lh⟩ ⟨hi, q⟩; dsimp only at hi q ⊢; have hle_q := q.toR.le; have hpo := ptO_ok ts i hi; refine wp_sc (wp_sq (sq_v rfl (v_lss rfl rfl) rfl (sq_end (qs_n (wp_sc ?_))))); refine wp_cd rfl (fun c37 => ?_) (fun c37 => ?_)
      · refine wp_sk (qs_n (wp_sc (wp_bl (wp_sc (wp_sq (sq_v rfl (v_move rfl) rfl ?_)))))); obtain ⟨t39, a39, b39, c39, ht39, hcs39, rl39, rd39, rx39⟩ := hc_r (i) (by first | omega | (rw [List.length_set]; omega)); refine sq_v rfl (v_indexAddr Tryz.underlying25 ty_40 rfl rfl rr_r (by decide) (by omega) (by omega)) rfl ?_; refine sq_v rfl (v_loadNE 2 ty_40 rfl rfl rr_r (by have := rr_r.1; omega) rfl hcs39) rfl ?_; refine sq_x rfl (x_alloc ty_40 rfl) rfl ?_; rintro _ _ ⟨b6, rfl, rfl⟩; refine sq_v rfl (v_assign rfl) rfl ?_; refine sq_m 0 rfl rfl (m_store 0 ty_40 rfl rfl rfl rfl (by simp [rl39.sl.one, rd39.sl.one, rx39.sl.one]) rfl (Nat.le_of_ble_eq_true rfl)) rfl ?_; rintro _ _ ⟨rfl, rfl⟩; refine sq_end ?_; have e39 : ts.getD i noTen = t39 := getD_ten ht39; refine qs_n (wp_sc (wp_sq (sq_v rfl (v_assign rfl) rfl (sq_end (qs_n (wp_bl ?_)))))); refine wp_lp (σ := Nat × PH) (fun z_ => [(1, .pointer (some ⟨b1, 0, none⟩)), (2, .slice none 0 0), (3, v22), (5, num i), (6, .pointer (some ⟨b6, 0, none⟩)), (7, num z_.1), (34, vt), (35, num ts.length), (36, num i), (37, .bool (decide ((i : Int) < ts.length))), (38, num i), (40, .agg [a39, b39, c39].toArray)]) (fun z_ => [box b6 [a39, b39, c39] 40, z_.2, box b1 [num k, num p, num n, vt, vo] 28, hp w]) (fun z_ => z_.1 ≤ i ∧ IntsO (ptI ts (ptO ts i) i z_.1) v22 z_.2) (fun z_ => i - z_.1) (0, lh) (⟨by (try dsimp only); omega, q⟩) ⟨rfl, rfl, rfl, rfl, rfl, (by first | rfl | exact ksub rfl (by first | omega | (simp; done) | (simp; omega))), rfl, rfl, rfl, rfl, rfl, rfl, trivial⟩ (fun _ s => s) ?_; rintro ⟨m, lh⟩ ⟨hm, q⟩; dsimp only at hm q ⊢; have hle_q := q.toR.le; have hpl := ptI_len (ts := ts) (P := ptO ts i) (i := i) m; refine wp_sc (wp_sc (wp_sq (sq_v rfl (v_move rfl) rfl (sq_v rfl (v_move rfl) rfl (sq_v rfl (v_lss rfl rfl) rfl (sq_end (qs_n ?_))))))); refine wp_cd rfl (fun c43 => ?_) (fun c43 => ?_)
        · refine wp_sk (qs_n (wp_sc (wp_bl (wp_sc (wp_sc (wp_rj 10 [(0, true), (1, true), (2, true), (3, true), (4, true), (5, true), (6, true), (7, true), (8, false), (9, true)] mixed_ok (by kernel_rfl) (rj_v rfl rfl (v_fieldAddr fd_40_0 ty_26 (by decide) rfl) rfl (rj_v rfl rfl (v_loadB 0 ty_26 rfl rfl rfl) rfl (rj_v rfl rfl (v_fieldAddr fd_28_1 ty_25 (by decide) rfl) rfl (rj_v rfl rfl (v_loadB 2 ty_25 rfl rfl rfl) rfl (rj_v rfl rfl (v_move rfl) rfl ?_))))))))))); obtain ⟨t51, a51, b51, c51, ht51, hcs51, rl51, rd51, rx51⟩ := hc_r (m) (by first | omega | (rw [List.length_set]; omega)); refine rj_v rfl rfl (v_indexAddr Tryz.underlying25 ty_40 rfl rfl rr_r (by decide) (by omega) (by omega)) rfl ?_; refine rj_v rfl rfl (v_fieldAddrE fd_40_0 ty_26 (by decide) rfl rr_r (by have := rr_r.1; first | omega | (simp only [Int.toNat_natCast]; omega) | (rw [stepCells_len, List.length_set]; omega))) rfl ?_; refine rj_v rfl rfl (v_loadE 3 ty_26 rfl rfl rr_r (sub_get hcs51 (j := 0) rfl)) rfl (rj_u rfl rfl (x_callv rfl en_43 (fun w s => ct_i_shareLabel _ _ _ _ w (rl39.mono (s.get 3 rfl)) (rl51.mono (s.get 3 rfl)))) rfl (rj_v rfl rfl (v_not rfl) rfl (rj_end ?_))); have e51 : ts.getD m noTen = t51 := getD_ten ht51; refine qs_n ?_; refine wp_cn _ rfl (fun c55 => ?_) (fun c55 => ?_)
          · refine wp_ex (qs_x (qs_bx (qs_n (wp_sq (sq_v rfl (v_move rfl) rfl ?_))))); refine sq_v rfl (v_add rfl rfl ((by unfold I64; omega))) rfl ?_; refine sq_v rfl (v_assign rfl) rfl (sq_end ?_); exact qs_bk (m + 1, lh) ⟨by (try dsimp only); omega, by (try dsimp only); rw [ptI_no (fun h => by rw [e39, e51] at h; have h1 := meetB_true.2 h; rw [c55] at h1; cases h1)]; exact q⟩ (by simp only; omega) ⟨rfl, rfl, rfl, rfl, rfl, (by first | rfl | exact ksub rfl (by first | omega | (simp; done) | (simp; omega))), rfl, rfl, rfl, rfl, rfl, rfl, trivial⟩ (fun _ s => s)
          · refine wp_sk (qs_n (wp_sc (wp_rj 20 [(0, true), (1, true), (2, true), (3, true), (4, true), (5, true), (6, true), (7, true), (8, true), (9, true), (10, true), (11, true), (12, true), (13, true), (14, true), (15, true), (16, true), (17, true), (18, true), (19, true)] mixed_ok (by kernel_rfl) (rj_v rfl rfl (v_move rfl) rfl (rj_v rfl rfl (v_move rfl) rfl ?_))))); refine rj_v rfl rfl (v_idxI Tryz.underlying26 ty_3 rfl rfl q.toR (by first | omega | (simp; omega) | (simp only [List.length_append, List.length_cons, List.length_nil]; omega) | (rw [List.length_set]; omega)) (by first | omega | (simp; omega) | (simp only [List.length_append, List.length_cons, List.length_nil]; omega) | (rw [List.length_set]; omega))) rfl ?_; refine rj_v rfl rfl (v_loadI (k := i) 1 ty_3 rfl rfl q.toR (by first | omega | (simp; omega) | (simp only [List.length_append, List.length_cons, List.length_nil]; omega) | (rw [List.length_set]; omega))) rfl ?_; refine rj_v rfl rfl (v_move rfl) rfl (rj_v rfl rfl (v_move rfl) rfl ?_); refine rj_v rfl rfl (v_idxI Tryz.underlying26 ty_3 rfl rfl q.toR (by first | omega | (simp; omega) | (simp only [List.length_append, List.length_cons, List.length_nil]; omega) | (rw [List.length_set]; omega)) (by first | omega | (simp; omega) | (simp only [List.length_append, List.length_cons, List.length_nil]; omega) | (rw [List.length_set]; omega))) rfl ?_; refine rj_v rfl rfl (v_loadI (k := m) 1 ty_3 rfl rfl q.toR (by first | omega | (simp; omega) | (simp only [List.length_append, List.length_cons, List.length_nil]; omega) | (rw [List.length_set]; omega))) rfl ?_; refine rj_v rfl rfl (v_min rfl rfl) rfl (rj_v rfl rfl (v_move rfl) rfl (rj_v rfl rfl (v_move rfl) rfl ?_)); refine rj_v rfl rfl (v_idxI Tryz.underlying26 ty_3 rfl rfl q.toR (by first | omega | (simp; omega) | (simp only [List.length_append, List.length_cons, List.length_nil]; omega) | (rw [List.length_set]; omega)) (by first | omega | (simp; omega) | (simp only [List.length_append, List.length_cons, List.length_nil]; omega) | (rw [List.length_set]; omega))) rfl ?_; refine rj_v rfl rfl (v_loadI (k := i) 1 ty_3 rfl rfl q.toR (by first | omega | (simp; omega) | (simp only [List.length_append, List.length_cons, List.length_nil]; omega) | (rw [List.length_set]; omega))) rfl ?_; refine rj_v rfl rfl (v_move rfl) rfl (rj_v rfl rfl (v_move rfl) rfl ?_); refine rj_v rfl rfl (v_idxI Tryz.underlying26 ty_3 rfl rfl q.toR (by first | omega | (simp; omega) | (simp only [List.length_append, List.length_cons, List.length_nil]; omega) | (rw [List.length_set]; omega)) (by first | omega | (simp; omega) | (simp only [List.length_append, List.length_cons, List.length_nil]; omega) | (rw [List.length_set]; omega))) rfl ?_; refine rj_v rfl rfl (v_loadI (k := m) 1 ty_3 rfl rfl q.toR (by first | omega | (simp; omega) | (simp only [List.length_append, List.length_cons, List.length_nil]; omega) | (rw [List.length_set]; omega))) rfl ?_; refine rj_v rfl rfl (v_max rfl rfl) rfl (rj_v rfl rfl (v_assign rfl) rfl (rj_v rfl rfl (v_assign rfl) rfl (rj_end (qs_n (wp_sc (wp_sq (sq_v rfl (v_move rfl) rfl (sq_v rfl (v_len Tryz.underlying26 rfl q.toR.sl) rfl (sq_v rfl (v_move rfl) rfl (sq_end (qs_n (wp_bl ?_))))))))))))
            refine wp_lp (σ := Nat × PH) (fun z_ => [(1, .pointer (some ⟨b1, 0, none⟩)), (2, .slice none 0 0), (3, v22), (5, num i), (6, .pointer (some ⟨b6, 0, none⟩)), (7, num m), (8, num (min ((ptI ts (ptO ts i) i m).getD i 0) ((ptI ts (ptO ts i) i m).getD m 0))), (9, num (max ((ptI ts (ptO ts i) i m).getD i 0) ((ptI ts (ptO ts i) i m).getD m 0))), (34, vt), (35, num ts.length), (36, num i), (37, .bool (decide ((i : Int) < ts.length))), (38, num i), (40, .agg [a39, b39, c39].toArray), (41, num m), (42, num i), (43, .bool (decide ((m : Int) < i))), (46, .pointer (some ⟨b6, 0, none⟩)), (47, a39), (48, .pointer (some ⟨b1, 3, none⟩)), (49, vt), (50, num m), (53, a51), (54, .bool (meetB t39 t51)), (55, .bool (!(meetB t39 t51))), (56, v22), (57, num i), (59, num ((ptI ts (ptO ts i) i m).getD i 0)), (60, v22), (61, num m), (63, num ((ptI ts (ptO ts i) i m).getD m 0)), (64, num (min ((ptI ts (ptO ts i) i m).getD i 0) ((ptI ts (ptO ts i) i m).getD m 0))), (65, v22), (66, num i), (68, num ((ptI ts (ptO ts i) i m).getD i 0)), (69, v22), (70, num m), (72, num ((ptI ts (ptO ts i) i m).getD m 0)), (73, num (max ((ptI ts (ptO ts i) i m).getD i 0) ((ptI ts (ptO ts i) i m).getD m 0))), (74, v22), (75, num (ptI ts (ptO ts i) i m).length), (76, num z_.1)]) (fun z_ => [box b6 [a39, b39, c39] 40, z_.2, box b1 [num k, num p, num n, vt, vo] 28, hp w]) (fun z_ => z_.1 ≤ ts.length ∧ IntsO (mrgI (ptI ts (ptO ts i) i m) ((ptI ts (ptO ts i) i m).getD i 0) ((ptI ts (ptO ts i) i m).getD m 0) z_.1) v22 z_.2) (fun z_ => ts.length - z_.1) (0, lh) (⟨by (try dsimp only); omega, by (try dsimp only); rw [mrgI_zero]; exact q⟩) ⟨rfl, rfl, rfl, rfl, rfl, rfl, rfl, rfl, rfl, rfl, rfl, rfl, rfl, rfl, rfl, rfl, rfl, rfl, rfl, rfl, rfl, rfl, rfl, rfl, rfl, rfl, rfl, rfl, rfl, rfl, rfl, rfl, rfl, rfl, rfl, rfl, rfl, rfl, rfl, rfl, rfl, (by first | rfl | exact ksub rfl (by first | omega | (simp; done) | (simp; omega))), trivial⟩ (fun _ s => s) ?_; rintro ⟨z, lh⟩ ⟨hz, q⟩; dsimp only at hz q ⊢; have hle_q := q.toR.le; have hml := mrgI_len (ptI ts (ptO ts i) i m) ((ptI ts (ptO ts i) i m).getD i 0) ((ptI ts (ptO ts i) i m).getD m 0) z; refine wp_sc (wp_sq (sq_v rfl (v_lss rfl rfl) rfl (sq_end (qs_n (wp_sc ?_))))); refine wp_cd rfl (fun c77 => ?_) (fun c77 => ?_)
            · refine wp_sk (qs_n (wp_sc (wp_bl (wp_sc (wp_sq (sq_v rfl (v_move rfl) rfl (sq_v rfl (v_assign rfl) rfl (sq_end (qs_n (wp_sc (wp_sq (sq_v rfl (v_move rfl) rfl (sq_v rfl (v_move rfl) rfl ?_))))))))))))); refine sq_v rfl (v_idxI Tryz.underlying26 ty_3 rfl rfl q.toR (by first | omega | (simp; omega) | (simp only [List.length_append, List.length_cons, List.length_nil]; omega) | (rw [List.length_set]; omega)) (by first | omega | (simp; omega) | (simp only [List.length_append, List.length_cons, List.length_nil]; omega) | (rw [List.length_set]; omega))) rfl ?_; refine sq_v rfl (v_loadI (k := z) 1 ty_3 rfl rfl q.toR (by first | omega | (simp; omega) | (simp only [List.length_append, List.length_cons, List.length_nil]; omega) | (rw [List.length_set]; omega))) rfl ?_; refine sq_v rfl (v_move rfl) rfl (sq_v rfl (v_eql rfl rfl) rfl (sq_end ?_)); have hma := mrgI_at (P := (ptI ts (ptO ts i) i m)) (a := ((ptI ts (ptO ts i) i m).getD i 0)) (b := ((ptI ts (ptO ts i) i m).getD m 0)) (m := z) (by omega); refine qs_n ?_; refine wp_cd rfl (fun c84 => ?_) (fun c84 => ?_)
              · refine wp_sq (sq_v rfl (v_move rfl) rfl (sq_v rfl (v_move rfl) rfl (sq_v rfl (v_move rfl) rfl ?_))); refine sq_v rfl (v_idxI Tryz.underlying26 ty_3 rfl rfl q.toR (by first | omega | (simp; omega) | (simp only [List.length_append, List.length_cons, List.length_nil]; omega) | (rw [List.length_set]; omega)) (by first | omega | (simp; omega) | (simp only [List.length_append, List.length_cons, List.length_nil]; omega) | (rw [List.length_set]; omega))) rfl ?_; refine sq_m 1 rfl rfl (m_storeI (k := z) 1 ty_3 rfl rfl rfl q (by first | omega | (simp; omega) | (simp only [List.length_append, List.length_cons, List.length_nil]; omega) | (rw [List.length_set]; omega))) rfl ?_; rintro _ h_q21_4 ⟨rfl, q21_4⟩; refine sq_end (qs_bn (qs_n (wp_sq ?_))); refine sq_v rfl (v_add rfl rfl ((by unfold I64; omega))) rfl ?_; refine sq_v rfl (v_move rfl) rfl (sq_end ?_); exact qs_bk (z + 1, h_q21_4) ⟨by (try dsimp only); omega, by (try dsimp only); rw [mrgI_yes (by omega) (by rw [← hma]; exact c84)]; exact q21_4⟩ (by simp only; omega) ⟨rfl, rfl, rfl, rfl, rfl, rfl, rfl, rfl, rfl, rfl, rfl, rfl, rfl, rfl, rfl, rfl, rfl, rfl, rfl, rfl, rfl, rfl, rfl, rfl, rfl, rfl, rfl, rfl, rfl, rfl, rfl, rfl, rfl, rfl, rfl, rfl, rfl, rfl, rfl, rfl, rfl, (by first | rfl | exact ksub rfl (by first | omega | (simp; done) | (simp; omega))), trivial⟩ (fun _ s => s)
              · refine wp_sk (qs_bn (qs_n (wp_sq ?_))); refine sq_v rfl (v_add rfl rfl ((by unfold I64; omega))) rfl ?_; refine sq_v rfl (v_move rfl) rfl (sq_end ?_); exact qs_bk (z + 1, lh) ⟨by (try dsimp only); omega, by (try dsimp only); rw [mrgI_no (by omega) (by rw [← hma]; exact c84)]; exact q⟩ (by simp only; omega) ⟨rfl, rfl, rfl, rfl, rfl, rfl, rfl, rfl, rfl, rfl, rfl, rfl, rfl, rfl, rfl, rfl, rfl, rfl, rfl, rfl, rfl, rfl, rfl, rfl, rfl, rfl, rfl, rfl, rfl, rfl, rfl, rfl, rfl, rfl, rfl, rfl, rfl, rfl, rfl, rfl, rfl, (by first | rfl | exact ksub rfl (by first | omega | (simp; done) | (simp; omega))), trivial⟩ (fun _ s => s)
            · refine wp_ex (qs_x (qs_x (qs_bx (qs_bn (qs_n (wp_sq (sq_v rfl (v_move rfl) rfl ?_))))))); refine sq_v rfl (v_add rfl rfl ((by unfold I64; omega))) rfl ?_; refine sq_v rfl (v_assign rfl) rfl (sq_end ?_); exact qs_bk (m + 1, lh) ⟨by (try dsimp only); omega, by (try dsimp only); rw [ptI_yes (by rw [e39, e51]; exact meetB_true.1 c55)]; rw [show z = (ptO ts i).length by omega] at q; exact q⟩ (by simp only; omega) ⟨rfl, rfl, rfl, rfl, rfl, (by first | rfl | exact ksub rfl (by first | omega | (simp; done) | (simp; omega))), rfl, rfl, rfl, rfl, rfl, rfl, trivial⟩ (fun _ s => s)
        · refine wp_ex (qs_x (qs_x (qs_bx (qs_bn (qs_n (wp_sq ?_)))))); refine sq_v rfl (v_add rfl rfl ((by unfold I64; omega))) rfl ?_; refine sq_v rfl (v_move rfl) rfl (sq_end ?_); exact qs_bk (i + 1, lh) ⟨by (try dsimp only); omega, by (try dsimp only); rw [ptO]; rw [show m = i by omega] at q; exact q⟩ (by simp only; omega) ⟨rfl, rfl, rfl, rfl, rfl, (by first | rfl | exact ksub rfl (by first | omega | (simp; done) | (simp; omega))), trivial⟩ (fun _ s => s.pick [1, 2, 3] (by decide) rfl)
      · refine wp_ex (qs_x (qs_x (qs_bx (qs_n (wp_sc (wp_sq (sq_v rfl (v_assign rfl) rfl (sq_end (qs_n (wp_sc (wp_sc (wp_sq (sq_v rfl (v_move rfl) rfl (sq_v rfl (v_len Tryz.underlying26 rfl q.toR.sl) rfl (sq_v rfl (v_move rfl) rfl (sq_end (qs_n (wp_bl ?_)))))))))))))))))); refine wp_lp (σ := Nat × Value × PH × (List Value) × PH) (fun z_ => [(2, .slice none 0 0), (3, v22), (11, z_.2.1), (92, num (ptO ts i).length), (93, num z_.1)]) (fun z_ => [z_.2.2.2.2, z_.2.2.1, lh, box b1 [num k, num p, num n, vt, vo] 28, hp w]) (fun z_ => z_.1 ≤ ts.length ∧ OwnH (partsTo ts z_.1) z_.2.2.2.1 z_.2.2.2.2 ∧ RowO (26) z_.2.2.2.1 (partsTo ts z_.1).length 1 z_.2.1 z_.2.2.1) (fun z_ => ts.length - z_.1) (0, .slice none 0 0, emp, [], emp) (⟨by (try dsimp only); omega, OwnH.nil, RowO.nil⟩) ⟨rfl, rfl, (by first | rfl | exact ksub rfl (by first | omega | (simp; done) | (simp; omega))), rfl, (by first | rfl | exact ksub rfl (by first | omega | (simp; done) | (simp; omega))), trivial⟩ (fun _ s => (emp_sat (emp_sat s))) ?_; rintro ⟨u, lo, ho, cs, hl⟩ ⟨hu, hlv, qo⟩; dsimp only at hu hlv qo ⊢; have hpq : ptO ts i = ptP ts := by rw [show i = ts.length by omega]; rfl
        have hpll := partsTo_len ts u; refine wp_sc (wp_sq (sq_v rfl (v_lss rfl rfl) rfl (sq_end (qs_n (wp_sc ?_))))); refine wp_cd rfl (fun c94 => ?_) (fun c94 => ?_)
        · refine wp_sk (qs_n (wp_sc (wp_bl (wp_sc (wp_sq (sq_v rfl (v_move rfl) rfl (sq_v rfl (v_assign rfl) rfl (sq_end (qs_n (wp_sc (wp_sq (sq_v rfl (v_assign rfl) rfl (sq_end (qs_n (wp_sc (wp_sc (wp_sq (sq_v rfl (v_move rfl) rfl (sq_v rfl (v_len Tryz.underlying26 rfl q.toR.sl) rfl (sq_v rfl (v_move rfl) rfl (sq_end (qs_n (wp_bl ?_))))))))))))))))))))))); refine wp_lp (σ := Nat × Value × PH) (fun z_ => [(2, .slice none 0 0), (3, v22), (11, lo), (12, num u), (13, z_.2.1), (92, num (ptO ts i).length), (93, num u), (94, .bool (decide ((u : Int) < (ptO ts i).length))), (95, num u), (96, v22), (97, num (ptO ts i).length), (98, num z_.1)]) (fun z_ => [z_.2.2, hl, ho, lh, box b1 [num k, num p, num n, vt, vo] 28, hp w]) (fun z_ => z_.1 ≤ ts.length ∧ ((partJ (ptP ts) u z_.1 = [] → z_.2.1 = .slice none 0 0)) ∧ IntsO (partJ (ptP ts) u z_.1) z_.2.1 z_.2.2) (fun z_ => ts.length - z_.1) (0, .slice none 0 0, emp) (⟨by (try dsimp only); omega, (fun _ => rfl), IntsO.nil⟩) ⟨rfl, rfl, rfl, rfl, (by first | rfl | exact ksub rfl (by first | omega | (simp; done) | (simp; omega))), rfl, rfl, rfl, rfl, rfl, rfl, (by first | rfl | exact ksub rfl (by first | omega | (simp; done) | (simp; omega))), trivial⟩ (fun _ s => (emp_sat s)) ?_; rintro ⟨j, ly, hy⟩ ⟨hj, hny, qy⟩; dsimp only at hj hny qy ⊢; have hle_qy := qy.toR.le; have hjl := partJ_len (ptP ts) u j; refine wp_sc (wp_sq (sq_v rfl (v_lss rfl rfl) rfl (sq_end (qs_n (wp_sc ?_))))); refine wp_cd rfl (fun c99 => ?_) (fun c99 => ?_)
          · refine wp_sk (qs_n (wp_sc (wp_bl (wp_sc (wp_sq (sq_v rfl (v_move rfl) rfl ?_)))))); refine sq_v rfl (v_idxI Tryz.underlying26 ty_3 rfl rfl q.toR (by first | omega | (simp; omega) | (simp only [List.length_append, List.length_cons, List.length_nil]; omega) | (rw [List.length_set]; omega)) (by first | omega | (simp; omega) | (simp only [List.length_append, List.length_cons, List.length_nil]; omega) | (rw [List.length_set]; omega))) rfl ?_; refine sq_v rfl (v_loadI (k := j) 3 ty_3 rfl rfl q.toR (by first | omega | (simp; omega) | (simp only [List.length_append, List.length_cons, List.length_nil]; omega) | (rw [List.length_set]; omega))) rfl ?_; refine sq_v rfl (v_assign rfl) rfl (sq_v rfl (v_assign rfl) rfl (sq_end (qs_n (wp_sc (wp_sq (sq_v rfl (v_move rfl) rfl (sq_v rfl (v_move rfl) rfl (sq_v rfl (v_eql rfl rfl) rfl (sq_end (qs_n ?_)))))))))); refine wp_cd rfl (fun c105 => ?_) (fun c105 => ?_)
            · refine wp_sq (sq_v rfl (v_move rfl) rfl (sq_v rfl (v_move rfl) rfl ?_)); refine sq_x rfl (x_buildS [num (j)] Tryz.underlying26 ty_3 (by decide) rfl rfl rfl (by decide) (by decide) (by intro v hv; simp at hv; rcases hv with rfl <;> rfl)) rfl ?_; intro v108 h108 (r108 : IntsO [j] v108 h108); refine sq_m 1 rfl rfl (m_appI 1 0 Tryz.underlying26 ty_3 rfl rfl rfl rfl qy rfl r108.toR (by first | omega | (simp; omega) | (simp only [List.length_append, List.length_cons, List.length_nil]; omega) | (rw [List.length_set]; omega))) rfl ?_; intro v109 h_r109 r109; refine sq_v rfl (v_assign rfl) rfl (sq_end (qs_bn (qs_n (wp_sq ?_)))); refine sq_v rfl (v_add rfl rfl ((by unfold I64; omega))) rfl ?_; refine sq_v rfl (v_move rfl) rfl (sq_end ?_); exact qs_bk (j + 1, v109, h_r109) ⟨by (try dsimp only); omega, (fun e => by rw [partJ_yes (by rw [← hpq]; exact c105)] at e; simp at e), by (try dsimp only); rw [partJ_yes (by rw [← hpq]; exact c105)]; exact r109⟩ (by simp only; omega) ⟨rfl, rfl, rfl, rfl, (by first | rfl | exact ksub rfl (by first | omega | (simp; done) | (simp; omega))), rfl, rfl, rfl, rfl, rfl, rfl, (by first | rfl | exact ksub rfl (by first | omega | (simp; done) | (simp; omega))), trivial⟩ (fun _ s => s.pick [1, 2, 3, 4, 5, 6] (by decide) rfl)
            · refine wp_sk (qs_bn (qs_n (wp_sq ?_))); refine sq_v rfl (v_add rfl rfl ((by unfold I64; omega))) rfl ?_; refine sq_v rfl (v_move rfl) rfl (sq_end ?_); exact qs_bk (j + 1, ly, hy) ⟨by (try dsimp only); omega, (fun e => hny (by rw [partJ_no (by rw [← hpq]; exact c105)] at e; exact e)), by (try dsimp only); rw [partJ_no (by rw [← hpq]; exact c105)]; exact qy⟩ (by simp only; omega) ⟨rfl, rfl, rfl, rfl, (by first | rfl | exact ksub rfl (by first | omega | (simp; done) | (simp; omega))), rfl, rfl, rfl, rfl, rfl, rfl, (by first | rfl | exact ksub rfl (by first | omega | (simp; done) | (simp; omega))), trivial⟩ (fun _ s => s)
          · refine wp_ex (qs_x (qs_x (qs_bx (qs_n (wp_sc (wp_sq (sq_v rfl (v_move rfl) rfl (sq_v rfl (v_neqNil Tryz.underlying26 rfl rfl qy.toR hny) rfl (sq_end (qs_n ?_)))))))))); refine wp_cd rfl (fun c112 => ?_) (fun c112 => ?_)
            · refine wp_sq (sq_v rfl (v_move rfl) rfl (sq_v rfl (v_move rfl) rfl ?_)); refine sq_x rfl (x_build1 qy.toR.sl Tryz.underlying51 ty_26 rfl) rfl ?_; intro v115 h115 r115; refine sq_m 3 rfl rfl (m_append 3 0 Tryz.underlying51 ty_26 rfl rfl (by decide) rfl rfl rfl qo rfl r115.toR (by simp [qy.toR.sl.one]) (by unfold maxLen; omega) (by omega)) rfl ?_; intro v116 h_r116 r116; refine sq_v rfl (v_assign rfl) rfl (sq_end (qs_bn (qs_n (wp_sq ?_)))); refine sq_v rfl (v_add rfl rfl ((by unfold I64; omega))) rfl ?_; refine sq_v rfl (v_move rfl) rfl (sq_end ?_); refine qs_dj 2 1 rfl rfl rfl (fun hdj => ?_); have ej : j = ts.length := by omega
              subst ej; exact qs_bk (u + 1, v116, h_r116, cs ++ [ly], PUn hl hy) ⟨by (try dsimp only); omega, by (try dsimp only); rw [partsTo_yes c112]; exact hlv.add qy hdj, by (try dsimp only); rw [partsTo_yes c112, List.length_append]; exact r116⟩ (by simp only; omega) ⟨rfl, rfl, (by first | rfl | exact ksub rfl (by first | omega | (simp; done) | (simp; omega))), rfl, (by first | rfl | exact ksub rfl (by first | omega | (simp; done) | (simp; omega))), trivial⟩ (fun _ s => Sat.merge (s.pick [2, 1, 3, 4, 5, 6] (by decide) rfl))
            · refine wp_sk (qs_bn (qs_n (wp_sq ?_))); refine sq_v rfl (v_add rfl rfl ((by unfold I64; omega))) rfl ?_; refine sq_v rfl (v_move rfl) rfl (sq_end ?_); have ej : j = ts.length := by omega
              subst ej; have hne := Classical.not_not.1 c112; exact qs_bk (u + 1, lo, ho, cs, hl) ⟨by (try dsimp only); omega, by (try dsimp only); rw [partsTo_no hne]; exact hlv, by (try dsimp only); rw [partsTo_no hne]; exact qo⟩ (by simp only; omega) ⟨rfl, rfl, (by first | rfl | exact ksub rfl (by first | omega | (simp; done) | (simp; omega))), rfl, (by first | rfl | exact ksub rfl (by first | omega | (simp; done) | (simp; omega))), trivial⟩ (fun _ s => s.pick [1, 2, 3, 4, 5] (by decide) rfl)
        · refine wp_ex (qs_x (qs_x (qs_bx (qs_n (wp_sc (wp_sq (sq_v rfl (v_move rfl) rfl (sq_v rfl (v_assign rfl) rfl (sq_end (qs_n (wp_rt ?_))))))))))); have eu : u = ts.length := by omega
          subst eu; refine qs_close [hp w] [ho, hl] (fun _ s => s.pick [4, 1, 0] (by decide) rfl) (fun md => ?_); exact qs_ret1 rfl rfl (fin_t 0 (i := 1) rfl rfl rfl (LLO.of qo hlv md))
end Go.Proofs.YtdkgaejmgnojhaaGreat
namespace Go.Proofs.YtdkgaejmgnojhaaGreat
set_option maxRecDepth 100000
open Go.RowKit
open Classical in
noncomputable def forB (k p n : Int) (ts : List Ten) (op : List Int) : Bool := decide (netL k p n ts op ∧ forL ts)
theorem forB_no {k p n : Int} {ts : List Ten} {op : List Int} (h : ¬ (netL k p n ts op ∧ forL ts)) : Value.bool false = .bool (forB k p n ts op) := by simp [forB, h]
theorem forB_yes {k p n : Int} {ts : List Ten} {op : List Int} (h : netL k p n ts op ∧ forL ts) : Value.bool true = .bool (forB k p n ts op) := by simp [forB, h]
theorem forB_true {k p n : Int} {ts : List Ten} {op : List Int} : forB k p n ts op = true ↔ netL k p n ts op ∧ forL ts := by simp [forB]
def rpX (a b x : Int) : Int := if x = b then a else x
def rpI (P : List Int) (a b : Int) (m : Nat) : List Int := (P.take m).map (rpX a b) ++ P.drop m
theorem rpI_zero (P : List Int) (a b : Int) : rpI P a b 0 = P := by simp [rpI]
theorem rpI_len (P : List Int) (a b : Int) (m : Nat) : (rpI P a b m).length = P.length := by simp [rpI]; omega
theorem rpI_at {P : List Int} {a b : Int} {m : Nat} (h : m < P.length) : (rpI P a b m).getD m 0 = P.getD m 0 := by
  have hl : ((P.take m).map (rpX a b)).length = m := by simp; omega
  unfold rpI
  simp only [List.getD]; rw [List.getElem?_append_right (by omega), hl, Nat.sub_self, List.getElem?_drop, Nat.add_zero]
theorem rpI_step {P : List Int} {a b : Int} {m : Nat} (h : m < P.length) : rpI P a b (m + 1) = (rpI P a b m).set m (rpX a b (P.getD m 0)) := by
  have hl : ((P.take m).map (rpX a b)).length = m := by simp; omega
  unfold rpI
  rw [List.set_append_right _ _ (by omega), hl, Nat.sub_self, List.drop_eq_getElem_cons h, List.set_cons_zero, List.take_succ_eq_append_getElem h, List.map_append, List.append_assoc]
  congr 1
  simp [List.getD, h]
theorem rpI_yes {P : List Int} {a b : Int} {m : Nat} (h : m < P.length) (e : (rpI P a b m).getD m 0 = b) : rpI P a b (m + 1) = (rpI P a b m).set m a := by
  rw [rpI_at h] at e; rw [rpI_step h, rpX, if_pos e]
theorem rpI_no {P : List Int} {a b : Int} {m : Nat} (h : m < P.length) (e : (rpI P a b m).getD m 0 ≠ b) : rpI P a b (m + 1) = rpI P a b m := by
  rw [rpI_at h] at e; rw [rpI_step h, rpX, if_neg e, ← rpI_at (a := a) (b := b) h]; exact set_same (by rw [rpI_len]; exact h)
theorem rpI_full {P : List Int} {e : Nat × Nat} : rpI P (P.getD e.1 0) (P.getD e.2 0) P.length = mrgE P e := by
  unfold rpI mrgE
  rw [List.take_length, List.drop_length, List.append_nil]
  rfl
def ufT (ts : List Ten) (i j : Nat) : List Int := ufF (nodesR (ts.length + 100)) (edgTo ts i ++ edg ts i j)
theorem ufT_len (ts : List Ten) (i j : Nat) : (ufT ts i j).length = ts.length + 100 := by rw [ufT, ufF_len, nodesR_len]
theorem ufT_step {ts : List Ten} {i j : Nat} (h : j < (ts.getD i noTen).l.length) : ufT ts i (j + 1) = mrgE (ufT ts i j) (i, ts.length + ((ts.getD i noTen).l.getD j 0).toNat) := by
  unfold ufT
  rw [edg_step h, ← List.append_assoc, ufF_snoc]
theorem ufT_next {ts : List Ten} {i : Nat} : ufT ts i (ts.getD i noTen).l.length = ufT ts (i + 1) 0 := by
  unfold ufT
  rw [edg_zero, List.append_nil, edgTo_step]
def okT (ts : List Ten) (i j : Nat) : Prop := okE (nodesR (ts.length + 100)) (edgTo ts i ++ edg ts i j)
theorem okT_step {ts : List Ten} {i j : Nat} (h : j < (ts.getD i noTen).l.length) : okT ts i (j + 1) ↔ okT ts i j ∧ (ufT ts i j).getD i 0 ≠ (ufT ts i j).getD (ts.length + ((ts.getD i noTen).l.getD j 0).toNat) 0 := by
  unfold okT ufT
  rw [edg_step h, ← List.append_assoc, okE_snoc]
theorem okT_next {ts : List Ten} {i : Nat} : okT ts i (ts.getD i noTen).l.length ↔ okT ts (i + 1) 0 := by
  unfold okT
  rw [edg_zero, List.append_nil, edgTo_step]
theorem okE_front : ∀ (a b : List (Nat × Nat)) (R : List Int), okE R (a ++ b) → okE R a
  | [], _, _, _ => trivial
  | _ :: a, b, _, h => ⟨h.1, okE_front a b _ h.2⟩
theorem okT_all {ts : List Ten} (h : forL ts) {i j : Nat} (hi : i < ts.length) (hj : j ≤ (ts.getD i noTen).l.length) : okT ts i j := by
  have h1 : ∀ m, i + 1 + m = ts.length → okE (nodesR (ts.length + 100)) (edgTo ts (i + 1)) := fun m hm => by
    have e : ∃ r, edgTo ts (i + 1 + m) = edgTo ts (i + 1) ++ r := by
      clear hm
      induction m with
      | zero => exact ⟨[], by simp⟩
      | succ m ih =>
        obtain ⟨r, hr⟩ := ih; exact ⟨r ++ edg ts (i + 1 + m) (ts.getD (i + 1 + m) noTen).l.length, by rw [← Nat.add_assoc, edgTo_step, hr, List.append_assoc]⟩
    obtain ⟨r, hr⟩ := e; have h2 : okE (nodesR (ts.length + 100)) (edgTo ts ts.length) := h; rw [← hm, hr] at h2; rw [hm] at h2; exact okE_front _ _ _ h2
  have h2 := h1 (ts.length - (i + 1)) (by omega); rw [edgTo_step] at h2; have e : ∃ r, edg ts i (ts.getD i noTen).l.length = edg ts i j ++ r := ⟨((ts.getD i noTen).l.drop j).map fun x => (i, ts.length + x.toNat), by
    unfold edg
    rw [List.take_length, ← List.map_append, List.take_append_drop]⟩
  obtain ⟨r, hr⟩ := e; rw [hr, ← List.append_assoc] at h2; exact okE_front _ _ _ h2
theorem fill_nodes {N i : Nat} (h : i < N) : (nodesR i ++ List.replicate (N - i) 0).set i (i : Int) = nodesR (i + 1) ++ List.replicate (N - (i + 1)) 0 := by
  rw [List.set_append_right _ _ (by rw [nodesR_len]; omega), nodesR_len, Nat.sub_self, show N - i = (N - (i + 1)) + 1 by omega, List.replicate_succ, List.set_cons_zero]
  simp [nodesR, List.range_succ]
set_option maxHeartbeats 2000000 in
theorem ct_i_IsForest (k p n : Int) (ts : List Ten) (op : List Int) (vt vo : Value) (w : World) (r : TensR ts vt (hp w)) (r' : IntsR op vo (hp w)) (hs : op.length ≤ 1048576) :
    Calls Tryz.prog 9 [netV k p n vt vo].toArray w (RetV w (.bool (forB k p n ts op))) := by
  refine calls_in Tryz.func9 rfl Tryz.ntmps9 rfl (Sat.start w) ?_; have hle0 := r.le; obtain ⟨cs_r, rr_r, hc_r⟩ := r.at; have hle1 := r'.le; refine wp_sc (wp_sq ?_); refine sq_x rfl (x_box rfl rfl) rfl ?_; rintro _ _ ⟨b1, rfl, rfl⟩; refine sq_v rfl (v_assign rfl) rfl (sq_end (qs_n (wp_sc (wp_sc (wp_sq (sq_v rfl (v_loadNB 0 ty_28 rfl rfl rfl rfl) rfl (sq_u rfl (x_callv rfl en_26 (fun w s => ct_i_NetworkOk _ _ _ _ _ _ _ w (r.mono (s.get 1 rfl)) (r'.mono (s.get 1 rfl)) (by first | assumption | omega))) rfl (sq_v rfl (v_not rfl) rfl (sq_end (qs_n ?_)))))))))); refine wp_cn _ rfl (fun c14 => ?_) (fun c14 => ?_)
  · refine wp_sc (wp_sq (sq_v rfl (v_assign rfl) rfl (sq_end (qs_n (wp_rt (qs_r ?_)))))); exact qs_ret1 rfl rfl (fin_q (i := 1) rfl (forB_no fun h => by rw [netB_true.2 h.1] at c14; cases c14))
  · refine wp_sk (qs_n (wp_sc (wp_sq ?_))); have hnet := netB_true.1 c14; have h12 := hnet.2.1; refine sq_v rfl (v_fieldAddr fd_28_1 ty_25 (by decide) rfl) rfl (sq_v rfl (v_loadB 0 ty_25 rfl rfl rfl) rfl (sq_v rfl (v_len Tryz.underlying25 rfl r.sl) rfl ?_)); refine sq_v rfl (v_add rfl rfl ((by unfold I64; omega))) rfl ?_; refine sq_x rfl (x_makeI Tryz.underlying26 ty_3 rfl rfl (by first | omega | (simp; omega) | (simp only [List.length_append, List.length_cons, List.length_nil]; omega) | (rw [List.length_set]; omega)) (by first | omega | (simp; omega) | (simp only [List.length_append, List.length_cons, List.length_nil]; omega) | (rw [List.length_set]; omega)) (by first | omega | (simp; omega) | (simp only [List.length_append, List.length_cons, List.length_nil]; omega) | (rw [List.length_set]; omega))) rfl ?_; intro v19 h19 r19; refine sq_v rfl (v_assign rfl) rfl (sq_end ?_); have e18 : ((ts.length : Int) + 100).toNat = ts.length + 100 := by omega
    rw [e18] at r19; have hrl : (List.replicate (ts.length + 100) (0 : Int)).length = ts.length + 100 := List.length_replicate
    skip
    refine qs_n (wp_sc (wp_sc (wp_sq (sq_v rfl (v_move rfl) rfl (sq_v rfl (v_len Tryz.underlying26 rfl r19.toR.sl) rfl (sq_v rfl (v_move rfl) rfl (sq_end (qs_n (wp_bl ?_))))))))); refine wp_lp (σ := Nat × PH) (fun z_ => [(1, .pointer (some ⟨b1, 0, none⟩)), (2, .bool false), (3, v19), (21, num (List.replicate (ts.length + 100) 0).length), (22, num z_.1)]) (fun z_ => [z_.2, box b1 [num k, num p, num n, vt, vo] 28, hp w]) (fun z_ => z_.1 ≤ ts.length + 100 ∧ IntsO (nodesR z_.1 ++ List.replicate (ts.length + 100 - z_.1) 0) v19 z_.2) (fun z_ => ts.length + 100 - z_.1) (0, h19) (⟨by (try dsimp only); omega, by (try dsimp only); simpa [nodesR] using r19⟩) ⟨rfl, rfl, rfl, rfl, (by first | rfl | exact ksub rfl (by first | omega | (simp; done) | (simp; omega))), trivial⟩ (fun _ s => s) ?_; rintro ⟨i, hx⟩ ⟨hi, q⟩; dsimp only at hi q ⊢; have hle_q := q.toR.le; have hnl : (nodesR i ++ List.replicate (ts.length + 100 - i) 0).length = ts.length + 100 := by rw [List.length_append, nodesR_len, List.length_replicate]; omega
    refine wp_sc (wp_sq (sq_v rfl (v_lss rfl rfl) rfl (sq_end (qs_n (wp_sc ?_))))); refine wp_cd rfl (fun c23 => ?_) (fun c23 => ?_)
    · refine wp_sk (qs_n (wp_sc (wp_bl (wp_sc (wp_sq (sq_v rfl (v_move rfl) rfl (sq_v rfl (v_assign rfl) rfl (sq_end (qs_n (wp_sq (sq_v rfl (v_move rfl) rfl (sq_v rfl (v_move rfl) rfl (sq_v rfl (v_move rfl) rfl ?_))))))))))))); refine sq_v rfl (v_idxI Tryz.underlying26 ty_3 rfl rfl q.toR (by first | omega | (simp; omega) | (simp only [List.length_append, List.length_cons, List.length_nil]; omega) | (rw [List.length_set]; omega)) (by first | omega | (simp; omega) | (simp only [List.length_append, List.length_cons, List.length_nil]; omega) | (rw [List.length_set]; omega))) rfl ?_; refine sq_m 0 rfl rfl (m_storeI (k := i) 0 ty_3 rfl rfl rfl q (by first | omega | (simp; omega) | (simp only [List.length_append, List.length_cons, List.length_nil]; omega) | (rw [List.length_set]; omega))) rfl ?_; rintro _ h_q7_4 ⟨rfl, q7_4⟩; refine sq_end (qs_bn (qs_n (wp_sq ?_))); refine sq_v rfl (v_add rfl rfl ((by unfold I64; omega))) rfl ?_; refine sq_v rfl (v_move rfl) rfl (sq_end ?_); exact qs_bk (i + 1, h_q7_4) ⟨by (try dsimp only); omega, by (try dsimp only); rw [← fill_nodes (by omega)]; exact q7_4⟩ (by simp only; omega) ⟨rfl, rfl, rfl, rfl, (by first | rfl | exact ksub rfl (by first | omega | (simp; done) | (simp; omega))), trivial⟩ (fun _ s => s)
    · refine wp_ex (qs_x (qs_x (qs_bx (qs_n (wp_sc (wp_sc (wp_sq (sq_v rfl (v_fieldAddr fd_28_1 ty_25 (by decide) rfl) rfl (sq_v rfl (v_loadB 1 ty_25 rfl rfl rfl) rfl (sq_v rfl (v_len Tryz.underlying25 rfl r.sl) rfl (sq_v rfl (v_move rfl) rfl (sq_end (qs_n (wp_bl ?_)))))))))))))); refine wp_lp (σ := Nat × PH) (fun z_ => [(1, .pointer (some ⟨b1, 0, none⟩)), (2, .bool false), (3, v19), (31, vt), (32, num ts.length), (33, num z_.1)]) (fun z_ => [z_.2, box b1 [num k, num p, num n, vt, vo] 28, hp w]) (fun z_ => z_.1 ≤ ts.length ∧ okT ts z_.1 0 ∧ IntsO (ufT ts z_.1 0) v19 z_.2) (fun z_ => ts.length - z_.1) (0, hx) (⟨by (try dsimp only); omega, trivial, by (try dsimp only); rw [show i = ts.length + 100 by omega] at q; simpa [ufT, ufF, edgTo, edg] using q⟩) ⟨rfl, rfl, rfl, rfl, rfl, (by first | rfl | exact ksub rfl (by first | omega | (simp; done) | (simp; omega))), trivial⟩ (fun _ s => s) ?_; rintro ⟨i, hx⟩ ⟨hi, hok, q⟩; dsimp only at hi hok q ⊢; have hle_q := q.toR.le; refine wp_sc (wp_sq (sq_v rfl (v_lss rfl rfl) rfl (sq_end (qs_n (wp_sc ?_))))); refine wp_cd rfl (fun c34 => ?_) (fun c34 => ?_)
      · refine wp_sk (qs_n (wp_sc (wp_bl (wp_sc (wp_sq (sq_v rfl (v_move rfl) rfl ?_)))))); obtain ⟨t36, a36, b36, c36, ht36, hcs36, rl36, rd36, rx36⟩ := hc_r (i) (by first | omega | (rw [List.length_set]; omega)); refine sq_v rfl (v_indexAddr Tryz.underlying25 ty_40 rfl rfl rr_r (by decide) (by omega) (by omega)) rfl ?_; refine sq_v rfl (v_loadNE 2 ty_40 rfl rfl rr_r (by have := rr_r.1; omega) rfl hcs36) rfl ?_; refine sq_x rfl (x_alloc ty_40 rfl) rfl ?_; rintro _ _ ⟨b6, rfl, rfl⟩; refine sq_v rfl (v_assign rfl) rfl ?_; refine sq_m 0 rfl rfl (m_store 0 ty_40 rfl rfl rfl rfl (by simp [rl36.sl.one, rd36.sl.one, rx36.sl.one]) rfl (Nat.le_of_ble_eq_true rfl)) rfl ?_; rintro _ _ ⟨rfl, rfl⟩; refine sq_end ?_; have e36 : ts.getD i noTen = t36 := getD_ten ht36; have hlt : i < ts.length := by omega
        have hl12 := (net_axes hnet _ (List.mem_of_getElem? ht36)).1; refine qs_n (wp_sc (wp_sq (sq_v rfl (v_fieldAddr fd_40_0 ty_26 (by decide) rfl) rfl (sq_v rfl (v_loadB 0 ty_26 rfl rfl rfl) rfl (sq_v rfl (v_len Tryz.underlying26 rfl rl36.sl) rfl (sq_v rfl (v_move rfl) rfl (sq_end (qs_n (wp_bl ?_))))))))); refine wp_lp (σ := Nat × PH) (fun z_ => [(1, .pointer (some ⟨b1, 0, none⟩)), (2, .bool false), (3, v19), (5, num i), (6, .pointer (some ⟨b6, 0, none⟩)), (31, vt), (32, num ts.length), (33, num i), (34, .bool (decide ((i : Int) < ts.length))), (35, num i), (37, .agg [a36, b36, c36].toArray), (38, .pointer (some ⟨b6, 0, none⟩)), (39, a36), (40, num t36.l.length), (41, num z_.1)]) (fun z_ => [box b6 [a36, b36, c36] 40, z_.2, box b1 [num k, num p, num n, vt, vo] 28, hp w]) (fun z_ => z_.1 ≤ t36.l.length ∧ okT ts i z_.1 ∧ IntsO (ufT ts i z_.1) v19 z_.2) (fun z_ => t36.l.length - z_.1) (0, hx) (⟨by (try dsimp only); omega, hok, q⟩) ⟨rfl, rfl, rfl, rfl, rfl, rfl, rfl, rfl, rfl, rfl, rfl, rfl, rfl, rfl, (by first | rfl | exact ksub rfl (by first | omega | (simp; done) | (simp; omega))), trivial⟩ (fun _ s => s) ?_; rintro ⟨j, hx⟩ ⟨hj, hok2, q⟩; dsimp only at hj hok2 q ⊢; have hle_q := q.toR.le; have hul := ufT_len ts i j; refine wp_sc (wp_sq (sq_v rfl (v_lss rfl rfl) rfl (sq_end (qs_n (wp_sc ?_))))); refine wp_cd rfl (fun c42 => ?_) (fun c42 => ?_)
        · refine wp_sk (qs_n (wp_sc (wp_bl (wp_sc (wp_sq ?_))))); refine sq_v rfl (v_idxI Tryz.underlying26 ty_3 rfl rfl rl36 (by first | omega | (simp; omega) | (simp only [List.length_append, List.length_cons, List.length_nil]; omega) | (rw [List.length_set]; omega)) (by first | omega | (simp; omega) | (simp only [List.length_append, List.length_cons, List.length_nil]; omega) | (rw [List.length_set]; omega))) rfl ?_; refine sq_v rfl (v_loadI (k := j) 3 ty_3 rfl rfl rl36 (by first | omega | (simp; omega) | (simp only [List.length_append, List.length_cons, List.length_nil]; omega) | (rw [List.length_set]; omega))) rfl ?_; refine sq_v rfl (v_assign rfl) rfl (sq_end ?_); have hlb := net_lab hnet hlt (x := t36.l.getD j 0) (by rw [e36]; exact mem_getD (by omega)); refine qs_n (wp_sc (wp_rj 14 [(0, true), (1, true), (2, true), (3, true), (4, true), (5, true), (6, true), (7, true), (8, true), (9, true), (10, true), (11, true), (12, true), (13, true)] mixed_ok (by kernel_rfl) (rj_v rfl rfl (v_move rfl) rfl (rj_v rfl rfl (v_move rfl) rfl ?_)))); refine rj_v rfl rfl (v_idxI Tryz.underlying26 ty_3 rfl rfl q.toR (by first | omega | (simp; omega) | (simp only [List.length_append, List.length_cons, List.length_nil]; omega) | (rw [List.length_set]; omega)) (by first | omega | (simp; omega) | (simp only [List.length_append, List.length_cons, List.length_nil]; omega) | (rw [List.length_set]; omega))) rfl ?_; refine rj_v rfl rfl (v_loadI (k := i) 1 ty_3 rfl rfl q.toR (by first | omega | (simp; omega) | (simp only [List.length_append, List.length_cons, List.length_nil]; omega) | (rw [List.length_set]; omega))) rfl ?_; refine rj_v rfl rfl (v_move rfl) rfl (rj_v rfl rfl (v_fieldAddr fd_28_1 ty_25 (by decide) rfl) rfl (rj_v rfl rfl (v_loadB 2 ty_25 rfl rfl rfl) rfl (rj_v rfl rfl (v_len Tryz.underlying25 rfl r.sl) rfl (rj_v rfl rfl (v_move rfl) rfl ?_)))); refine rj_v rfl rfl (v_add rfl rfl ((by unfold I64; omega))) rfl ?_; refine rj_v rfl rfl (v_idxI Tryz.underlying26 ty_3 rfl rfl q.toR (by first | omega | (simp; omega) | (simp only [List.length_append, List.length_cons, List.length_nil]; omega) | (rw [List.length_set]; omega)) (by first | omega | (simp; omega) | (simp only [List.length_append, List.length_cons, List.length_nil]; omega) | (rw [List.length_set]; omega))) rfl ?_; refine rj_v rfl rfl (v_loadI  1 ty_3 rfl rfl q.toR (by first | omega | (simp; omega) | (simp only [List.length_append, List.length_cons, List.length_nil]; omega) | (rw [List.length_set]; omega))) rfl ?_; refine rj_v rfl rfl (v_assign rfl) rfl (rj_v rfl rfl (v_assign rfl) rfl (rj_end ?_)); have e54 : ((ts.length : Int) + t36.l.getD j 0).toNat = ts.length + (t36.l.getD j 0).toNat := by omega
          refine qs_n (wp_sc (wp_sc (wp_sq (sq_v rfl (v_move rfl) rfl (sq_v rfl (v_move rfl) rfl (sq_v rfl (v_eql rfl rfl) rfl (sq_end (qs_n ?_)))))))); refine wp_cd rfl (fun c59 => ?_) (fun c59 => ?_)
          · refine wp_sc (wp_sq (sq_v rfl (v_assign rfl) rfl (sq_end (qs_n (wp_rt (qs_r (qs_br (qs_r (qs_r (qs_br (qs_br (qs_r (qs_r (qs_br (qs_r ?_))))))))))))))); exact qs_ret1 rfl rfl (fin_q (i := 3) rfl (forB_no fun h => by have h9 := (okT_step (by rw [e36]; omega)).1 (okT_all h.2 hlt (j := j + 1) (by rw [e36]; omega)); rw [e36, ← e54] at h9; exact h9.2 c59))
          · refine wp_sk (qs_n (wp_sc (wp_sq (sq_v rfl (v_move rfl) rfl (sq_v rfl (v_len Tryz.underlying26 rfl q.toR.sl) rfl (sq_v rfl (v_move rfl) rfl (sq_end (qs_n (wp_bl ?_))))))))); refine wp_lp (σ := Nat × PH) (fun z_ => [(1, .pointer (some ⟨b1, 0, none⟩)), (2, .bool false), (3, v19), (5, num i), (6, .pointer (some ⟨b6, 0, none⟩)), (8, num (t36.l.getD j 0)), (9, num ((ufT ts i j).getD i 0)), (10, num ((ufT ts i j).getD (ts.length + (t36.l.getD j 0) : Int).toNat 0)), (31, vt), (32, num ts.length), (33, num i), (34, .bool (decide ((i : Int) < ts.length))), (35, num i), (37, .agg [a36, b36, c36].toArray), (38, .pointer (some ⟨b6, 0, none⟩)), (39, a36), (40, num t36.l.length), (41, num j), (42, .bool (decide ((j : Int) < t36.l.length))), (44, num (t36.l.getD j 0)), (45, v19), (46, num i), (48, num ((ufT ts i j).getD i 0)), (49, v19), (50, .pointer (some ⟨b1, 3, none⟩)), (51, vt), (52, num ts.length), (53, num (t36.l.getD j 0)), (54, num (ts.length + (t36.l.getD j 0))), (56, num ((ufT ts i j).getD (ts.length + (t36.l.getD j 0) : Int).toNat 0)), (57, num ((ufT ts i j).getD i 0)), (58, num ((ufT ts i j).getD (ts.length + (t36.l.getD j 0) : Int).toNat 0)), (59, .bool (decide (((ufT ts i j).getD i 0 : Int) = (ufT ts i j).getD (ts.length + (t36.l.getD j 0) : Int).toNat 0))), (60, v19), (61, num (ufT ts i j).length), (62, num z_.1)]) (fun z_ => [box b6 [a36, b36, c36] 40, z_.2, box b1 [num k, num p, num n, vt, vo] 28, hp w]) (fun z_ => z_.1 ≤ ts.length + 100 ∧ IntsO (rpI (ufT ts i j) ((ufT ts i j).getD i 0) ((ufT ts i j).getD ((ts.length : Int) + t36.l.getD j 0).toNat 0) z_.1) v19 z_.2) (fun z_ => ts.length + 100 - z_.1) (0, hx) (⟨by (try dsimp only); omega, by (try dsimp only); rw [rpI_zero]; exact q⟩) ⟨rfl, rfl, rfl, rfl, rfl, rfl, rfl, rfl, rfl, rfl, rfl, rfl, rfl, rfl, rfl, rfl, rfl, rfl, rfl, rfl, rfl, rfl, rfl, rfl, rfl, rfl, rfl, rfl, rfl, rfl, rfl, rfl, rfl, rfl, rfl, (by first | rfl | exact ksub rfl (by first | omega | (simp; done) | (simp; omega))), trivial⟩ (fun _ s => s) ?_; rintro ⟨z, hx⟩ ⟨hz, q⟩; dsimp only at hz q ⊢; have hle_q := q.toR.le; have hrl2 := rpI_len (ufT ts i j) ((ufT ts i j).getD i 0) ((ufT ts i j).getD ((ts.length : Int) + t36.l.getD j 0).toNat 0) z; refine wp_sc (wp_sq (sq_v rfl (v_lss rfl rfl) rfl (sq_end (qs_n (wp_sc ?_))))); refine wp_cd rfl (fun c63 => ?_) (fun c63 => ?_)
            · refine wp_sk (qs_n (wp_sc (wp_bl (wp_sc (wp_sq (sq_v rfl (v_move rfl) rfl (sq_v rfl (v_assign rfl) rfl (sq_end (qs_n (wp_sc (wp_sq (sq_v rfl (v_move rfl) rfl (sq_v rfl (v_move rfl) rfl ?_))))))))))))); refine sq_v rfl (v_idxI Tryz.underlying26 ty_3 rfl rfl q.toR (by first | omega | (simp; omega) | (simp only [List.length_append, List.length_cons, List.length_nil]; omega) | (rw [List.length_set]; omega)) (by first | omega | (simp; omega) | (simp only [List.length_append, List.length_cons, List.length_nil]; omega) | (rw [List.length_set]; omega))) rfl ?_; refine sq_v rfl (v_loadI (k := z) 1 ty_3 rfl rfl q.toR (by first | omega | (simp; omega) | (simp only [List.length_append, List.length_cons, List.length_nil]; omega) | (rw [List.length_set]; omega))) rfl ?_; refine sq_v rfl (v_move rfl) rfl (sq_v rfl (v_eql rfl rfl) rfl (sq_end (qs_n ?_))); refine wp_cd rfl (fun c70 => ?_) (fun c70 => ?_)
              · refine wp_sq (sq_v rfl (v_move rfl) rfl (sq_v rfl (v_move rfl) rfl (sq_v rfl (v_move rfl) rfl ?_))); refine sq_v rfl (v_idxI Tryz.underlying26 ty_3 rfl rfl q.toR (by first | omega | (simp; omega) | (simp only [List.length_append, List.length_cons, List.length_nil]; omega) | (rw [List.length_set]; omega)) (by first | omega | (simp; omega) | (simp only [List.length_append, List.length_cons, List.length_nil]; omega) | (rw [List.length_set]; omega))) rfl ?_; refine sq_m 1 rfl rfl (m_storeI (k := z) 1 ty_3 rfl rfl rfl q (by first | omega | (simp; omega) | (simp only [List.length_append, List.length_cons, List.length_nil]; omega) | (rw [List.length_set]; omega))) rfl ?_; rintro _ h_q22_4 ⟨rfl, q22_4⟩; refine sq_end (qs_bn (qs_n (wp_sq ?_))); refine sq_v rfl (v_add rfl rfl ((by unfold I64; omega))) rfl ?_; refine sq_v rfl (v_move rfl) rfl (sq_end ?_); exact qs_bk (z + 1, h_q22_4) ⟨by (try dsimp only); omega, by (try dsimp only); rw [rpI_yes (by omega) c70]; exact q22_4⟩ (by simp only; omega) ⟨rfl, rfl, rfl, rfl, rfl, rfl, rfl, rfl, rfl, rfl, rfl, rfl, rfl, rfl, rfl, rfl, rfl, rfl, rfl, rfl, rfl, rfl, rfl, rfl, rfl, rfl, rfl, rfl, rfl, rfl, rfl, rfl, rfl, rfl, rfl, (by first | rfl | exact ksub rfl (by first | omega | (simp; done) | (simp; omega))), trivial⟩ (fun _ s => s)
              · refine wp_sk (qs_bn (qs_n (wp_sq ?_))); refine sq_v rfl (v_add rfl rfl ((by unfold I64; omega))) rfl ?_; refine sq_v rfl (v_move rfl) rfl (sq_end ?_); exact qs_bk (z + 1, hx) ⟨by (try dsimp only); omega, by (try dsimp only); rw [rpI_no (by omega) c70]; exact q⟩ (by simp only; omega) ⟨rfl, rfl, rfl, rfl, rfl, rfl, rfl, rfl, rfl, rfl, rfl, rfl, rfl, rfl, rfl, rfl, rfl, rfl, rfl, rfl, rfl, rfl, rfl, rfl, rfl, rfl, rfl, rfl, rfl, rfl, rfl, rfl, rfl, rfl, rfl, (by first | rfl | exact ksub rfl (by first | omega | (simp; done) | (simp; omega))), trivial⟩ (fun _ s => s)
            · refine wp_ex (qs_x (qs_x (qs_bx (qs_bn (qs_n (wp_sq ?_)))))); refine sq_v rfl (v_add rfl rfl ((by unfold I64; omega))) rfl ?_; refine sq_v rfl (v_move rfl) rfl (sq_end ?_); exact qs_bk (j + 1, hx) ⟨by (try dsimp only); omega, (okT_step (by rw [e36]; omega)).2 ⟨hok2, by rw [e36, ← e54]; exact c59⟩, by (try dsimp only); rw [ufT_step (by rw [e36]; omega), e36, ← e54, ← rpI_full]; rw [show z = (ufT ts i j).length by omega] at q; exact q⟩ (by simp only; omega) ⟨rfl, rfl, rfl, rfl, rfl, rfl, rfl, rfl, rfl, rfl, rfl, rfl, rfl, rfl, (by first | rfl | exact ksub rfl (by first | omega | (simp; done) | (simp; omega))), trivial⟩ (fun _ s => s)
        · refine wp_ex (qs_x (qs_x (qs_bx (qs_bn (qs_n (wp_sq ?_)))))); refine sq_v rfl (v_add rfl rfl ((by unfold I64; omega))) rfl ?_; refine sq_v rfl (v_move rfl) rfl (sq_end ?_); exact qs_bk (i + 1, hx) ⟨by (try dsimp only); omega, okT_next.1 (by rw [e36, show t36.l.length = j by omega]; exact hok2), by (try dsimp only); rw [← ufT_next, e36, show t36.l.length = j by omega]; exact q⟩ (by simp only; omega) ⟨rfl, rfl, rfl, rfl, rfl, (by first | rfl | exact ksub rfl (by first | omega | (simp; done) | (simp; omega))), trivial⟩ (fun _ s => s.pick [1, 2, 3] (by decide) rfl)
      · refine wp_ex (qs_x (qs_x (qs_bx (qs_n (wp_sc (wp_sq (sq_v rfl (v_assign rfl) rfl (sq_end (qs_n (wp_rt ?_)))))))))); exact qs_ret1 rfl rfl (fin_q (i := 2) rfl (forB_yes ⟨hnet, by have h9 := hok; rw [show i = ts.length by omega] at h9; unfold okT at h9; rw [edg_zero, List.append_nil] at h9; exact h9⟩))
end Go.Proofs.YtdkgaejmgnojhaaGreat
namespace Go.Proofs.YtdkgaejmgnojhaaGreat
set_option maxRecDepth 100000
open Go.RowKit
section
variable {k p n : Int} {ts : List Ten} {op : List Int}
theorem edge_adj {i : Nat} (hi : i < ts.length) {x : Int} (hx : x ∈ (ts.getD i noTen).l) : Adj (edgTo ts ts.length) i (ts.length + x.toNat) := .inl (mem_edgTo.2 ⟨hi, x, hx, rfl⟩)
theorem node_ne (h : netL k p n ts op) {i q : Nat} (hi : i < ts.length) (hq : q < ts.length) {x y : Int} (hx : x ∈ (ts.getD i noTen).l) (hy : y ∈ (ts.getD q noTen).l) (hne : y ≠ x) : ts.length + y.toNat ≠ ts.length + x.toNat := by
  have h1 := net_lab h hi hx; have h2 := net_lab h hq hy
  omega
/-- In a forest whatever holds by one step of messages holds of messages with fuel. -/
theorem fuel_ind (h : netL k p n ts op) {pos : Nat → Nat} {N r : Nat} (hN : ∀ u, u < ts.length + 100 → pos u ≤ N) (c : Cert (edgTo ts ts.length) pos r) {A : Nat → Int → List Int → Prop} {B : Int → Nat → List Int → Prop}
    (sA : ∀ f i x, i < ts.length → x ∈ (ts.getD i noTen).l → (∀ y, y ∈ (ts.getD i noTen).l → y ≠ x → B y i ((msg k p n ts f).2 y i)) → A i x ((msg k p n ts (f + 1)).1 i x))
    (sB : ∀ f x i, i < ts.length → x ∈ (ts.getD i noTen).l → (∀ q, q < ts.length → q ≠ i → x ∈ (ts.getD q noTen).l → A q x ((msg k p n ts f).1 q x)) → B x i ((msg k p n ts (f + 1)).2 x i)) :
    ∀ f, (∀ i x, i < ts.length → x ∈ (ts.getD i noTen).l → muE pos N i (ts.length + x.toNat) < f → A i x ((msg k p n ts f).1 i x)) ∧
      (∀ x i, i < ts.length → x ∈ (ts.getD i noTen).l → muE pos N (ts.length + x.toNat) i < f → B x i ((msg k p n ts f).2 x i))
  | 0 => ⟨fun i x _ _ hm => by omega, fun x i _ _ hm => by omega⟩
  | f + 1 => by
    obtain ⟨iA, iB⟩ := fuel_ind h hN c sA sB f; have hin := edg_in h (Nat.le_refl ts.length); refine ⟨fun i x hi hx hm => sA f i x hi hx fun y hy hne => iB y i hi hy ?_, fun x i hi hx hm => sB f x i hi hx fun q hq hne hxq => iA q x hq hxq ?_⟩
    · have := muE_less hin hN c (edge_adj hi hx) (edge_adj hi hy) (node_ne h hi hi hx hy hne)
      omega
    · have := muE_less hin hN c (edge_adj hi hx).symm (edge_adj hq hxq).symm hne
      omega
theorem muE_le {pos : Nat → Nat} {N u v : Nat} (hu : pos u ≤ N) : muE pos N u v ≤ 2 * N := by
  unfold muE
  split <;> omega
/-- The fuel that is enough for every message of a forest. -/
theorem for_fuel (h : netL k p n ts op) (hf : forL ts) : ∃ pos N r, (∀ u, u < ts.length + 100 → pos u ≤ N) ∧ Cert (edgTo ts ts.length) pos r := by
  obtain ⟨pos, c⟩ := cert_all (R := nodesR (ts.length + 100)) (edgTo ts ts.length) (by rw [nodesR_len]; exact edg_in h (Nat.le_refl _)) hf 0; obtain ⟨N, hN⟩ := pos_bound pos (ts.length + 100); exact ⟨pos, N, 0, hN, c⟩
theorem lab_dim (h : netL k p n ts op) {i : Nat} (hi : i < ts.length) {x : Int} (hx : x ∈ (ts.getD i noTen).l) : (0 ≤ x ∧ x ≤ 99) ∧ 1 ≤ dimOf ts x ∧ dimOf ts x ≤ 8 := by
  refine ⟨net_lab h hi hx, ?_⟩; rw [← dim_at h hi hx]; have ha := ten_axes (ten_in h hi); have hg := findI_get hx; exact dims_mem (axes_dims ha) _ (mem_getD (by have := ha.2.1; omega))
end
open Classical in
/-- One fuel for a forest: more than any message's distance from its leaves. -/
noncomputable def fuelT (ts : List Ten) : Nat := if h : ∃ N pos r, (∀ u, u < ts.length + 100 → pos u ≤ N) ∧ Cert (edgTo ts ts.length) pos r then 2 * h.choose + 1 else 0
theorem fuelT_ok {k p n : Int} {ts : List Ten} {op : List Int} (h : netL k p n ts op) (hf : forL ts) : ∃ pos N r, (∀ u, u < ts.length + 100 → pos u ≤ N) ∧ Cert (edgTo ts ts.length) pos r ∧ 2 * N < fuelT ts := by
  obtain ⟨pos, N, r, hN, c⟩ := for_fuel h hf; have hx : ∃ N pos r, (∀ u, u < ts.length + 100 → pos u ≤ N) ∧ Cert (edgTo ts ts.length) pos r := ⟨N, pos, r, hN, c⟩
  obtain ⟨pos', r', hN', c'⟩ := hx.choose_spec; exact ⟨pos', hx.choose, r', hN', c', by rw [fuelT, dif_pos hx]; omega⟩
/-- The product of all messages to a label. -/
noncomputable def allM (k p n : Int) (ts : List Ten) (x : Int) : List Int := (msg k p n ts (fuelT ts + 1)).2 x (-1)
end Go.Proofs.YtdkgaejmgnojhaaGreat
namespace Go.Proofs.YtdkgaejmgnojhaaGreat
set_option maxRecDepth 100000
open Go.RowKit
/-- The elements of a message as a list. -/
def els (d : Nat) (g : Nat → List Int) : List (List Int) := (List.range d).map g
theorem els_len (d : Nat) (g : Nat → List Int) : (els d g).length = d := by simp [els]
theorem els_step (d : Nat) (g : Nat → List Int) : els (d + 1) g = els d g ++ [g d] := by simp [els, List.range_succ]
theorem els_get {d v : Nat} {g : Nat → List Int} (h : v < d) : (els d g)[v]? = some (g v) := by simp [els, h]
theorem els_congr {d : Nat} {g h : Nat → List Int} (e : ∀ v, v < d → g v = h v) : els d g = els d h := List.map_congr_left fun v hv => e v (List.mem_range.1 hv)
theorem put_at {α : Type} {cs : List α} {a z : α} {m v : Nat} (h : cs.length = v) : (cs ++ List.replicate (m + 1) z).take v ++ [a] ++ (cs ++ List.replicate (m + 1) z).drop (v + 1) = (cs ++ [a]) ++ List.replicate m z := by
  rw [List.take_left' h, List.drop_append, List.drop_of_length_le (by omega), List.nil_append, show v + 1 - cs.length = 1 by omega, List.replicate_succ]
  rfl
theorem put_at2 {α : Type} {cs ds : List α} {a : α} {v : Nat} (h : cs.length = v) : (cs ++ ds.drop v).take v ++ [a] ++ (cs ++ ds.drop v).drop (v + 1) = (cs ++ [a]) ++ ds.drop (v + 1) := by
  rw [List.take_left' h, List.drop_append, List.drop_of_length_le (by omega), List.nil_append, show v + 1 - cs.length = 1 by omega, List.drop_drop]
theorem own_getZ {bs : List (List Int)} {cs : List Value} {h : PH} (o : OwnH bs cs h) {v : Nat} {b : List Int} (hv : bs[v]? = some b) : ∃ c, cs[v]? = some c ∧ IntsR b c h := by
  obtain ⟨l, ol, md⟩ := o; obtain ⟨c, g, e1, e2, q⟩ := ol.own v b hv; exact ⟨c, e1, q.toR.mono (md.le g (List.mem_of_getElem? e2))⟩
theorem mid_get {cs ds : List Value} {v : Nat} {c : Value} (h : cs.length = v) (e : ds[v]? = some c) : (cs ++ ds.drop v)[v]? = some c := by
  rw [List.getElem?_append_right (by omega), h, Nat.sub_self, List.getElem?_drop, Nat.add_zero]; exact e
set_option maxHeartbeats 2000000 in
theorem ct_i_toTensorF (k p n x kk : Int) (ts : List Ten) (op : List Int) (vt vo : Value) (T : Nat → List Int) (w : World) (r : TensR ts vt (hp w)) (r' : IntsR op vo (hp w)) (hnet : netL k p n ts op) (hdx : 1 ≤ dimOf ts x ∧ dimOf ts x ≤ 8) (hT : ∀ i, i < ts.length → x ∈ (ts.getD i noTen).l → MsgOK k p n (dimOf ts x).toNat (T i))
    (ih : ∀ (i : Nat) (w' : World), i < ts.length → (i : Int) ≠ kk → x ∈ (ts.getD i noTen).l → TensR ts vt (hp w') → IntsR op vo (hp w') → Calls Tryz.prog 50 [netV k p n vt vo, num i, num x].toArray w' (Ret w' emp (LLO (els (dimOf ts x).toNat fun v => elt (T i) (widthI k n) (v : Int))))) :
    Calls Tryz.prog 25 [netV k p n vt vo, num x, num (dimOf ts x), num kk].toArray w (Ret w emp (LLO (els (dimOf ts x).toNat fun v => lblM k p n ts x kk T v ts.length))) := by
  have hring := hnet.1; have h12 := hnet.2.1; refine calls_in Tryz.func25 rfl Tryz.ntmps25 rfl (Sat.start w) ?_; have hle0 := r.le; obtain ⟨cs_r, rr_r, hc_r⟩ := r.at; have hle1 := r'.le; refine wp_sc (wp_sq ?_); refine sq_x rfl (x_box rfl rfl) rfl ?_; rintro _ _ ⟨b4, rfl, rfl⟩; refine sq_v rfl (v_assign rfl) rfl (sq_end (qs_n (wp_sc (wp_sq (sq_v rfl (v_move rfl) rfl ?_))))); refine sq_x rfl (x_make Tryz.underlying51 ty_26 rfl rfl rfl rfl (by omega) (by omega) (by omega)) rfl ?_; intro v16 h16 r16; refine sq_v rfl (v_assign rfl) rfl (sq_end ?_); have e16 : (List.replicate (dimOf ts x).toNat [Value.slice none 0 0]).flatten = List.replicate (dimOf ts x).toNat (Value.slice none 0 0) := by simp
  have r16' : RowO 26 (List.replicate (dimOf ts x).toNat (.slice none 0 0)) (dimOf ts x).toNat 1 v16 h16 := by rw [e16] at r16; exact r16
  skip
  refine qs_n (wp_sc (wp_sc (wp_sq (sq_v rfl (v_move rfl) rfl (sq_v rfl (v_len Tryz.underlying51 rfl r16'.toR.sl) rfl (sq_v rfl (v_move rfl) rfl (sq_end (qs_n (wp_bl ?_))))))))); refine wp_lp (σ := Nat × PH × (List Value) × PH) (fun z_ => [(1, num x), (3, num kk), (4, .pointer (some ⟨b4, 0, none⟩)), (8, .slice none 0 0), (9, v16), (18, num ((dimOf ts x).toNat : Nat)), (19, num z_.1)]) (fun z_ => [z_.2.1, z_.2.2.2, box b4 [num k, num p, num n, vt, vo] 28, hp w]) (fun z_ => z_.1 ≤ (dimOf ts x).toNat ∧ OwnH (els z_.1 fun _ => oneL k p n) z_.2.2.1 z_.2.2.2 ∧ RowO (26) (z_.2.2.1 ++ List.replicate ((dimOf ts x).toNat - z_.1) (.slice none 0 0)) ((dimOf ts x).toNat) 1 v16 z_.2.1) (fun z_ => (dimOf ts x).toNat - z_.1) (0, h16, [], emp) (⟨by (try dsimp only); omega, OwnH.nil, by (try dsimp only); simpa using r16'⟩) ⟨rfl, rfl, rfl, rfl, rfl, rfl, (by first | rfl | exact ksub rfl (by first | omega | (simp; done) | (simp; omega))), trivial⟩ (fun _ s => (emp_sat s).pick [1, 0, 2, 3] (by decide) rfl) ?_; rintro ⟨v, hx, cs, ho⟩ ⟨hv, how, q⟩; dsimp only at hv how q ⊢; have hcl : cs.length = v := by obtain ⟨l, ol, _⟩ := how; rw [ol.l1, els_len]
  refine wp_sc (wp_sq (sq_v rfl (v_lss rfl rfl) rfl (sq_end (qs_n (wp_sc ?_))))); refine wp_cd rfl (fun c20 => ?_) (fun c20 => ?_)
  · refine wp_sk (qs_n (wp_sc (wp_bl (wp_sc (wp_sq (sq_v rfl (v_move rfl) rfl (sq_v rfl (v_assign rfl) rfl (sq_end (qs_n (wp_sq (sq_v rfl (v_move rfl) rfl (sq_v rfl (v_move rfl) rfl (sq_v rfl (v_fieldAddr fd_28_0 ty_24 (by decide) rfl) rfl (sq_v rfl (v_loadNB 2 ty_24 rfl rfl rfl rfl) rfl ?_)))))))))))))); refine sq_x rfl (x_call rfl en_21 (fun w s => ct_i_rawOne _ _ _ w (by first | assumption | omega))) rfl ?_; rintro v26 h26 r26; refine sq_v rfl (v_indexAddr Tryz.underlying51 ty_26 rfl rfl q.toR (by decide) (by omega) (by omega)) rfl ?_; refine sq_m 1 rfl rfl (m_storeE 1 ty_26 rfl rfl (us := [v26]) (by obtain ⟨_, _, rfl⟩ := r26.toR.sl; rfl) rfl (fun u hu => by rw [List.mem_singleton.1 hu]; exact r26.toR.sl.one) rfl q (by decide) (by simp <;> omega)) rfl ?_; rintro _ h5 ⟨rfl, r5⟩; refine sq_end ?_; have r5' : RowO 26 ((cs ++ [v26]) ++ List.replicate ((dimOf ts x).toNat - (v + 1)) (.slice none 0 0)) (dimOf ts x).toNat 1 v16 h5 := by
      have e9 := r5; rw [show (dimOf ts x).toNat - v = (dimOf ts x).toNat - (v + 1) + 1 by omega] at e9; simp only [Int.toNat_natCast, Nat.mul_one] at e9; rw [put_at hcl] at e9; exact e9
    refine qs_dj 2 0 rfl rfl rfl (fun hd1 => ?_); refine qs_s [PUn ho h26, h5, _, _] (fun _ s => Sat.merge (s.pick [2, 0, 1, 3, 4] (by decide) rfl)) (qs_bn (qs_n (wp_sq ?_))); refine sq_v rfl (v_add rfl rfl ((by unfold I64; omega))) rfl ?_; refine sq_v rfl (v_move rfl) rfl (sq_end ?_); exact qs_bk (v + 1, h5, cs ++ [v26], (PUn ho h26)) ⟨by (try dsimp only); omega, by (try dsimp only); rw [els_step]; exact how.add r26 hd1, r5'⟩ (by simp only; omega) ⟨rfl, rfl, rfl, rfl, rfl, rfl, (by first | rfl | exact ksub rfl (by first | omega | (simp; done) | (simp; omega))), trivial⟩ (fun _ s => s.pick [1, 0, 2, 3] (by decide) rfl)
  · refine wp_ex (qs_x (qs_x (qs_bx (qs_n (wp_sc (wp_sc (wp_sq (sq_v rfl (v_fieldAddr fd_28_1 ty_25 (by decide) rfl) rfl (sq_v rfl (v_loadB 2 ty_25 rfl rfl rfl) rfl (sq_v rfl (v_len Tryz.underlying25 rfl r.sl) rfl (sq_v rfl (v_move rfl) rfl (sq_end (qs_n (wp_bl ?_)))))))))))))); refine wp_lp (σ := Nat × PH × (List Value) × PH) (fun z_ => [(1, num x), (3, num kk), (4, .pointer (some ⟨b4, 0, none⟩)), (8, .slice none 0 0), (9, v16), (30, vt), (31, num ts.length), (32, num z_.1)]) (fun z_ => [z_.2.1, z_.2.2.2, box b4 [num k, num p, num n, vt, vo] 28, hp w]) (fun z_ => z_.1 ≤ ts.length ∧ OwnH (els (dimOf ts x).toNat fun v => lblM k p n ts x kk T v z_.1) z_.2.2.1 z_.2.2.2 ∧ RowO (26) z_.2.2.1 ((dimOf ts x).toNat) 1 v16 z_.2.1) (fun z_ => ts.length - z_.1) (0, hx, cs, ho) (⟨by (try dsimp only); omega, by (try dsimp only); rw [show (dimOf ts x).toNat = v by omega]; exact how, by (try dsimp only); rw [show (dimOf ts x).toNat - v = 0 by omega, List.replicate_zero, List.append_nil] at q; exact q⟩) ⟨rfl, rfl, rfl, rfl, rfl, rfl, rfl, (by first | rfl | exact ksub rfl (by first | omega | (simp; done) | (simp; omega))), trivial⟩ (fun _ s => s) ?_; rintro ⟨i, hx, cs, ho⟩ ⟨hi, how, q⟩; dsimp only at hi how q ⊢; have hcl : cs.length = (dimOf ts x).toNat := by obtain ⟨l, ol, _⟩ := how; rw [ol.l1, els_len]
    refine wp_sc (wp_sq (sq_v rfl (v_lss rfl rfl) rfl (sq_end (qs_n (wp_sc ?_))))); refine wp_cd rfl (fun c33 => ?_) (fun c33 => ?_)
    · refine wp_sk (qs_n (wp_sc (wp_bl (wp_sc (wp_sq (sq_v rfl (v_move rfl) rfl ?_)))))); obtain ⟨t35, a35, b35, c35, ht35, hcs35, rl35, rd35, rx35⟩ := hc_r (i) (by first | omega | (rw [List.length_set]; omega)); refine sq_v rfl (v_indexAddr Tryz.underlying25 ty_40 rfl rfl rr_r (by decide) (by omega) (by omega)) rfl ?_; refine sq_v rfl (v_loadNE 3 ty_40 rfl rfl rr_r (by have := rr_r.1; omega) rfl hcs35) rfl ?_; refine sq_x rfl (x_alloc ty_40 rfl) rfl ?_; rintro _ _ ⟨b12, rfl, rfl⟩; refine sq_v rfl (v_assign rfl) rfl ?_; refine sq_m 0 rfl rfl (m_store 0 ty_40 rfl rfl rfl rfl (by simp [rl35.sl.one, rd35.sl.one, rx35.sl.one]) rfl (Nat.le_of_ble_eq_true rfl)) rfl ?_; rintro _ _ ⟨rfl, rfl⟩; refine sq_end ?_; have e34 : ts.getD i noTen = t35 := getD_ten ht35; refine qs_n (wp_sc (wp_sc (wp_sq (sq_v rfl (v_move rfl) rfl (sq_v rfl (v_move rfl) rfl (sq_v rfl (v_eql rfl rfl) rfl ?_)))))); refine sq_bd 39 rfl (fun c39 => ?_) (fun c39 => ?_)
      · refine sq_v rfl (v_move rfl) rfl (sq_s rfl rfl (sq_s rfl rfl (sq_s rfl rfl (sq_s rfl rfl (sq_v rfl (v_pickt rfl rfl) rfl (sq_end (qs_n (wp_ct rfl (wp_ex (qs_x (qs_bx (qs_n (wp_sq ?_))))))))))))); refine sq_v rfl (v_add rfl rfl ((by unfold I64; omega))) rfl ?_; refine sq_v rfl (v_move rfl) rfl (sq_end ?_); exact qs_bk (i + 1, hx, cs, ho) ⟨by (try dsimp only); omega, by (try dsimp only); rw [els_congr fun v _ => lblM_no (fun hc => hc.1 (by omega))]; exact how, q⟩ (by simp only; omega) ⟨rfl, rfl, rfl, rfl, rfl, rfl, rfl, (by first | rfl | exact ksub rfl (by first | omega | (simp; done) | (simp; omega))), trivial⟩ (fun _ s => s.pick [1, 2, 3, 4] (by decide) rfl)
      · refine sq_v rfl (v_move rfl) rfl (sq_v rfl (v_loadNB 0 ty_40 rfl rfl rfl rfl) rfl (sq_v rfl (v_move rfl) rfl (sq_u rfl (x_callv rfl en_48 (fun w s => ct_u_axisOf _ _ _ _ _ _ _ w (rl35.mono (s.get 4 rfl)) (rd35.mono (s.get 4 rfl)) (rx35.mono (s.get 4 rfl)))) rfl (sq_v rfl (v_lss rfl rfl) rfl (sq_v rfl (v_pickf rfl rfl) rfl (sq_end (qs_n ?_))))))); refine wp_cd rfl (fun c45 => ?_) (fun c45 => ?_)
        · refine wp_ex (qs_x (qs_bx (qs_n (wp_sq ?_)))); refine sq_v rfl (v_add rfl rfl ((by unfold I64; omega))) rfl ?_; refine sq_v rfl (v_move rfl) rfl (sq_end ?_); exact qs_bk (i + 1, hx, cs, ho) ⟨by (try dsimp only); omega, by (try dsimp only); rw [els_congr fun v _ => lblM_no (fun hc => by have h9 := findI_ge.2 hc.2; rw [e34] at h9; omega)]; exact how, q⟩ (by simp only; omega) ⟨rfl, rfl, rfl, rfl, rfl, rfl, rfl, (by first | rfl | exact ksub rfl (by first | omega | (simp; done) | (simp; omega))), trivial⟩ (fun _ s => s.pick [1, 2, 3, 4] (by decide) rfl)
        · refine wp_sk (qs_n (wp_sc (wp_sq ?_))); have hxi : x ∈ (ts.getD i noTen).l := (by rw [e34]; exact findI_ge.1 (by omega)); have hTi := hT i (by omega) hxi; refine sq_v rfl (v_loadNB 3 ty_28 rfl rfl rfl rfl) rfl (sq_v rfl (v_move rfl) rfl (sq_v rfl (v_move rfl) rfl ?_)); refine sq_x rfl (x_call rfl en_50 (fun w s => ih i w (by omega) (by omega) hxi (r.mono (s.get 4 rfl)) (r'.mono (s.get 4 rfl)))) rfl ?_; rintro v49 h49 r49; obtain ⟨cs_L_49, rr_L_49, hc_L_49⟩ := r49.toR.at; refine sq_v rfl (v_len Tryz.underlying51 rfl r49.toR.sl) rfl (sq_v rfl (v_move rfl) rfl (sq_end (qs_n (wp_bl ?_)))); refine wp_lp (σ := Nat × PH × (List Value) × PH) (fun z_ => [(1, num x), (3, num kk), (4, .pointer (some ⟨b4, 0, none⟩)), (8, .slice none 0 0), (9, v16), (11, num i), (12, .pointer (some ⟨b12, 0, none⟩)), (30, vt), (31, num ts.length), (32, num i), (33, .bool (decide ((i : Int) < ts.length))), (34, num i), (36, .agg [a35, b35, c35].toArray), (37, num i), (38, num kk), (41, .agg [a35, b35, c35].toArray), (42, num x), (46, .agg [num k, num p, num n, vt, vo].toArray), (47, num i), (48, num x), (49, v49), (50, num (els (dimOf ts x).toNat fun u => elt (T i) (widthI k n) (u : Int)).length), (51, num z_.1)]) (fun z_ => [z_.2.2.2, h49, box b12 [a35, b35, c35] 40, z_.2.1, ho, box b4 [num k, num p, num n, vt, vo] 28, hp w]) (fun z_ => z_.1 ≤ (dimOf ts x).toNat ∧ OwnH (els z_.1 fun u => lblM k p n ts x kk T u (i + 1)) z_.2.2.1 z_.2.2.2 ∧ RowO (26) (z_.2.2.1 ++ cs.drop z_.1) ((dimOf ts x).toNat) 1 v16 z_.2.1) (fun z_ => (dimOf ts x).toNat - z_.1) (0, hx, [], emp) (⟨by (try dsimp only); omega, OwnH.nil, by (try dsimp only); simpa using q⟩) ⟨rfl, rfl, rfl, rfl, rfl, rfl, rfl, rfl, rfl, rfl, rfl, rfl, rfl, rfl, rfl, rfl, rfl, rfl, rfl, rfl, rfl, rfl, (by first | rfl | exact ksub rfl (by first | omega | (simp; done) | (simp; omega))), trivial⟩ (fun _ s => (emp_sat s)) ?_; rintro ⟨v, hx2, csn, hn⟩ ⟨hv, hon, q2⟩; dsimp only at hv hon q2 ⊢; have hcn : csn.length = v := by obtain ⟨l, ol, _⟩ := hon; rw [ol.l1, els_len]
          have hel := els_len (dimOf ts x).toNat fun u => elt (T i) (widthI k n) (u : Int); refine wp_sc (wp_sq (sq_v rfl (v_lss rfl rfl) rfl (sq_end (qs_n (wp_sc ?_))))); refine wp_cd rfl (fun c52 => ?_) (fun c52 => ?_)
          · refine wp_sk (qs_n (wp_sc (wp_bl (wp_sc (wp_sq (sq_v rfl (v_move rfl) rfl ?_)))))); obtain ⟨l54, a54, hl54, hcs54, rl54⟩ := hc_L_49 (v) (by first | omega | (rw [List.length_set]; omega)); refine sq_v rfl (v_indexAddr Tryz.underlying51 ty_26 rfl rfl rr_L_49 (by decide) (by omega) (by omega)) rfl (sq_v rfl (v_loadE 1 ty_26 rfl rfl rr_L_49 (sub_get hcs54 (j := 0) rfl)) rfl (sq_v rfl (v_assign rfl) rfl (sq_v rfl (v_assign rfl) rfl (sq_end ?_)))); obtain ⟨cv, hcv, rcv⟩ := own_getZ how (v := v) (els_get (by omega)); have hmid := mid_get hcn hcv; have el54 : elt (T i) (widthI k n) (v : Int) = l54 := by have h9 := els_get (g := fun u => elt (T i) (widthI k n) ((u : Nat) : Int)) (show v < (dimOf ts x).toNat by omega); rw [hl54] at h9; injection h9 with h9; exact h9.symm
            have hin1 := lblM_in hring (kk := kk) (v := v) (fun j hj hxj => (hT j hj hxj).2 v (by omega)) i (by omega); have hin2 : InR k p n l54 := el54 ▸ hTi.2 v (by omega); refine qs_n (wp_rj 11 [(0, true), (1, true), (2, true), (3, true), (4, true), (5, true), (6, true), (7, true), (8, true), (9, false), (10, true), (11, false)] mixed_ok (by kernel_rfl) (rj_v rfl rfl (v_move rfl) rfl (rj_v rfl rfl (v_move rfl) rfl (rj_v rfl rfl (v_fieldAddr fd_28_0 ty_24 (by decide) rfl) rfl (rj_v rfl rfl (v_loadNB 5 ty_24 rfl rfl rfl rfl) rfl (rj_v rfl rfl (v_move rfl) rfl (rj_v rfl rfl (v_move rfl) rfl (rj_v rfl rfl (v_indexAddr Tryz.underlying51 ty_26 rfl rfl q2.toR (by decide) (by omega) (by omega)) rfl (rj_v rfl rfl (v_loadE 3 ty_26 rfl rfl q2.toR (by simpa using hmid)) rfl (rj_v rfl rfl (v_move rfl) rfl ?_)))))))))); refine rj_x rfl rfl (x_call rfl en_24 (fun w s => ct_i_rawMul _ _ _ (lblM k p n ts x kk T v i) l54 _ _ w (by first | assumption | omega) (rcv.mono (s.get 4 rfl)) (rl54.mono (s.get 1 rfl)) hin1 hin2)) rfl ?_; rintro v65 h65 r65; refine rj_v rfl rfl (v_indexAddr Tryz.underlying51 ty_26 rfl rfl q2.toR (by decide) (by omega) (by omega)) rfl ?_; refine rj_m 4 rfl rfl rfl rfl (m_storeE 4 ty_26 rfl rfl (us := [v65]) (by obtain ⟨_, _, rfl⟩ := r65.toR.sl; rfl) rfl (fun u hu => by rw [List.mem_singleton.1 hu]; exact r65.toR.sl.one) rfl q2 (by decide) (by simp <;> omega)) rfl ?_; rintro _ h14 ⟨rfl, r14⟩; refine rj_end ?_; have r14' : RowO 26 ((csn ++ [v65]) ++ cs.drop (v + 1)) (dimOf ts x).toNat 1 v16 h14 := by
              have e9 := r14; simp only [Int.toNat_natCast, Nat.mul_one] at e9; rw [put_at2 hcn] at e9; exact e9
            have hmul : mulL k p n (lblM k p n ts x kk T v i) l54 = lblM k p n ts x kk T v (i + 1) := by rw [lblM_yes ⟨by omega, hxi⟩, el54]
            refine qs_dj 1 0 rfl rfl rfl (fun hd1 => ?_); refine qs_s [PUn hn h65, _, _, h14, ho, _, _] (fun _ s => Sat.merge (s.pick [1, 0, 2, 3, 4, 5, 6, 7] (by decide) rfl)) (qs_bn (qs_n (wp_sq ?_))); refine sq_v rfl (v_add rfl rfl ((by unfold I64; omega))) rfl ?_; refine sq_v rfl (v_move rfl) rfl (sq_end ?_); exact qs_bk (v + 1, h14, csn ++ [v65], (PUn hn h65)) ⟨by (try dsimp only); omega, by (try dsimp only); rw [els_step]; rw [hmul] at r65; exact hon.add r65 hd1, r14'⟩ (by simp only; omega) ⟨rfl, rfl, rfl, rfl, rfl, rfl, rfl, rfl, rfl, rfl, rfl, rfl, rfl, rfl, rfl, rfl, rfl, rfl, rfl, rfl, rfl, rfl, (by first | rfl | exact ksub rfl (by first | omega | (simp; done) | (simp; omega))), trivial⟩ (fun _ s => s)
          · refine wp_ex (qs_x (qs_x (qs_bx (qs_bn (qs_n (wp_sq ?_)))))); refine sq_v rfl (v_add rfl rfl ((by unfold I64; omega))) rfl ?_; refine sq_v rfl (v_move rfl) rfl (sq_end ?_); exact qs_bk (i + 1, hx2, csn, hn) ⟨by (try dsimp only); omega, by (try dsimp only); rw [show (dimOf ts x).toNat = v by omega]; exact hon, by (try dsimp only); rw [List.drop_of_length_le (by omega), List.append_nil] at q2; exact q2⟩ (by simp only; omega) ⟨rfl, rfl, rfl, rfl, rfl, rfl, rfl, (by first | rfl | exact ksub rfl (by first | omega | (simp; done) | (simp; omega))), trivial⟩ (fun _ s => s.pick [3, 0, 5, 6] (by decide) rfl)
    · refine wp_ex (qs_x (qs_x (qs_bx (qs_n (wp_sc (wp_sq (sq_v rfl (v_move rfl) rfl (sq_v rfl (v_assign rfl) rfl (sq_end (qs_n (wp_rt ?_))))))))))); refine qs_close [hp w] [hx, ho] (fun _ s => s.pick [3, 0, 1] (by decide) rfl) (fun md => ?_); exact qs_ret1 rfl rfl (fin_t 0 (i := 1) rfl rfl rfl (LLO.of (by rw [els_len]; exact q) (by rw [show ts.length = i by omega]; exact how) md))
end Go.Proofs.YtdkgaejmgnojhaaGreat
namespace Go.Proofs.YtdkgaejmgnojhaaGreat
set_option maxRecDepth 100000
open Go.RowKit
theorem subV_all {xs : List Int} {v : Value} {h : PH} (r : IntsO xs v h) (hx : 0 < xs.length) : subV v 0 xs.length 1 = v := by
  obtain ⟨_, h1 | ⟨g, cap, cur, rfl, _, h2, _⟩⟩ := r
  · omega
  · simp only [subV, sliced]
    simp
    exact fun _ => rfl
theorem ct_i_addAll (k p n : Int) (xs y : List Int) (sv u : Value) (w : World) (h : PH) (hr : ringL k p n) (hle : PLe h (hp w)) (rz : IntsO xs sv h) (r' : IntsR y u (restP w h)) (hx : InR k p n xs) (hy : InR k p n y) :
    Calls Tryz.prog 45 [ringV k p n, sv, u].toArray w (Ret w h (fun _ h' => IntsO (addL k p xs y) sv h')) := by
  have h1 := hx.len hr; have h2 := hy.len hr; have hs := subV_all rz (by omega); have e : (xs.drop 0).take y.length = xs := by rw [List.drop_zero, List.take_of_length_le (by omega)]
  have hc := ct_i_addInto k p n xs y 0 xs.length sv u w h hr hle rz r' (by omega) (Nat.le_refl _) (by rw [e]; exact hx) hy; rw [hs, e] at hc; have e2 : putL xs 0 (addL k p xs y) = addL k p xs y := by
    unfold putL
    rw [List.take_zero, List.nil_append, addL_len, Nat.zero_add, List.drop_length, List.append_nil]
  rw [e2] at hc; exact hc
end Go.Proofs.YtdkgaejmgnojhaaGreat
namespace Go.Proofs.YtdkgaejmgnojhaaGreat
set_option maxRecDepth 100000
open Go.RowKit
theorem rest_le {w : World} {g h : PH} (l : PLe g h) : PLe (restP w h) (restP w g) := fun k o e => by
  unfold restP at e ⊢
  cases hg : g k with
  | none =>
    cases hh : h k with
    | none => rw [hh] at e; exact e
    | some y => rw [hh] at e; cases e
  | some y => rw [l k y hg] at e; cases e
/-- A call that turns one of an owner's parts turns the owner. -/
theorem ret_in {w w' : World} {h g : PH} {l : List PH} {v : Nat} {T : Value → PH → Prop} {e : Ending} (md : Made h l) (hle : PLe h (hp w)) (hv : l[v]? = some g) (rt : Ret w g T e w') : Ret w h (fun u h' => ∃ g', T u g' ∧ Made h' (l.set v g')) e w' := by
  obtain ⟨u, g', he, up, ht⟩ := rt; have s1 := Sat.open (A := [restP w h]) md (Sat.start2 hle); have s2 := s1.upd (i := v + 1) (by simpa using hv) up; have e1 : ([restP w h] ++ l).set (v + 1) g' = [restP w h] ++ l.set v g' := rfl; rw [e1] at s2; obtain ⟨s3, m3⟩ := s2.close; exact ⟨u, _, he, s3.updM (i := 1) rfl (j := 0) rfl (by omega), g', ht, m3⟩
theorem ct_q_addH (k p n : Int) (bs : List (List Int)) (cs : List Value) (v : Nat) (b y : List Int) (c u : Value) (w : World) (h : PH) (hr : ringL k p n) (hle : PLe h (hp w)) (o : OwnH bs cs h) (hv : bs[v]? = some b) (hc : cs[v]? = some c) (r' : IntsR y u (restP w h)) (hx : InR k p n b) (hy : InR k p n y) :
    Calls Tryz.prog 45 [ringV k p n, c, u].toArray w (Ret w h (fun _ h' => OwnH (bs.set v (addL k p b y)) cs h')) := by
  obtain ⟨l, ol, md⟩ := o; obtain ⟨c', g, e1, e2, q⟩ := ol.own v b hv; rw [hc] at e1
  cases e1
  have hg := List.mem_of_getElem? e2; have hc := ct_i_addAll k p n b y c u w g hr ((md.le g hg).trans hle) q (r'.mono (rest_le (md.le g hg))) hx hy; refine hc.mono fun e w' hw => ?_; obtain ⟨z, h', he, up, g', ht, m⟩ := ret_in md hle e2 hw; exact ⟨z, h', he, up, l.set v g', ol.set (by assumption) ht, m⟩
end Go.Proofs.YtdkgaejmgnojhaaGreat
namespace Go.Proofs.YtdkgaejmgnojhaaGreat
set_option maxRecDepth 100000
open Go.RowKit
theorem dim_out {k p n x : Int} {ts : List Ten} {op : List Int} (h : netL k p n ts op) (hx : x < 0 ∨ 99 < x) : dimOf ts x = 0 := Classical.byContradiction fun hd => by
  obtain ⟨t, ht, hm⟩ := dimOf_mem hd; have hg := findI_get hm; have ha := (net_axes h t ht).2.2 _ hg.1
  unfold axP at ha
  rw [hg.2] at ha
  omega
theorem ct_i_DimOf (k p n x : Int) (ts : List Ten) (op : List Int) (vt vo : Value) (w : World) (r : TensR ts vt (hp w)) (r' : IntsR op vo (hp w)) (hs : op.length ≤ 1048576) :
    Calls Tryz.prog 20 [netV k p n vt vo, num x].toArray w (RetV w (num (ifB (netB k p n ts op) (dimOf ts x) 0))) := by
  refine calls_in Tryz.func20 rfl Tryz.ntmps20 rfl (Sat.start w) ?_; have hle0 := r.le; obtain ⟨cs_r, rr_r, hc_r⟩ := r.at; have hle1 := r'.le; refine wp_sc (wp_sq ?_); refine sq_x rfl (x_box rfl rfl) rfl ?_; rintro _ _ ⟨b2, rfl, rfl⟩; refine sq_v rfl (v_assign rfl) rfl (sq_end (qs_n (wp_sc (wp_sc (wp_sq (sq_v rfl (v_loadNB 0 ty_28 rfl rfl rfl rfl) rfl (sq_u rfl (x_callv rfl en_26 (fun w s => ct_i_NetworkOk _ _ _ _ _ _ _ w (r.mono (s.get 1 rfl)) (r'.mono (s.get 1 rfl)) (by first | assumption | omega))) rfl ?_))))))); refine sq_bb 8 rfl (fun c8 => ?_) (fun c8 => ?_)
  · refine sq_v rfl (v_not rfl) rfl (sq_v rfl (v_move rfl) rfl (sq_v rfl (v_move rfl) rfl (sq_v rfl (v_lss rfl rfl) rfl (sq_v rfl (v_pickf rfl rfl) rfl ?_)))); refine sq_bd 13 rfl (fun c13 => ?_) (fun c13 => ?_)
    · refine sq_v rfl (v_move rfl) rfl (sq_s rfl rfl (sq_s rfl rfl (sq_v rfl (v_pickt rfl rfl) rfl (sq_end (qs_n (wp_ct rfl (wp_sc (wp_sq (sq_v rfl (v_assign rfl) rfl (sq_end (qs_n (wp_rt (qs_r ?_))))))))))))); exact qs_ret1 rfl rfl (fin_q (i := 1) rfl (by cases hb : netB k p n ts op with | false => rfl | true => rw [show ifB true (dimOf ts x) 0 = dimOf ts x from rfl, dim_out (netB_true.1 hb) (by first | omega | exact absurd (c8.symm.trans hb) (by decide))]))
    · refine sq_v rfl (v_move rfl) rfl (sq_v rfl (v_move rfl) rfl (sq_v rfl (v_gtr rfl rfl) rfl (sq_v rfl (v_pickf rfl rfl) rfl (sq_end (qs_n ?_))))); refine wp_cd rfl (fun c17 => ?_) (fun c17 => ?_)
      · refine wp_sc (wp_sq (sq_v rfl (v_assign rfl) rfl (sq_end (qs_n (wp_rt (qs_r ?_)))))); exact qs_ret1 rfl rfl (fin_q (i := 1) rfl (by cases hb : netB k p n ts op with | false => rfl | true => rw [show ifB true (dimOf ts x) 0 = dimOf ts x from rfl, dim_out (netB_true.1 hb) (by first | omega | exact absurd (c8.symm.trans hb) (by decide))]))
      · refine wp_sk (qs_n (wp_sc (wp_sq (sq_v rfl (v_fieldAddr fd_28_1 ty_25 (by decide) rfl) rfl (sq_v rfl (v_loadB 0 ty_25 rfl rfl rfl) rfl ?_))))); have hnet := netB_true.1 c8; refine sq_x rfl (x_call rfl en_27 (fun w s => ct_i_dimsOf _ _ w (r.mono (s.get 1 rfl)) (net_axes hnet))) rfl ?_; rintro _ h21 ⟨arr, ok, rfl, hal, hok', hav⟩; refine sq_v rfl (v_move rfl) rfl (sq_v rfl (v_extract rfl rfl) rfl (sq_v rfl (v_extract rfl rfl) rfl ?_)); refine sq_x rfl (x_alloc ty_60 rfl) rfl ?_; rintro _ _ ⟨b5, rfl, rfl⟩; refine sq_m 0 rfl rfl (m_storeW 0 ty_60 rfl rfl rfl (by rw [ints_length]; exact hal) (ints_one arr) rfl (by simp)) rfl ?_; rintro _ _ ⟨rfl, rfl⟩; refine sq_v rfl (v_assign rfl) rfl (sq_end (qs_n (wp_sc (wp_sq (sq_v rfl (v_move rfl) rfl (sq_v rfl (v_indexAddrA Tryz.underlying60 ty_3 rfl rfl (by omega) (by omega)) rfl (sq_v rfl (v_loadB 0 ty_3 rfl rfl (aget (k := (x).toNat) (by omega) rfl)) rfl (sq_v rfl (v_assign rfl) rfl (sq_end (qs_n (wp_rt ?_))))))))))); exact qs_ret1 rfl rfl (fin_q (i := 3) rfl (by rw [c8, show ifB true (dimOf ts x) 0 = dimOf ts x from rfl, (hav (hok'.2 hnet.2.2.2.1)).2 x (by omega) (by omega)]))
  · refine sq_v rfl (v_not rfl) rfl (sq_v rfl (v_move rfl) rfl (sq_s rfl rfl (sq_s rfl rfl (sq_v rfl (v_pickt rfl rfl) rfl (sq_v rfl (v_move rfl) rfl (sq_s rfl rfl (sq_s rfl rfl (sq_v rfl (v_pickt rfl rfl) rfl (sq_end (qs_n (wp_ct rfl (wp_sc (wp_sq ?_))))))))))))); refine sq_v rfl (v_assign rfl) rfl (sq_end (qs_n (wp_rt (qs_r ?_)))); exact qs_ret1 rfl rfl (fin_q (i := 1) rfl (by cases hb : netB k p n ts op with | false => rfl | true => rw [show ifB true (dimOf ts x) 0 = dimOf ts x from rfl, dim_out (netB_true.1 hb) (by first | omega | exact absurd (c8.symm.trans hb) (by decide))]))
end Go.Proofs.YtdkgaejmgnojhaaGreat
namespace Go.Proofs.YtdkgaejmgnojhaaGreat
set_option maxRecDepth 100000
open Go.RowKit
set_option maxHeartbeats 1000000 in
theorem ct_i_indexIn (ds : List Int) (n : Int) (v : Value) (w : World) (r : IntsR ds v (hp w)) (hd : ∀ d ∈ ds, 1 ≤ d ∧ d ≤ 8) (hn : 0 ≤ n ∧ n ≤ 1000000000000) (hl : ds.length ≤ 1000000) :
    Calls Tryz.prog 84 [v, num n].toArray w (Ret w emp (IntsO (idxL ds n))) := by
  have hd1 : ∀ d ∈ ds, 1 ≤ d := fun d h => (hd d h).1; have hil := idxL_len ds n; refine calls_in Tryz.func84 rfl Tryz.ntmps84 rfl (Sat.start w) ?_; have hle0 := r.le; refine wp_sc (wp_sq (sq_v rfl (v_assign rfl) rfl (sq_end (qs_n (wp_sc (wp_sq (sq_v rfl (v_move rfl) rfl (sq_v rfl (v_len Tryz.underlying26 rfl r.sl) rfl ?_)))))))); refine sq_x rfl (x_makeI Tryz.underlying26 ty_3 rfl rfl (by first | omega | (simp; omega) | (simp only [List.length_append, List.length_cons, List.length_nil]; omega) | (rw [List.length_set]; omega)) (by first | omega | (simp; omega) | (simp only [List.length_append, List.length_cons, List.length_nil]; omega) | (rw [List.length_set]; omega)) (by first | omega | (simp; omega) | (simp only [List.length_append, List.length_cons, List.length_nil]; omega) | (rw [List.length_set]; omega))) rfl ?_; intro v9 h9 r9; refine sq_v rfl (v_assign rfl) rfl (sq_end (qs_n (wp_sc (wp_sc (wp_sq (sq_v rfl (v_move rfl) rfl (sq_v rfl (v_len Tryz.underlying26 rfl r.sl) rfl ?_))))))); refine sq_v rfl (v_sub rfl rfl ((by unfold I64; omega))) rfl ?_; refine sq_v rfl (v_assign rfl) rfl (sq_end (qs_n (wp_bl ?_))); refine wp_lp (σ := Nat × Int × PH) (fun z_ => [(0, v), (1, num z_.2.1), (4, .slice none 0 0), (5, v9), (6, num ((z_.1 : Int) - 1))]) (fun z_ => [z_.2.2, hp w]) (fun z_ => z_.1 ≤ ds.length ∧ z_.2.1 = n / prodI (ds.drop z_.1) ∧ IntsO (mixL (List.replicate ds.length 0) (idxL ds n) z_.1) v9 z_.2.2) (fun z_ => z_.1) (ds.length, n, h9) (⟨by (try dsimp only); omega, by (try dsimp only); simp [prodI], by (try dsimp only); rw [mix_end (by simp [idxL_len]) (by simp)]; simpa using r9⟩) ⟨rfl, (by first | rfl | exact ksub rfl (by first | omega | (simp; done) | (simp; omega))), rfl, rfl, (by first | rfl | exact ksub rfl (by first | omega | (simp; done) | (simp; omega))), trivial⟩ (fun _ s => s) ?_; rintro ⟨m, q, g⟩ ⟨hm, hq, q9⟩; dsimp only at hm hq q9 ⊢; have hle_q9 := q9.toR.le; have hpd := (prodI_drop hd1 m).1; have hq0 : 0 ≤ q ∧ q ≤ n := by rw [hq]; exact ⟨Int.ediv_nonneg hn.1 (by omega), Int.ediv_le_self _ hn.1⟩
  have hml : (mixL (List.replicate ds.length 0) (idxL ds n) m).length = ds.length := by rw [mix_len (by simp [idxL_len]) (by simp; omega)]; simp
  have em : ((m : Int) - 1).toNat = m - 1 := by omega
  refine wp_sc (wp_sc (wp_sq (sq_v rfl (v_move rfl) rfl (sq_v rfl (v_geq rfl rfl) rfl (sq_end (qs_n ?_)))))); refine wp_cd rfl (fun c14 => ?_) (fun c14 => ?_)
  · refine wp_sk (qs_n (wp_sc (wp_bl (wp_sc (wp_sq (sq_v rfl (v_move rfl) rfl (sq_v rfl (v_move rfl) rfl (sq_v rfl (v_move rfl) rfl (sq_v rfl (v_move rfl) rfl (sq_v rfl (v_move rfl) rfl ?_)))))))))); refine sq_v rfl (v_idxI Tryz.underlying26 ty_3 rfl rfl r (by first | omega | (simp; omega) | (simp only [List.length_append, List.length_cons, List.length_nil]; omega) | (rw [List.length_set]; omega)) (by first | omega | (simp; omega) | (simp only [List.length_append, List.length_cons, List.length_nil]; omega) | (rw [List.length_set]; omega))) rfl ?_; refine sq_v rfl (v_loadI  1 ty_3 rfl rfl r (by first | omega | (simp; omega) | (simp only [List.length_append, List.length_cons, List.length_nil]; omega) | (rw [List.length_set]; omega))) rfl ?_; have hdm := hd _ (mem_getD (show ((m : Int) - 1).toNat < ds.length by omega)); refine sq_v rfl (v_rem rfl rfl (by omega)) rfl ?_; refine sq_v rfl (v_idxI Tryz.underlying26 ty_3 rfl rfl q9.toR (by first | omega | (simp; omega) | (simp only [List.length_append, List.length_cons, List.length_nil]; omega) | (rw [List.length_set]; omega)) (by first | omega | (simp; omega) | (simp only [List.length_append, List.length_cons, List.length_nil]; omega) | (rw [List.length_set]; omega))) rfl ?_; refine sq_m 0 rfl rfl (m_storeI 0 ty_3 rfl rfl rfl q9 (by first | omega | (simp; omega) | (simp only [List.length_append, List.length_cons, List.length_nil]; omega) | (rw [List.length_set]; omega))) rfl ?_; rintro _ h_q5_9 ⟨rfl, q5_9⟩; refine sq_end (qs_n (wp_sq (sq_v rfl (v_move rfl) rfl (sq_v rfl (v_move rfl) rfl (sq_v rfl (v_move rfl) rfl ?_))))); refine sq_v rfl (v_idxI Tryz.underlying26 ty_3 rfl rfl r (by first | omega | (simp; omega) | (simp only [List.length_append, List.length_cons, List.length_nil]; omega) | (rw [List.length_set]; omega)) (by first | omega | (simp; omega) | (simp only [List.length_append, List.length_cons, List.length_nil]; omega) | (rw [List.length_set]; omega))) rfl ?_; refine sq_v rfl (v_loadI  1 ty_3 rfl rfl r (by first | omega | (simp; omega) | (simp only [List.length_append, List.length_cons, List.length_nil]; omega) | (rw [List.length_set]; omega))) rfl ?_; have hqq : q.tdiv (ds.getD ((m : Int) - 1).toNat 0) = n / prodI (ds.drop (m - 1)) := (by rw [em, Int.tdiv_eq_ediv_of_nonneg hq0.1, div_at hd1 n (show m - 1 < ds.length by omega), hq, show m - 1 + 1 = m by omega]); have hq1 := (prodI_drop hd1 (m - 1)).1; have hq2 : 0 ≤ n / prodI (ds.drop (m - 1)) ∧ n / prodI (ds.drop (m - 1)) ≤ n := ⟨Int.ediv_nonneg hn.1 (by omega), Int.ediv_le_self _ hn.1⟩
    refine sq_v rfl (v_quo rfl rfl (by omega) (by unfold I64; omega)) rfl ?_; refine sq_v rfl (v_assign rfl) rfl (sq_end ?_); have hrr : q.tmod (ds.getD (m - 1) 0) = (idxL ds n).getD (m - 1) 0 := by rw [Int.tmod_eq_emod_of_nonneg hq0.1, idxL_get (by omega), digI, hq, show m - 1 + 1 = m by omega]
    have e := mix_down (A := List.replicate ds.length 0) (B := idxL ds n) (k := m - 1) (by simp [idxL_len]) (by simp; omega); rw [show m - 1 + 1 = m by omega] at e; rw [em, hrr, e] at q5_9; refine qs_bn (qs_n (wp_sq (sq_v rfl (v_move rfl) rfl ?_))); refine sq_v rfl (v_sub rfl rfl ((by unfold I64; omega))) rfl ?_; refine sq_v rfl (v_assign rfl) rfl (sq_end ?_); exact qs_bk (m - 1, q.tdiv (ds.getD ((m : Int) - 1).toNat 0), h_q5_9) ⟨by (try dsimp only); omega, hqq, q5_9⟩ (by simp only; omega) ⟨rfl, (by first | rfl | exact ksub rfl (by first | omega | (simp; done) | (simp; omega))), rfl, rfl, (by first | rfl | exact ksub rfl (by first | omega | (simp; done) | (simp; omega))), trivial⟩ (fun _ s => s)
  · refine wp_ex (qs_x (qs_x (qs_bx (qs_n (wp_sc (wp_sq (sq_v rfl (v_move rfl) rfl (sq_v rfl (v_assign rfl) rfl (sq_end (qs_n (wp_rt ?_))))))))))); exact qs_ret1 rfl rfl (fin_t 0 (i := 1) rfl rfl rfl (by rw [show m = 0 by omega, mix_zero] at q9; exact q9))
end Go.Proofs.YtdkgaejmgnojhaaGreat
namespace Go.Proofs.YtdkgaejmgnojhaaGreat
set_option maxRecDepth 100000
open Go.RowKit
section
variable {P : Program} {n : Nat} {w0 : World} {K : Env} {HS : List PH} {d : Option Tmp} {ty : TypeId} {ps : String} {af : Array Edge} {g : Option (Nat × Bool)}
theorem m_copyI {t : TypeId} {x y : Operand} {xs ys : List Int} {v u : Value} {h hq : PH} (p q : Nat) (ht : P.underlying t = some (.slice 3)) (hs1 : (P.info? 3).map (·.size) = some 1)
    (hx : ev K x = some v) (hy : ev K y = some u) (hp' : HS[p]? = some h) (r : IntsO xs v h) (hq' : HS[q]? = some hq) (ru : IntsR ys u hq) (hl : ys.length = xs.length) (h0 : 0 < xs.length) :
    StepX P n w0 K HS ⟨d, .call ⟨.builtin .copy, #[x, y], #[t, t]⟩, ty, ps, af, g⟩ h (fun z h' => z = num (xs.length : Nat) ∧ IntsO ys v h') :=
  stepx_run fun a w e s => by
    obtain ⟨hcl, hr⟩ := r; obtain ⟨hnl, ad, c, rfl, _, hna⟩ := ru; have hle := s.get p hp'; have hleq := s.get q hq'
    rcases hr with ⟨_, hn, _⟩ | ⟨gb, cap, cur, rfl, rfl, h3, h4, h5, h6⟩
    · omega
    · obtain ⟨b, o, rfl, hcell⟩ := hna (by omega); have hnews := cells_at hleq hcell; have hgb : w.heap[gb]? = some (.cells cur.toArray 3 (0, 0)) := hle gb _ (by simp [box]); have hil : (ints ys).length = ys.length := by simpa using hnl
      have hmin : Nat.min ys.length xs.length = ys.length := Nat.min_eq_left (by omega); have hrun := run_copy_row (P := P) w t t ty 3 gb 0 xs.length cap ⟨b, o, none⟩ ys.length c cur.toArray 3 (ints ys) ht hs1 hgb (by rw [hil, hmin]) hnews (by simp only [List.size_toArray, h5]; omega) (ints_one ys); refine ⟨num (xs.length : Nat), w.setRow gb (cur.take 0 ++ ints ys ++ cur.drop (0 + (ints ys).length)).toArray, box gb (cur.take 0 ++ ints ys ++ cur.drop (0 + (ints ys).length)) 3, ?_, upd_setRow hle _, rfl, hnl, .inr ⟨gb, cap, _, by rw [hl], rfl, by omega, h4, ?_, ?_⟩⟩
      · have e1 : goInt (ints ys).length = num (xs.length : Nat) := by rw [hil, hl]; rfl
        rw [e1] at hrun
        simp [execOp, resolve, invoke, builtin, e.ev hx, e.ev hy, hrun]
      · simp only [List.take_zero, List.nil_append, List.length_append, List.length_drop]
        omega
      · simp only [List.take_zero, List.nil_append]; rw [Nat.mul_one, ← hil]; exact List.take_left
end
end Go.Proofs.YtdkgaejmgnojhaaGreat
