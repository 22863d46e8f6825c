/-
  Parts of the proof of FnExactFormatNetwork: laws of heaps, contracts of functions.
  Conditions: none.
-/
import Derived.Test.YtiefkcaplhnnmaaDoorQFormatNetwork2
namespace Go.Proofs.YtiefkcaplhnnmaaDoor
set_option maxRecDepth 100000
open Go.RowKit

/-- From k on, each number of the lists is one more than the number before it; the next would be k'. -/
def HeldL : Int → List (List Int) → Int → Prop
  | k, [], k' => k = k'
  | k, xs :: r, k' => xs = iota k xs.length ∧ HeldL (k + xs.length) r k'
theorem HeldL.le : ∀ {xss : List (List Int)} {k k' : Int}, HeldL k xss k' → k ≤ k'
  | [], k, k', h => by have : k = k' := h; omega
  | xs :: r, k, k', h => by have := HeldL.le h.2; omega
theorem HeldL.append : ∀ {xss yss : List (List Int)} {k k1 k' : Int}, HeldL k xss k1 → HeldL k1 yss k' → HeldL k (xss ++ yss) k'
  | [], yss, k, k1, k', h, g => by have : k = k1 := h; subst this; exact g
  | xs :: r, yss, k, k1, k', h, g => ⟨h.1, HeldL.append h.2 g⟩
theorem iota_held (k : Int) (m : Nat) : iota k m = iota k (iota k m).length := by rw [iota_len]
theorem HeldL.part : ∀ {xss yss : List (List Int)} {k k' : Int}, HeldL k (xss ++ yss) k' → ∃ k1, HeldL k xss k1 ∧ HeldL k1 yss k'
  | [], yss, k, k', h => ⟨k, rfl, h⟩
  | xs :: r, yss, k, k', h => by
    obtain ⟨k1, h1, h2⟩ := HeldL.part (xss := r) (yss := yss) h.2; exact ⟨k1, ⟨h.1, h1⟩, h2⟩
end Go.Proofs.YtiefkcaplhnnmaaDoor
namespace Go.Proofs.YtiefkcaplhnnmaaDoor
set_option maxRecDepth 100000
open Go.ChangeShapes Go.WideShapes Go.ChangeAt Go.RowKit
section
variable {H : Type} {enc : TypeId × Value → H} {w : World} {base : Nat} {sp : Nat → Bool} {hd : Bool}
theorem rd_ring {fuel : Nat} {cs : List Value} {x : DataW H × List MemPlace} (h : DataW.trod enc Tryd.prog w base sp hd fuel 23 cs = some x) : ∃ k m p, cs = [num k, num m, num p] ∧ I64 k ∧ I64 m ∧ I64 p := by
  obtain ⟨hl, hf⟩ := rd_field Tryd.underlying23 h; rw [cellsOf_ty ty_23] at hl; obtain ⟨n0, y0, h0⟩ := hf 0 _ _ fd_23_0; obtain ⟨n1, y1, h1⟩ := hf 1 _ _ fd_23_1; obtain ⟨n2, y2, h2⟩ := hf 2 _ _ fd_23_2; rw [cellsOf_ty ty_3] at h0 h1 h2; obtain ⟨k, e0, i0⟩ := rd_int Tryd.underlying3 h0; obtain ⟨m, e1, i1⟩ := rd_int Tryd.underlying3 h1; obtain ⟨p, e2, i2⟩ := rd_int Tryd.underlying3 h2
  match cs, hl with
  | [a, b, c], _ =>
    simp at e0 e1 e2
    subst e0 e1 e2; exact ⟨k, m, p, rfl, i0, i1, i2⟩
end
end Go.Proofs.YtiefkcaplhnnmaaDoor
namespace Go.Proofs.YtiefkcaplhnnmaaDoor
set_option maxRecDepth 100000
open Go.ChangeShapes Go.WideShapes Go.ChangeAt Go.RowKit
section
variable {H : Type} {enc : TypeId × Value → H} {w : World} {base : Nat} {sp : Nat → Bool} {hd : Bool}
theorem rd_ten {fuel : Nat} {cs : List Value} {x : DataW H × List MemPlace} (h : DataW.trod enc Tryd.prog w base sp hd fuel 52 cs = some x) : ∃ t, TenR t cs (hp w) := by
  obtain ⟨hl, hf⟩ := rd_field Tryd.underlying52 h; rw [cellsOf_ty ty_52] at hl; obtain ⟨n0, y0, h0⟩ := hf 0 _ _ fd_52_0; obtain ⟨n1, y1, h1⟩ := hf 1 _ _ fd_52_1; obtain ⟨n2, y2, h2⟩ := hf 2 _ _ fd_52_2; rw [cellsOf_ty ty_25] at h0 h1 h2; obtain ⟨a, l, e0, r0, _⟩ := rd_ints Tryd.underlying25 Tryd.underlying3 (cellsOf_ty ty_3) h0; obtain ⟨b, d, e1, r1, _⟩ := rd_ints Tryd.underlying25 Tryd.underlying3 (cellsOf_ty ty_3) h1; obtain ⟨c, xs, e2, r2, _⟩ := rd_ints Tryd.underlying25 Tryd.underlying3 (cellsOf_ty ty_3) h2
  match cs, hl with
  | [a', b', c'], _ =>
    simp at e0 e1 e2
    subst e0 e1 e2; exact ⟨⟨l, d, xs⟩, _, _, _, rfl, r0, r1, r2⟩
theorem arg_network {v : Value} {d : DataW H} {p : List MemPlace} {r : Reach} {b : Nat} (hv : Value.okWide Tryd.prog w r b 27 v) (h : DataW.Trod enc Tryd.prog w base sp hd 27 v d p) : ∃ k m q ts op vt vo, v = netV k m q vt vo ∧ TensR ts vt (hp w) ∧ IntsR op vo (hp w) := by
  obtain ⟨cs, rfl, _⟩ := okWide_struct Tryd.underlying27 hv; obtain ⟨f, hf⟩ := h; obtain ⟨hl, hf⟩ := rd_field Tryd.underlying27 hf; rw [cellsOf_ty ty_27] at hl; obtain ⟨n0, y0, h0⟩ := hf 0 _ _ fd_27_0; obtain ⟨n1, y1, h1⟩ := hf 1 _ _ fd_27_1; obtain ⟨n2, y2, h2⟩ := hf 2 _ _ fd_27_2; rw [cellsOf_ty ty_23] at h0; rw [cellsOf_ty ty_24] at h1; rw [cellsOf_ty ty_25] at h2; obtain ⟨k, m, q, e0, _⟩ := rd_ring h0; obtain ⟨vt, ts, e1, rt⟩ := rd_rows (R := TenR) Tryd.underlying24 (cellsOf_ty ty_52) (by decide) (fun h => rd_ten h) h1; obtain ⟨vo, op, e2, ro, _⟩ := rd_ints Tryd.underlying25 Tryd.underlying3 (cellsOf_ty ty_3) h2; obtain ⟨l⟩ := cs; simp only [Value.cells] at hl e0 e1 e2
  match l, hl with
  | [a1, a2, a3, a4, a5], _ =>
    simp at e0 e1 e2
    obtain ⟨rfl, rfl, rfl⟩ := e0; subst e1 e2; exact ⟨k, m, q, ts, op, _, _, rfl, rt, ro⟩
end
end Go.Proofs.YtiefkcaplhnnmaaDoor
namespace Go.Proofs.YtiefkcaplhnnmaaDoor
set_option maxRecDepth 100000
open Go.RowKit
section
variable {P : Program} {n : Nat} {w0 : World} {K : Env} {HS : List PH} {d : Option Tmp} {ty : TypeId} {ps : String} {af : Array Edge} {g : Option (Nat × Bool)}
end
theorem ksub {K : Env} {t : Nat} {a b : Int} (h : K.lookup t = some (num a)) (e : a = b) : K.lookup t = some (num b) := e ▸ h
def bools (xs : List Bool) : List Value := xs.map Value.bool
def BoolsR (xs : List Bool) (v : Value) (h : PH) : Prop := RowR (bools xs) xs.length 1 v h
def BoolsO (xs : List Bool) (v : Value) (h : PH) : Prop := RowO 4 (bools xs) xs.length 1 v h
theorem BoolsR.mono {xs : List Bool} {v : Value} {h h' : PH} (r : BoolsR xs v h) (l : PLe h h') : BoolsR xs v h' := RowR.mono r l
theorem BoolsO.toR {xs : List Bool} {v : Value} {h : PH} (r : BoolsO xs v h) : BoolsR xs v h := RowO.toR r
theorem BoolsR.sl {xs : List Bool} {v : Value} {h : PH} (r : BoolsR xs v h) : SlL v xs.length := RowR.sl r
theorem BoolsR.le {xs : List Bool} {v : Value} {h : PH} (r : BoolsR xs v h) : (xs.length : Int) ≤ 9223372036854775807 := by
  obtain ⟨_, a, c, _, ⟨h, _⟩, _⟩ := r
  unfold maxLen at h
  omega
theorem BoolsO.nil : BoolsO [] (.slice none 0 0) emp := ⟨rfl, .inl ⟨rfl, rfl, rfl⟩⟩
section
variable {P : Program} {n : Nat} {w0 : World} {K : Env} {HS : List PH} {d : Option Tmp} {ty : TypeId} {ps : String} {af : Array Edge} {g : Option (Nat × Bool)}
end
section
variable {P : Program} {n : Nat} {w0 : World} {K : Env} {HS : List PH} {Q : Exit → Act → World → Prop}
end
end Go.Proofs.YtiefkcaplhnnmaaDoor
namespace Go.Proofs.YtiefkcaplhnnmaaDoor
set_option maxRecDepth 100000
open Go.RowKit
/-- An element of a ring. -/
def InR (k p n : Int) (xs : List Int) : Prop := xs.length = (widthI k n).toNat ∧ ∀ a ∈ xs, 0 ≤ a ∧ a ≤ topI k p n
theorem InR.at {k p n : Int} {xs : List Int} (h : InR k p n xs) (_ : ringL k p n) (i : Nat) (hi : i < xs.length) : 0 ≤ xs.getD i 0 ∧ xs.getD i 0 ≤ topI k p n := h.2 _ (mem_getD hi)
theorem InR.len {k p n : Int} {xs : List Int} (h : InR k p n xs) (hr : ringL k p n) : 1 ≤ xs.length ∧ xs.length ≤ 6 ∧ (xs.length : Int) = widthI k n := by
  have := width_range hr; have := h.1
  omega
theorem top_poly {k p n : Int} (h : ringL k p n) (hk : k = 2 ∨ k = 7 ∨ k = 8) : topI k p n = p - 1 ∧ 2 ≤ p ∧ p ≤ 1000003 := by
  have hp2 : ∀ {m : Int}, primeB m = true → 2 ≤ m ∧ m ≤ 1000003 := fun h => ⟨(primeB_iff.1 h).1, (primeB_iff.1 h).2.1⟩
  unfold ringL at h
  refine ⟨?_, ?_⟩
  · unfold topI
    rw [if_neg (by omega), if_neg (by omega), if_neg (by omega)]
  · rcases h with h | h | h | h | h | h
    · omega
    · exact hp2 h.2.1
    · omega
    · omega
    · exact hp2 h.2.1
    · exact hp2 h.2.1
theorem top_cap {k p n : Int} (h : ringL k p n) (hk : k = 3 ∨ k = 4 ∨ k = 5) : topI k p n = p ∧ 1 ≤ p ∧ p ≤ 1000000 := by
  unfold ringL at h
  refine ⟨?_, by omega⟩
  unfold topI
  rw [if_neg (by omega), if_pos (by omega)]
theorem kind_rest {k p n : Int} (h : ringL k p n) (h1 : k ≠ 1) (h2 : k ≠ 2) (h3 : k ≠ 3) (h4 : k ≠ 4) (h5 : k ≠ 5) (h6 : k ≠ 6) : k = 7 ∨ k = 8 := by
  unfold ringL at h; omega
theorem kind_rest' {k p n : Int} (h : ringL k p n) (h1 : k ≠ 1) (h3 : k ≠ 3) (h4 : k ≠ 4) (h5 : k ≠ 5) (h6 : k ≠ 6) : k = 2 ∨ k = 7 ∨ k = 8 := by
  unfold ringL at h; omega
theorem mul_in {a b t u : Int} (ha : 0 ≤ a ∧ a ≤ t) (hb : 0 ≤ b ∧ b ≤ u) : 0 ≤ a * b ∧ a * b ≤ t * u :=
  ⟨Int.mul_nonneg ha.1 hb.1, Int.mul_le_mul ha.2 hb.2 hb.1 (by omega)⟩
theorem tmod_in {a p : Int} (ha : 0 ≤ a) (hp : 1 ≤ p) : 0 ≤ a.tmod p ∧ a.tmod p ≤ p - 1 := by
  rw [Int.tmod_eq_emod_of_nonneg ha]; have h1 := Int.emod_nonneg a (show p ≠ 0 by omega); have h2 := Int.emod_lt_of_pos a (show 0 < p by omega)
  omega
def mulStep (k p : Int) (x y out : List Int) (i j : Nat) : List Int :=
  if i + j < out.length then out.set (i + j) ((out.getD (i + j) 0 + x.getD i 0 * y.getD j 0).tmod p)
  else if k = 8 then out.set (i + j - 4) ((out.getD (i + j - 4) 0 + (p - x.getD i 0) * y.getD j 0).tmod p) else out
def mulRow (k p : Int) (x y : List Int) (i : Nat) (out : List Int) (m : Nat) : List Int := (List.range m).foldl (fun o j => mulStep k p x y o i j) out
def mulTo (k p : Int) (x y out : List Int) (m : Nat) : List Int := (List.range m).foldl (fun o i => mulRow k p x y i o y.length) out
theorem mulRow_step (k p : Int) (x y : List Int) (i : Nat) (out : List Int) (m : Nat) : mulRow k p x y i out (m + 1) = mulStep k p x y (mulRow k p x y i out m) i m := by simp [mulRow, List.range_succ]
theorem mulTo_step (k p : Int) (x y out : List Int) (m : Nat) : mulTo k p x y out (m + 1) = mulRow k p x y m (mulTo k p x y out m) y.length := by simp [mulTo, List.range_succ]
/-- Numbers below p, as many as the width says. -/
def PolyIn (k p n : Int) (xs : List Int) : Prop := xs.length = (widthI k n).toNat ∧ ∀ a ∈ xs, 0 ≤ a ∧ a ≤ p - 1
theorem PolyIn.set {k p n : Int} {xs : List Int} (h : PolyIn k p n xs) (i : Nat) {a : Int} (ha : 0 ≤ a ∧ a ≤ p - 1) : PolyIn k p n (xs.set i a) :=
  ⟨by rw [List.length_set]; exact h.1, fun b hb => by
    rcases List.mem_or_eq_of_mem_set hb with hb | rfl
    · exact h.2 b hb
    · exact ha⟩
theorem PolyIn.at {k p n : Int} {xs : List Int} (h : PolyIn k p n xs) (hp : 1 ≤ p) (i : Nat) : 0 ≤ xs.getD i 0 ∧ xs.getD i 0 ≤ p - 1 := by
  by_cases hi : i < xs.length
  · exact h.2 _ (mem_getD hi)
  · simp only [List.getD, List.getElem?_eq_none (Nat.le_of_not_lt hi)]
    show (0:Int) ≤ 0 ∧ (0:Int) ≤ p - 1
    omega
theorem InR.poly {k p n : Int} {xs : List Int} (h : InR k p n xs) (hr : ringL k p n) (hk : k = 2 ∨ k = 7 ∨ k = 8) : PolyIn k p n xs := by
  have := (top_poly hr hk).1; refine ⟨h.1, fun a ha => ?_⟩; rw [← this]; exact h.2 a ha
theorem PolyIn.inR {k p n : Int} {xs : List Int} (h : PolyIn k p n xs) (hr : ringL k p n) (hk : k = 2 ∨ k = 7 ∨ k = 8) : InR k p n xs := by
  have := (top_poly hr hk).1; refine ⟨h.1, fun a ha => ?_⟩; rw [this]; exact h.2 a ha
theorem poly_zero {k p n : Int} (hp : 1 ≤ p) (m : Nat) (hm : m = (widthI k n).toNat) : PolyIn k p n (List.replicate m 0) := by
  subst hm; refine ⟨by simp, fun a ha => ?_⟩; have := List.eq_of_mem_replicate ha
  omega
theorem mulStep_in {k p n : Int} {x y out : List Int} {i j : Nat} (hp : 1 ≤ p) (hx : PolyIn k p n x) (hy : PolyIn k p n y) (ho : PolyIn k p n out) : PolyIn k p n (mulStep k p x y out i j) := by
  have hxi := hx.at hp i; have hyj := hy.at hp j
  unfold mulStep
  split
  · refine ho.set _ (tmod_in ?_ hp); have := (mul_in hxi hyj).1; have := (ho.at hp (i + j)).1
    omega
  · split
    · refine ho.set _ (tmod_in ?_ hp); have := (mul_in (a := p - x.getD i 0) (t := p) ⟨by omega, by omega⟩ hyj).1; have := (ho.at hp (i + j - 4)).1
      omega
    · exact ho
theorem mulRow_in {k p n : Int} {x y out : List Int} {i : Nat} (hp : 1 ≤ p) (hx : PolyIn k p n x) (hy : PolyIn k p n y) (ho : PolyIn k p n out) : ∀ m, PolyIn k p n (mulRow k p x y i out m)
  | 0 => by simpa [mulRow] using ho
  | m + 1 => by rw [mulRow_step]; exact mulStep_in hp hx hy (mulRow_in hp hx hy ho m)
theorem mulTo_in {k p n : Int} {x y out : List Int} (hp : 1 ≤ p) (hx : PolyIn k p n x) (hy : PolyIn k p n y) (ho : PolyIn k p n out) : ∀ m, PolyIn k p n (mulTo k p x y out m)
  | 0 => by simpa [mulTo] using ho
  | m + 1 => by rw [mulTo_step]; exact mulRow_in hp hx hy (mulTo_in hp hx hy ho m) _
open Classical in
noncomputable def mulL (k p n : Int) (x y : List Int) : List Int :=
  if k = 1 ∨ k = 5 then [min (x.getD 0 0) (y.getD 0 0)]
  else if k = 2 then [(x.getD 0 0 * y.getD 0 0).tmod p]
  else if k = 3 then [min (x.getD 0 0 * y.getD 0 0) p]
  else if k = 4 then [min (x.getD 0 0 + y.getD 0 0) p]
  else if k = 6 then [(((x.getD 0 0).toNat &&& (y.getD 0 0).toNat : Nat) : Int)]
  else mulTo k p x y (List.replicate (widthI k n).toNat 0) x.length
theorem one_R {k p n a : Int} (h7 : k ≠ 7) (h8 : k ≠ 8) (h : 0 ≤ a ∧ a ≤ topI k p n) : InR k p n [a] := ⟨by rw [width_1 h7 h8]; rfl, fun b hb => by simp at hb; subst hb; exact h⟩
theorem and_le (a b : Int) (ha : 0 ≤ a) : 0 ≤ ((a.toNat &&& b.toNat : Nat) : Int) ∧ ((a.toNat &&& b.toNat : Nat) : Int) ≤ a := by
  have : a.toNat &&& b.toNat ≤ a.toNat := Nat.and_le_left
  omega
theorem mulL_in {k p n : Int} {x y : List Int} (hr : ringL k p n) (hx : InR k p n x) (hy : InR k p n y) : InR k p n (mulL k p n x y) := by
  have h1 := hx.len hr; have h2 := hy.len hr; have hx0 := hx.at hr 0 (by omega); have hy0 := hy.at hr 0 (by omega); have hw := width_range hr; have hm := (mul_in hx0 hy0).1
  unfold mulL
  split
  · exact one_R (by omega) (by omega) (by omega)
  · split
    · have ht := top_poly hr (by omega); refine one_R (by omega) (by omega) ?_; have := tmod_in hm (show 1 ≤ p by omega)
      omega
    · split
      · have ht := top_cap hr (by omega); exact one_R (by omega) (by omega) (by omega)
      · split
        · have ht := top_cap hr (by omega); exact one_R (by omega) (by omega) (by omega)
        · split
          · have := and_le (x.getD 0 0) (y.getD 0 0) hx0.1; exact one_R (by omega) (by omega) (by omega)
          · have hk := kind_rest hr (by omega) (by omega) (by omega) (by omega) (by omega) (by omega); have ht := top_poly hr (by omega); exact (mulTo_in (by omega) (hx.poly hr (by omega)) (hy.poly hr (by omega)) (poly_zero (by omega) _ rfl) _).inR hr (by omega)
theorem top_1 {k p n : Int} (h : k = 1) : topI k p n = 1 := by simp [topI, h]
open Classical in
noncomputable def add1 (k p : Int) (a b : Int) : Int :=
  if k = 1 ∨ k = 5 then max a b else if k = 3 then min (a + b) p else if k = 4 then min a b else if k = 6 then ((a.toNat ||| b.toNat : Nat) : Int) else (a + b).tmod p
noncomputable def addL (k p : Int) (x y : List Int) : List Int := (List.range x.length).map fun i => add1 k p (x.getD i 0) (y.getD i 0)
theorem addL_len (k p : Int) (x y : List Int) : (addL k p x y).length = x.length := by simp [addL]
theorem or_in {a b n : Int} (ha : 0 ≤ a ∧ a ≤ 2 ^ n.toNat - 1) (hb : 0 ≤ b ∧ b ≤ 2 ^ n.toNat - 1) : 0 ≤ ((a.toNat ||| b.toNat : Nat) : Int) ∧ ((a.toNat ||| b.toNat : Nat) : Int) ≤ 2 ^ n.toNat - 1 := by
  have e : ((2 ^ n.toNat : Nat) : Int) = (2 : Int) ^ n.toNat := by simp
  have h1 : a.toNat ||| b.toNat < 2 ^ n.toNat := Nat.or_lt_two_pow (by omega) (by omega)
  omega
theorem add1_in {k p n a b : Int} (hr : ringL k p n) (ha : 0 ≤ a ∧ a ≤ topI k p n) (hb : 0 ≤ b ∧ b ≤ topI k p n) : 0 ≤ add1 k p a b ∧ add1 k p a b ≤ topI k p n := by
  unfold add1
  split
  · omega
  · split
    · have := top_cap hr (by omega); omega
    · split
      · omega
      · split
        · rename_i h6
          have ht : topI k p n = 2 ^ n.toNat - 1 := by simp [topI, h6]
          rw [ht] at ha hb ⊢; exact or_in ha hb
        · have ht := top_poly hr (kind_rest' hr (by omega) (by omega) (by omega) (by omega) (by omega)); have := tmod_in (a := a + b) (p := p) (by omega) (by omega)
          omega
theorem addL_in {k p n : Int} {x y : List Int} (hr : ringL k p n) (hx : InR k p n x) (hy : InR k p n y) : InR k p n (addL k p x y) := by
  refine ⟨by rw [addL_len]; exact hx.1, fun a ha => ?_⟩; simp only [addL, List.mem_map, List.mem_range] at ha; obtain ⟨i, hi, rfl⟩ := ha; exact add1_in hr (hx.at hr i hi) (hy.at hr i (by have := hx.1; have := hy.1; omega))
/-- Numbers put in the place of others, from lo on. -/
def putL (xs : List Int) (lo : Nat) (ys : List Int) : List Int := xs.take lo ++ ys ++ xs.drop (lo + ys.length)
theorem putL_len {xs ys : List Int} {lo : Nat} (h : lo + ys.length ≤ xs.length) : (putL xs lo ys).length = xs.length := by simp [putL]; omega
end Go.Proofs.YtiefkcaplhnnmaaDoor
namespace Go.Proofs.YtiefkcaplhnnmaaDoor
set_option maxRecDepth 100000
open Go.RowKit
theorem foldl_mul (ds : List Int) (a : Int) : ds.foldl (· * ·) a = a * prodI ds := by
  induction ds generalizing a with
  | nil => simp [prodI]
  | cons d r ih =>
    simp only [prodI, List.foldl_cons]; rw [ih, ih (1 * d), Int.one_mul, Int.mul_assoc]
theorem prodI_cons (d : Int) (ds : List Int) : prodI (d :: ds) = d * prodI ds := by
  simp only [prodI, List.foldl_cons, Int.one_mul]; exact foldl_mul ds d
theorem prodI_one {ds : List Int} (h : ∀ d ∈ ds, 1 ≤ d) : 1 ≤ prodI ds := by
  induction ds with
  | nil => simp [prodI]
  | cons d r ih =>
    rw [prodI_cons]; have h1 := h d (by simp); have h2 := ih (fun x hx => h x (by simp [hx])); have := Int.mul_le_mul h1 h2 (by omega) (by omega)
    omega
theorem dims_mem {ds : List Int} (h : dimsIn ds) : ∀ d ∈ ds, 1 ≤ d ∧ d ≤ 8 := all_of h
def strOf : List Int → List Int → Int → Int
  | l :: ls, _ :: ds, x => if x = l then prodI ds else strOf ls ds x
  | _, _, _ => 0
def stepsL (labels ls ds : List Int) : List Int := labels.map (strOf ls ds)
theorem stepsL_len (labels ls ds : List Int) : (stepsL labels ls ds).length = labels.length := by simp [stepsL]
theorem stepsL_get {labels ls ds : List Int} {k : Nat} (h : k < labels.length) : (stepsL labels ls ds).getD k 0 = strOf ls ds (labels.getD k 0) := map_getD h
theorem strOf_none {x : Int} : ∀ {ls ds : List Int}, x ∉ ls → strOf ls ds x = 0
  | [], _, _ => rfl
  | _ :: _, [], _ => rfl
  | l :: ls, d :: ds, h => by
    simp only [strOf]; rw [if_neg (fun e => h (by simp [e])), strOf_none (fun hm => h (by simp [hm]))]
theorem steps_end {labels ls ds : List Int} {n : Nat} (h : n = ls.length) : stepsL labels (ls.drop n) (ds.drop n) = List.replicate labels.length 0 := by
  subst h; rw [List.drop_length, stepsL]; simp only [strOf]
  induction labels <;> simp_all [List.replicate_succ]
def dotTo (xs ys : List Int) : Nat → Int
  | 0 => 0
  | m + 1 => dotTo xs ys m + xs.getD m 0 * ys.getD m 0
def dotL (xs ys : List Int) : Int := dotTo xs ys xs.length
theorem dotTo_set {xs ys : List Int} {k : Nat} (hk : k < xs.length) (a : Int) : ∀ m, dotTo (xs.set k a) ys m = dotTo xs ys m + (if k < m then (a - xs.getD k 0) * ys.getD k 0 else 0)
  | 0 => by simp [dotTo]
  | m + 1 => by
    have ih := dotTo_set (ys := ys) hk a m; simp only [dotTo, ih]
    by_cases e : m = k
    · subst e; have : (xs.set m a).getD m 0 = a := by simp [List.getD, hk]
      rw [this, if_neg (by omega), if_pos (by omega), Int.sub_mul]
      omega
    · have : (xs.set k a).getD m 0 = xs.getD m 0 := by simp only [List.getD]; rw [List.getElem?_set_ne (by omega)]
      rw [this]
      by_cases h : k < m
      · rw [if_pos h, if_pos (by omega)]; omega
      · rw [if_neg h, if_neg (by omega)]; omega
theorem dotTo_zero {ys : List Int} {n : Nat} : ∀ m, dotTo (List.replicate n 0) ys m = 0
  | 0 => rfl
  | m + 1 => by rw [dotTo, dotTo_zero, rep_getD]; omega
def offL : List Int → List Int → Int
  | _ :: ds, i :: is => i * prodI ds + offL ds is
  | _, _ => 0
def idxIn (ds is : List Int) : Prop := is.length = ds.length ∧ ∀ j, j < ds.length → 0 ≤ is.getD j 0 ∧ is.getD j 0 < ds.getD j 0
theorem offL_in : ∀ {ds is : List Int}, (∀ d ∈ ds, 1 ≤ d) → idxIn ds is → 0 ≤ offL ds is ∧ offL ds is ≤ prodI ds - 1
  | [], [], _, _ => by simp [offL, prodI]
  | [], i :: is, _, h => by have := h.1; simp at this
  | d :: ds, [], _, h => by have := h.1; simp at this
  | d :: ds, i :: is, hd, h => by
    have h0 := h.2 0 (by simp); have ih := offL_in (ds := ds) (is := is) (fun x hx => hd x (by simp [hx])) ⟨by have := h.1; simpa using this, fun j hj => by have := h.2 (j + 1) (by simpa using hj); simpa [List.getD] using this⟩; have hp1 := prodI_one (ds := ds) (fun x hx => hd x (by simp [hx])); simp only [List.getD, List.getElem?_cons_zero, Option.getD_some] at h0; have e1 : i * prodI ds ≤ (d - 1) * prodI ds := Int.mul_le_mul_of_nonneg_right (by omega) (by omega); have e2 : 0 ≤ i * prodI ds := Int.mul_nonneg h0.1 (by omega); rw [Int.sub_mul, Int.one_mul] at e1; simp only [offL, prodI_cons]
    omega
def idxAt (labels values ls : List Int) : List Int := ls.map fun x => values.getD (findI labels x).toNat 0
theorem find_at' {labels : List Int} (hn : labels.Nodup) {k : Nat} (hk : k < labels.length) : findI labels (labels.getD k 0) = k := by
  refine idx_first (fun j hj e => ?_) hk rfl; have h1 : j < labels.length := by omega
  simp only [List.getD, List.getElem?_eq_getElem h1, List.getElem?_eq_getElem hk, Option.getD_some] at e; have := (List.getElem_inj hn).1 e
  omega
theorem steps_cons {labels ls ds : List Int} {l d : Int} (hn : labels.Nodup) (hl : l ∈ labels) : stepsL labels (l :: ls) (d :: ds) = (stepsL labels ls ds).set (findI labels l).toNat (prodI ds) := by
  have hf := findI_get hl
  apply ext_getD
  · simp [stepsL_len]
  · intro j hj; rw [stepsL_len] at hj; rw [stepsL_get hj, strOf]
    by_cases e : j = (findI labels l).toNat
    · subst e; rw [if_pos hf.2]
      simp [List.getD, stepsL_len, hf.1]
    · have hne : labels.getD j 0 ≠ l := fun e' => e (by rw [← e', find_at' hn hj]; simp); rw [if_neg hne, ← stepsL_get hj]; simp only [List.getD]; rw [List.getElem?_set_ne (Ne.symm e)]
theorem dot_off {labels values : List Int} (hn : labels.Nodup) : ∀ {ls ds : List Int}, ls.length = ds.length → ls.Nodup → (∀ l ∈ ls, l ∈ labels) → dotTo (stepsL labels ls ds) values labels.length = offL ds (idxAt labels values ls)
  | [], ds, _, _, _ => by
    have e : stepsL labels [] ds = List.replicate labels.length 0 := by
      have := steps_end (labels := labels) (ls := []) (ds := ds) (n := 0) rfl
      simpa using this
    rw [e, dotTo_zero]
    cases ds <;> rfl
  | l :: ls, [], h, _, _ => by simp at h
  | l :: ls, d :: ds, h, hd, hm => by
    have hl := hm l (by simp); have hx : l ∉ ls := (List.nodup_cons.1 hd).1; have hf := findI_get hl; have ih := dot_off (values := values) hn (ls := ls) (ds := ds) (by simpa using h) (List.nodup_cons.1 hd).2 (fun x hx => hm x (by simp [hx])); rw [steps_cons hn hl, dotTo_set (by rw [stepsL_len]; exact hf.1), if_pos hf.1, ih, stepsL_get hf.1, hf.2, strOf_none hx]; simp only [idxAt, List.map_cons, offL, Int.sub_zero]; rw [Int.mul_comm (prodI ds)]
    omega
end Go.Proofs.YtiefkcaplhnnmaaDoor
namespace Go.Proofs.YtiefkcaplhnnmaaDoor
set_option maxRecDepth 100000
open Go.RowKit

theorem net_ax {k p n : Int} {ts : List Ten} {op : List Int} (h : netL k p n ts op) : ∀ t ∈ ts, AxOK t := fun t ht => axes_ok (tensor_axes (h.2.2.1 t ht))
theorem net_axes {k p n : Int} {ts : List Ten} {op : List Int} (h : netL k p n ts op) : ∀ t ∈ ts, axesL t.l t.d := fun t ht => tensor_axes (h.2.2.1 t ht)
end Go.Proofs.YtiefkcaplhnnmaaDoor
namespace Go.Proofs.YtiefkcaplhnnmaaDoor
set_option maxRecDepth 100000
open Go.RowKit
theorem dimOf_append : ∀ {a b : List Ten} (_ : ∀ t ∈ a, AxOK t) (x : Int), dimOf (a ++ b) x = if dimOf a x ≠ 0 then dimOf a x else dimOf b x
  | [], b, _, x => by simp [dimOf]
  | u :: r, b, h, x => by
    have ih := dimOf_append (a := r) (b := b) (fun t ht => h t (by simp [ht])) x
    by_cases hx : x ∈ u.l
    · have hu := (h u (by simp)).2 _ (findI_get hx).1; simp only [List.cons_append, dimOf, if_pos hx]; rw [if_pos (by omega)]
    · simp only [List.cons_append, dimOf, if_neg hx]; exact ih
/-- In a network in order, each label's dimension is that of its axis. -/
theorem net_dim {k p n : Int} {ts : List Ten} {op : List Int} (h : netL k p n ts op) {t : Ten} (ht : t ∈ ts) {x : Int} (hx : x ∈ t.l) : dimOf ts x = t.d.getD (findI t.l x).toNat 0 := by
  obtain ⟨i, hi⟩ := List.getElem?_of_mem ht; have hlt := (List.getElem?_eq_some_iff.1 hi).1; have hg := findI_get hx; have hc := h.2.2.2.1 i hlt t hi _ hg.1 t hi; rw [hg.2] at hc; have e : ts = ts.take i ++ (t :: ts.drop (i + 1)) := by rw [← drop_at hi, List.take_append_drop]
  have hax := net_ax h
  conv => lhs; rw [e]
  rw [dimOf_append (fun u hu => hax u (List.mem_of_mem_take hu))]
  split
  · omega
  · rw [dimOf, if_pos hx]
theorem axes_nodup {ls ds : List Int} (h : axesL ls ds) : ls.Nodup := by
  rw [List.Nodup, List.pairwise_iff_getElem]; intro i j hi hj hij e; have := (h.2.2 j hj).2.2; refine this ?_; simp only [List.getD, List.getElem?_eq_getElem hj, Option.getD_some]; rw [← e]; exact List.mem_iff_getElem.2 ⟨i, by simp; omega, by simp⟩
theorem oneL_in {k p n : Int} (h : ringL k p n) : InR k p n (oneL k p n) := by
  refine ⟨oneL_len k p n, fun a ha => ?_⟩; have ht := top_range h
  unfold oneL at ha
  split at ha
  · simp at ha; omega
  · split at ha
    · simp at ha; omega
    · have h1 : 1 ≤ topI k p n := by
        have h3 := fun hk => top_cap (k := k) (p := p) (n := n) h hk; have h2 := fun hk => top_poly (k := k) (p := p) (n := n) h hk
        unfold ringL at h
        have h1 := fun hk => top_1 (k := k) (p := p) (n := n) hk
        rcases h with h | h | h | h | h | h
        · have := h1 h.1; omega
        · have := h2 (.inl h.1); omega
        · have := h3 h.1; omega
        · omega
        · have := h2 (.inr (.inl h.1)); omega
        · have := h2 (.inr (.inr h.1)); omega
      rcases List.mem_or_eq_of_mem_set ha with ha | ha
      · have := List.eq_of_mem_replicate ha; omega
      · omega
theorem elt_mem {xs : List Int} {w i a : Int} (h : a ∈ elt xs w i) : a ∈ xs := List.mem_of_mem_drop (List.mem_of_mem_take h)
theorem elt_inR {k p n : Int} {t : Ten} (h : tensorL k p n t.l t.d t.x) {i : Int} (h0 : 0 ≤ i) (h1 : i < prodI t.d) : InR k p n (elt t.x (widthI k n) i) := by
  have hw := width_range h.1; refine ⟨?_, fun a ha => h.2.2.2 a (elt_mem ha)⟩; have hsz := h.2.2.1; have hs := sizeI_ge.1 h.2.1; rw [sizeI_yes hs.1 hs.2] at hsz; have := Int.mul_le_mul_of_nonneg_right (show i + 1 ≤ prodI t.d by omega) (show 0 ≤ widthI k n by omega); have h2 := Int.mul_nonneg h0 (show 0 ≤ widthI k n by omega); rw [Int.add_mul, Int.one_mul] at this; simp only [elt, List.length_take, List.length_drop]
  omega
/-- What is asked of the numbers at the labels. -/
structure AtOK (k p n : Int) (ts : List Ten) (labels vs : List Int) : Prop where
  ring : ringL k p n
  ten : ∀ t ∈ ts, tensorL k p n t.l t.d t.x
  nodup : labels.Nodup
  mem : ∀ t ∈ ts, ∀ x ∈ t.l, x ∈ labels
  idx : ∀ t ∈ ts, idxIn t.d (idxAt labels vs t.l)
  len : vs.length = labels.length
  few : labels.length ≤ 100
  small : ∀ b ∈ vs, 0 ≤ b ∧ b ≤ 1048576
theorem AtOK.off {k p n : Int} {ts : List Ten} {labels vs : List Int} (h : AtOK k p n ts labels vs) {t : Ten} (ht : t ∈ ts) : 0 ≤ offL t.d (idxAt labels vs t.l) ∧ offL t.d (idxAt labels vs t.l) < prodI t.d := by
  have := offL_in (fun d hd => (dims_mem (axes_dims (tensor_axes (h.ten t ht))) d hd).1) (h.idx t ht)
  omega
end Go.Proofs.YtiefkcaplhnnmaaDoor
namespace Go.Proofs.YtiefkcaplhnnmaaDoor
set_option maxRecDepth 100000
open Go.RowKit
def digI (ds : List Int) (n : Int) (i : Nat) : Int := n / prodI (ds.drop (i + 1)) % ds.getD i 0
def idxL (ds : List Int) (n : Int) : List Int := (List.range ds.length).map fun i => digI ds n i
theorem idxL_len (ds : List Int) (n : Int) : (idxL ds n).length = ds.length := by simp [idxL]
theorem idxL_get {ds : List Int} {n : Int} {i : Nat} (h : i < ds.length) : (idxL ds n).getD i 0 = digI ds n i := by simp [idxL, List.getD, h]
theorem idxL_in {ds : List Int} (hd : ∀ d ∈ ds, 1 ≤ d) (n : Int) : idxIn ds (idxL ds n) := ⟨idxL_len ds n, fun j hj => by
  rw [idxL_get hj]; have := hd _ (mem_getD hj); exact ⟨Int.emod_nonneg _ (by omega), Int.emod_lt_of_pos _ (by omega)⟩⟩
end Go.Proofs.YtiefkcaplhnnmaaDoor
namespace Go.Proofs.YtiefkcaplhnnmaaDoor
set_option maxRecDepth 100000
open Go.RowKit
section
variable {P : Program} {n : Nat} {w0 : World} {K : Env} {HS : List PH} {d : Option Tmp} {ty : TypeId} {ps : String} {af : Array Edge} {g : Option (Nat × Bool)}
end
/-- A network that owns its parts, as a call returns it. -/
def NetT (k p n : Int) (ts : List Ten) (op : List Int) (u : Value) (h : PH) : Prop := ∃ vt vo, u = netV k p n vt vo ∧ NetO ts op vt vo h
theorem ct_L_toNetwork (k p n : Int) (ts : List Ten) (op : List Int) (vt vo : Value) (w : World) (r : TensR ts vt (hp w)) (r' : IntsR op vo (hp w)) (hs : ts.length + tensSize ts + op.length ≤ 1048576) :
    Calls Tryd.prog 6 [netV k p n vt vo].toArray w (Ret w emp (NetT k p n ts op)) := ct_l_toNetwork k p n ts op vt vo w r r' hs
def TriO (t : Ten) (a b c : Value) (h : PH) : Prop := ∃ h1 h2 h3, IntsO t.l a h1 ∧ IntsO t.d b h2 ∧ IntsO t.x c h3 ∧ Made h [h1, h2, h3]
theorem TriO.toR {t : Ten} {a b c : Value} {h : PH} (r : TriO t a b c h) : IntsR t.l a h ∧ IntsR t.d b h ∧ IntsR t.x c h := by
  obtain ⟨h1, h2, h3, r1, r2, r3, m⟩ := r; exact ⟨r1.toR.mono (m.le h1 (by simp)), r2.toR.mono (m.le h2 (by simp)), r3.toR.mono (m.le h3 (by simp))⟩
end Go.Proofs.YtiefkcaplhnnmaaDoor
namespace Go.Proofs.YtiefkcaplhnnmaaDoor
set_option maxRecDepth 100000
open Go.RowKit
def setP (xs ys : List Int) (j : Nat) : Prop := ys.getD j 0 ∈ xs ∧ ys.getD j 0 ∉ ys.take j
def setL (xs ys : List Int) : Prop := xs.length = ys.length ∧ ∀ j, j < ys.length → setP xs ys j
theorem perm_of : ∀ {xs ys : List Int}, xs.Nodup → (∀ x ∈ xs, x ∈ ys) → ys.length ≤ xs.length → xs.Perm ys
  | [], ys, _, _, hl => by
    have : ys = [] := List.eq_nil_of_length_eq_zero (by simpa using hl); rw [this]
  | x :: xs, ys, hn, hs, hl => by
    have hx := hs x (by simp); have hp := List.perm_cons_erase hx; have hnx := List.nodup_cons.1 hn; refine (List.Perm.cons x (perm_of hnx.2 (fun y hy => ?_) ?_)).trans hp.symm
    · exact (List.mem_erase_of_ne (fun e => hnx.1 (by rw [← e]; exact hy))).2 (hs y (by simp [hy]))
    · have := List.length_erase_of_mem hx; simp only [List.length_cons] at hl
      omega
theorem prodI_perm {a b : List Int} (h : a.Perm b) : prodI a = prodI b := by
  induction h with
  | nil => rfl
  | cons x _ ih => rw [prodI_cons, prodI_cons, ih]
  | swap x y l => rw [prodI_cons, prodI_cons, prodI_cons, prodI_cons, Int.mul_left_comm]
  | trans _ _ h1 h2 => exact h1.trans h2
def permD (t : Ten) (ls : List Int) : List Int := idxAt t.l t.d ls
def permX (wd : Int) (t : Ten) (ls ds : List Int) (m : Nat) : List Int := (List.range m).flatMap fun (i : Nat) => elt t.x wd (offL t.d (idxAt ls (idxL ds i) t.l))
noncomputable def permT (k n : Int) (t : Ten) (ls : List Int) : Ten := ⟨ls, permD t ls, permX (widthI k n) t ls (permD t ls) (prodI (permD t ls)).toNat⟩
theorem permX_step (wd : Int) (t : Ten) (ls ds : List Int) (m : Nat) : permX wd t ls ds (m + 1) = permX wd t ls ds m ++ elt t.x wd (offL t.d (idxAt ls (idxL ds m) t.l)) := by
  simp [permX, List.range_succ]
theorem permD_len (t : Ten) (ls : List Int) : (permD t ls).length = ls.length := List.length_map _
structure PermOK (k p n : Int) (t : Ten) (ls : List Int) : Prop where
  ring : ringL k p n
  ten : tensorL k p n t.l t.d t.x
  perm : ls.Perm t.l
section
variable {k p n : Int} {t : Ten} {ls : List Int}
theorem PermOK.axes (h : PermOK k p n t ls) : axesL t.l t.d := tensor_axes h.ten
theorem PermOK.nodup (h : PermOK k p n t ls) : ls.Nodup := (List.Perm.nodup_iff h.perm).2 (axes_nodup h.axes)
theorem PermOK.len (h : PermOK k p n t ls) : ls.length = t.l.length ∧ t.l.length = t.d.length ∧ ls.length ≤ 12 := by
  have := h.perm.length_eq; have := h.axes; exact ⟨by omega, this.2.1, by have := this.1; omega⟩
theorem PermOK.find (h : PermOK k p n t ls) {j : Nat} (hj : j < ls.length) : 0 ≤ findI t.l (ls.getD j 0) ∧ findI t.l (ls.getD j 0) < t.d.length ∧ t.l.getD (findI t.l (ls.getD j 0)).toNat 0 = ls.getD j 0 := by
  have hm : ls.getD j 0 ∈ t.l := h.perm.mem_iff.1 (mem_getD hj); have h1 := findI_ge.2 hm; have h2 := findI_get hm; have := h.len; exact ⟨h1, by omega, h2.2⟩
theorem PermOK.dims (h : PermOK k p n t ls) : dimsIn (permD t ls) := fun j hj => by
  rw [permD_len] at hj; have hf := h.find hj; rw [permD, idxAt, map_getD hj]; exact axes_dims h.axes _ (by omega)
theorem PermOK.prod (h : PermOK k p n t ls) : prodI (permD t ls) = prodI t.d := by
  have e : t.d = idxAt t.l t.d t.l := by
    apply ext_getD (by simp [idxAt, h.axes.2.1])
    intro j hj; have hj' : j < t.l.length := by rw [h.axes.2.1]; exact hj
    rw [idxAt, map_getD hj', find_at h.axes hj', Int.toNat_natCast]
  conv => rhs; rw [e]
  exact prodI_perm (h.perm.map _)
theorem PermOK.small (h : PermOK k p n t ls) : 1 ≤ prodI (permD t ls) ∧ prodI (permD t ls) ≤ 4096 := by
  refine ⟨prodI_one fun d hd => (dims_mem h.dims d hd).1, ?_⟩; rw [h.prod]; exact (sizeI_ge.1 h.ten.2.1).2
theorem PermOK.back (h : PermOK k p n t ls) {j : Nat} (hj : j < t.l.length) : (findI ls (t.l.getD j 0)).toNat < ls.length ∧ ls.getD (findI ls (t.l.getD j 0)).toNat 0 = t.l.getD j 0 :=
  findI_get (h.perm.mem_iff.2 (mem_getD hj))
theorem PermOK.idx (h : PermOK k p n t ls) (i : Int) : idxIn t.d (idxAt ls (idxL (permD t ls) i) t.l) := by
  have hd : ∀ d ∈ permD t ls, 1 ≤ d := fun d hd => (dims_mem h.dims d hd).1; refine ⟨by simp [idxAt, h.axes.2.1], fun j hj => ?_⟩; have hj' : j < t.l.length := by rw [h.axes.2.1]; exact hj
  have hb := h.back hj'; have hv := (idxL_in hd i).2 (findI ls (t.l.getD j 0)).toNat (by rw [permD_len]; exact hb.1); rw [idxAt, map_getD hj']; rw [show (permD t ls).getD (findI ls (t.l.getD j 0)).toNat 0 = t.d.getD j 0 by
    rw [permD, idxAt, map_getD hb.1, hb.2, find_at h.axes hj', Int.toNat_natCast]] at hv
  exact hv
theorem PermOK.off (h : PermOK k p n t ls) (i : Int) : 0 ≤ offL t.d (idxAt ls (idxL (permD t ls) i) t.l) ∧ offL t.d (idxAt ls (idxL (permD t ls) i) t.l) < prodI t.d := by
  have := offL_in (fun d hd => (dims_mem (axes_dims h.axes) d hd).1) (h.idx i)
  omega
end
end Go.Proofs.YtiefkcaplhnnmaaDoor
namespace Go.Proofs.YtiefkcaplhnnmaaDoor
set_option maxRecDepth 100000
open Go.RowKit
/-- 'HK' is 'HS', some parts of it forgotten. -/
def WkL : List PH → List PH → Prop
  | [], [] => True
  | h :: HS, k :: HK => (k = h ∨ k = emp) ∧ WkL HS HK
  | _, _ => False
theorem WkL.refl : ∀ HS, WkL HS HS
  | [] => trivial
  | _ :: HS => ⟨.inl rfl, WkL.refl HS⟩
theorem WkL.le : ∀ {HS HK : List PH}, WkL HS HK → ∀ x ∈ HK, x = emp ∨ x ∈ HS
  | [], [], _, x, h => by simp at h
  | _ :: _, [], h, _, _ => h.elim
  | [], _ :: _, h, _, _ => h.elim
  | h :: HS, k :: HK, w, x, hx => by
    rcases List.mem_cons.1 hx with rfl | hx
    · rcases w.1 with e | e
      · exact .inr (by simp [e])
      · exact .inl e
    · rcases WkL.le w.2 x hx with e | e
      · exact .inl e
      · exact .inr (by simp [e])
theorem WkL.sep : ∀ {HS HK : List PH}, WkL HS HK → sepL HS → sepL HK
  | [], [], _, _ => trivial
  | _ :: _, [], h, _ => h.elim
  | [], _ :: _, h, _ => h.elim
  | h :: HS, k :: HK, w, s => by
    refine ⟨fun x hx => ?_, WkL.sep w.2 s.2⟩
    rcases w.1 with rfl | rfl
    · rcases WkL.le w.2 x hx with rfl | e
      · exact PDj.symm (PDj.emp _)
      · exact s.1 x e
    · exact PDj.emp _
theorem WkL.set : ∀ {HS HK : List PH} {p : Nat} {h' : PH}, WkL HS HK → HK[p]? = some emp → WkL (HS.set p h') HK
  | [], [], _, _, _, e => by simp at e
  | _ :: _, [], _, _, h, _ => h.elim
  | [], _ :: _, _, _, h, _ => h.elim
  | h :: HS, k :: HK, 0, h', w, e => by
    simp only [List.getElem?_cons_zero, Option.some.injEq] at e; exact ⟨.inr e, w.2⟩
  | h :: HS, k :: HK, p + 1, h', w, e => ⟨w.1, WkL.set (p := p) w.2 (by simpa using e)⟩
section
variable (P : Program) (n : Nat) (w0 : World)
end
section
variable {P : Program} {n : Nat} {w0 : World} {K : Env} {HS HK : List PH} {Q : Exit → Act → World → Prop} {ops : Array Oper} {m : Nat} {r : List (Nat × Bool)} {listed : Array Bool}
end
end Go.Proofs.YtiefkcaplhnnmaaDoor
namespace Go.Proofs.YtiefkcaplhnnmaaDoor
set_option maxRecDepth 100000
open Go.RowKit
structure Stp where
  a : Int
  b : Int
def stepCells (ss : List Stp) : List Value := ss.flatMap fun s => [num s.a, num s.b]
theorem stepCells_at : ∀ {ss : List Stp} {i : Nat} {s : Stp}, ss[i]? = some s → ((stepCells ss).drop (i * 2)).take 2 = [num s.a, num s.b]
  | [], i, s, h => by simp at h
  | u :: r, 0, s, h => by cases h; rfl
  | u :: r, i + 1, s, h => by
    have ih := stepCells_at (ss := r) (i := i) (s := s) (by simpa using h); rw [show (i + 1) * 2 = i * 2 + 1 + 1 by omega]; exact ih
def StepsR (ss : List Stp) (v : Value) (h : PH) : Prop := RowR (stepCells ss) ss.length 2 v h
theorem StepsR.mono {ss : List Stp} {v : Value} {h h' : PH} (r : StepsR ss v h) (l : PLe h h') : StepsR ss v h' := RowR.mono r l
theorem StepsR.sl {ss : List Stp} {v : Value} {h : PH} (r : StepsR ss v h) : SlL v ss.length := RowR.sl r
theorem StepsR.le {ss : List Stp} {v : Value} {h : PH} (r : StepsR ss v h) : (ss.length : Int) ≤ 9223372036854775807 := by
  obtain ⟨_, a, c, _, ⟨h, _⟩, _⟩ := r
  unfold maxLen at h
  omega
theorem StepsR.at {ss : List Stp} {v : Value} {h : PH} (r : StepsR ss v h) : ∃ cells, RowR cells ss.length 2 v h ∧ ∀ i, i < ss.length → ∃ x, ss[i]? = some x ∧ (cells.drop (i * 2)).take 2 = [num x.a, num x.b] :=
  ⟨_, r, fun _ hi => ⟨_, List.getElem?_eq_getElem hi, stepCells_at (List.getElem?_eq_getElem hi)⟩⟩
section
variable {P : Program} {n : Nat} {w0 : World} {K : Env} {HS : List PH} {d : Option Tmp} {ty : TypeId} {ps : String} {af : Array Edge} {g : Option (Nat × Bool)}
end
structure Lv where
  n : Int
  l : List Int
def LvR (x : Lv) (cs : List Value) (h : PH) : Prop := ∃ v, cs = [num x.n, v] ∧ IntsR x.l v h
theorem LvR.mono {x : Lv} {cs : List Value} {h h' : PH} (r : LvR x cs h) (l : PLe h h') : LvR x cs h' := let ⟨v, e, r⟩ := r; ⟨v, e, r.mono l⟩
def LiveR (xs : List Lv) (v : Value) (h : PH) : Prop := RowsR 2 LvR xs v h
theorem LiveR.mono {xs : List Lv} {v : Value} {h h' : PH} (r : LiveR xs v h) (l : PLe h h') : LiveR xs v h' := RowsR.mono (R := LvR) LvR.mono r l
theorem LiveR.sl {xs : List Lv} {v : Value} {h : PH} (r : LiveR xs v h) : SlL v xs.length := RowsR.sl r
theorem LiveR.le {xs : List Lv} {v : Value} {h : PH} (r : LiveR xs v h) : (xs.length : Int) ≤ 9223372036854775807 := RowsR.le r
theorem LiveR.at {xs : List Lv} {v : Value} {h : PH} (r : LiveR xs v h) : ∃ cells, RowR cells xs.length 2 v h ∧ ∀ i, i < xs.length → ∃ x a, xs[i]? = some x ∧ (cells.drop (i * 2)).take 2 = [num x.n, a] ∧ IntsR x.l a h := by
  obtain ⟨cells, rr, hc⟩ := r; refine ⟨cells, rr, fun i hi => ?_⟩; have ht : xs[i]? = some xs[i] := List.getElem?_eq_getElem hi; obtain ⟨a, e, r1⟩ := hc i _ ht; exact ⟨_, a, ht, e, r1⟩
/-- The elements' cells, read in h. -/
def LvL (xs : List Lv) (cs : List Value) (h : PH) : Prop := cs.length = xs.length * 2 ∧ ∀ (i : Nat) (x : Lv), xs[i]? = some x → LvR x ((cs.drop (i * 2)).take 2) h
theorem LvL.nil (h : PH) : LvL [] [] h := ⟨rfl, fun i x e => by simp at e⟩
theorem LvL.mono {xs : List Lv} {cs : List Value} {h h' : PH} (r : LvL xs cs h) (l : PLe h h') : LvL xs cs h' := ⟨r.1, fun i x e => (r.2 i x e).mono l⟩
theorem LvL.live {xs : List Lv} {cs : List Value} {v : Value} {h : PH} (r : LvL xs cs h) (rr : RowR cs xs.length 2 v h) : LiveR xs v h := ⟨cs, rr, r.2⟩
def joinI (a b : List Int) : List Int := a ++ b.filter fun x => decide (x ∉ a)
structure Sh where
  all : List (List Int)
  gone : List Bool
def Sh.lab (s : Sh) (i : Nat) : List Int := s.all.getD i []
def Sh.ok (s : Sh) : Prop := s.gone.length = s.all.length
def Sh.live (s : Sh) (a : Int) : Prop := 0 ≤ a ∧ a < s.all.length ∧ s.gone.getD a.toNat false = false
def Sh.ixs (s : Sh) : List Nat := (List.range s.all.length).filter fun i => !s.gone.getD i false
def Sh.lv (s : Sh) : List Lv := s.ixs.map fun (i : Nat) => ⟨i, s.lab i⟩
def Sh.kept (op : List Int) (s : Sh) (a b : Nat) (x : Int) : Prop := x ∈ op ∨ ∃ i ∈ s.ixs, i ≠ a ∧ i ≠ b ∧ x ∈ s.lab i
open Classical in
noncomputable def Sh.res (op : List Int) (s : Sh) (a b : Nat) : List Int := (joinI (s.lab a) (s.lab b)).filter fun x => decide (s.kept op a b x)
noncomputable def Sh.step (op : List Int) (s : Sh) (a b : Nat) : Sh := ⟨s.all ++ [s.res op a b], ((s.gone.set a true).set b true) ++ [false]⟩
theorem Sh.step_ok {op : List Int} {s : Sh} (h : s.ok) (a b : Nat) : (s.step op a b).ok := by simp only [Sh.ok, Sh.step, List.length_append, List.length_set] at *; simp [h]
theorem ixs_nodup (s : Sh) : s.ixs.Nodup := List.Pairwise.filter _ List.nodup_range
theorem mem_ixs {s : Sh} {i : Nat} : i ∈ s.ixs ↔ i < s.all.length ∧ s.gone.getD i false = false := by simp [Sh.ixs]
theorem live_ixs {s : Sh} {a : Int} : s.live a ↔ 0 ≤ a ∧ a.toNat ∈ s.ixs := by
  rw [mem_ixs]
  unfold Sh.live
  constructor
  · rintro ⟨h1, h2, h3⟩; exact ⟨h1, by omega, h3⟩
  · rintro ⟨h1, h2, h3⟩; exact ⟨h1, by omega, h3⟩
/-- The place of a number among what is live. -/
def Sh.place (s : Sh) (a : Int) : Int := findI (s.ixs.map Int.ofNat) a
theorem getD_append_left {α : Type} {l r : List α} {i : Nat} {d : α} (h : i < l.length) : (l ++ r).getD i d = l.getD i d := by simp [List.getD, List.getElem?_append_left h]
theorem step_ixs {op : List Int} {s : Sh} (h : s.ok) {a b : Nat} : (s.step op a b).ixs = (s.ixs.filter fun i => decide (i ≠ a ∧ i ≠ b)) ++ [s.all.length] := by
  have hl : (s.step op a b).all.length = s.all.length + 1 := by simp [Sh.step]
  have hg : (s.step op a b).gone.getD s.all.length false = false := by
    have : ((s.gone.set a true).set b true).length = s.all.length := by simpa [Sh.ok] using h
    simp only [Sh.step, List.getD]; rw [List.getElem?_append_right (by omega), this]
    simp
  unfold Sh.ixs
  rw [hl, List.range_succ, List.filter_append, List.filter_filter]
  congr 1
  · apply List.filter_congr
    intro i hi; have hi' : i < s.all.length := by simpa using hi
    have e : (s.step op a b).gone.getD i false = if i = a ∨ i = b then true else s.gone.getD i false := by
      have hlen : i < s.gone.length := by rw [h]; exact hi'
      rw [Sh.step, getD_append_left (by simpa using hlen)]; simp only [List.getD, List.getElem?_set, List.length_set]
      by_cases e1 : b = i
      · subst e1; simp [hlen]
      · by_cases e2 : a = i
        · subst e2; simp [hlen, e1]
        · simp [e1, e2, Ne.symm e1, Ne.symm e2]
    rw [e]
    by_cases hc : i = a ∨ i = b
    · rw [if_pos hc]; rcases hc with rfl | rfl <;> simp
    · rw [if_neg hc]; have : i ≠ a ∧ i ≠ b := ⟨fun e => hc (.inl e), fun e => hc (.inr e)⟩
      simp [this]
  · rw [List.filter_cons_of_pos (by rw [hg]; rfl)]; rfl
theorem step_lab {op : List Int} {s : Sh} {a b i : Nat} (hi : i < s.all.length) : (s.step op a b).lab i = s.lab i := by rw [Sh.lab, Sh.step, getD_append_left hi]; rfl
theorem step_lab_new {op : List Int} {s : Sh} {a b : Nat} : (s.step op a b).lab s.all.length = s.res op a b := by simp [Sh.lab, Sh.step, List.getD]
end Go.Proofs.YtiefkcaplhnnmaaDoor
namespace Go.Proofs.YtiefkcaplhnnmaaDoor
set_option maxRecDepth 100000
open Go.RowKit
abbrev stCells (arr : List Int) (vo lvv : Value) (nx : Int) : List Value := ints arr ++ [vo, lvv, num nx]
section
variable {P : Program} {n : Nat} {w0 : World} {K : Env} {HS : List PH} {d : Option Tmp} {ty : TypeId} {ps : String} {af : Array Edge} {g : Option (Nat × Bool)}
end
/-- The state as it is read. -/
structure StR (arr : List Int) (vo lvv : Value) (s : Sh) (b : Nat) (h : PH) : Prop where
  len : arr.length = 100
  ok : s.ok
  cells : ∀ (j : Nat) (u : Value), (stCells arr vo lvv s.all.length)[j]? = some u → cellP h b j = some u
  live : LiveR s.lv lvv h
theorem StR.mono {arr : List Int} {vo lvv : Value} {s : Sh} {b : Nat} {h h' : PH} (r : StR arr vo lvv s b h) (l : PLe h h') : StR arr vo lvv s b h' := ⟨r.len, r.ok, fun j u e => cellP.mono l (r.cells j u e), r.live.mono l⟩
theorem StR.arr {arr : List Int} {vo lvv : Value} {s : Sh} {b : Nat} {h : PH} (r : StR arr vo lvv s b h) : (ints arr).length = 100 ∧ ∀ (j : Nat) (u : Value), (ints arr)[j]? = some u → cellP h b (0 + 0 + j) = some u :=
  ⟨by rw [ints_length]; exact r.len, fun j u e => by
    rw [show 0 + 0 + j = j by omega]; refine r.cells j u ?_; rw [List.getElem?_append_left (List.getElem?_eq_some_iff.1 e).1]; exact e⟩
end Go.Proofs.YtiefkcaplhnnmaaDoor
namespace Go.Proofs.YtiefkcaplhnnmaaDoor
set_option maxRecDepth 100000
open Go.RowKit
theorem joinI_len (xs ys : List Int) : (joinI xs ys).length ≤ xs.length + ys.length := by
  have := List.length_filter_le (fun x => decide (x ∉ xs)) ys; simp only [joinI, List.length_append]
  omega
end Go.Proofs.YtiefkcaplhnnmaaDoor
namespace Go.Proofs.YtiefkcaplhnnmaaDoor
set_option maxRecDepth 100000
open Go.RowKit
theorem RowO.nil {e : TypeId} {sz : Nat} : RowO e [] 0 sz (.slice none 0 0) emp := ⟨by simp, .inl ⟨rfl, rfl, rfl⟩⟩
def sh0 (ts : List Ten) : Sh := ⟨ts.map (·.l), List.replicate ts.length false⟩
theorem sh0_ok (ts : List Ten) : (sh0 ts).ok := by simp [Sh.ok, sh0]
theorem sh0_ixs (ts : List Ten) : (sh0 ts).ixs = List.range ts.length := by
  unfold Sh.ixs
  have : (sh0 ts).all.length = ts.length := by simp [sh0]
  rw [this, List.filter_eq_self]; intro i hi; simp only [sh0, List.getD, List.getElem?_replicate]
  split <;> rfl
end Go.Proofs.YtiefkcaplhnnmaaDoor
namespace Go.Proofs.YtiefkcaplhnnmaaDoor
set_option maxRecDepth 100000
open Go.RowKit
theorem Made.un {a b : PH} {la lb : List PH} (ma : Made a la) (mb : Made b lb) (hd : PDj a b) : Made (PUn a b) (la ++ lb) := by
  refine ⟨sepL_append.2 ⟨ma.sep, mb.sep, fun x hx y hy => (((hd.mono (ma.le x hx)).symm).mono (mb.le y hy)).symm⟩, fun x hx => ?_, fun k o e => ?_⟩
  · rcases List.mem_append.1 hx with hx | hx
    · exact (ma.le x hx).trans (PLe.un_l _ _)
    · exact (mb.le x hx).trans (PLe.un_r hd)
  · unfold PUn at e
    split at e
    · rename_i y hy
      cases e
      obtain ⟨x, hx, hxe⟩ := ma.dom k _ hy; exact ⟨x, by simp [hx], hxe⟩
    · obtain ⟨x, hx, hxe⟩ := mb.dom k _ e; exact ⟨x, by simp [hx], hxe⟩
/-- Slices that own their cells, all in one part. -/
def OwnH (xss : List (List Int)) (vs : List Value) (h : PH) : Prop := ∃ l, OwnL xss vs l ∧ Made h l
theorem OwnH.nil : OwnH [] [] emp := ⟨[], OwnL.nil, ⟨trivial, fun x hx => by simp at hx, fun k o e => by cases e⟩⟩
end Go.Proofs.YtiefkcaplhnnmaaDoor
namespace Go.Proofs.YtiefkcaplhnnmaaDoor
set_option maxRecDepth 100000
open Go.RowKit
theorem TriO.none : TriO ⟨[], [], []⟩ (.slice none 0 0) (.slice none 0 0) (.slice none 0 0) emp :=
  ⟨emp, emp, emp, IntsO.nil, IntsO.nil, IntsO.nil, ⟨by simp [sepL, PDj.emp], fun x hx => by simp at hx; subst hx; exact PLe.emp _, fun k o e => by cases e⟩⟩
def fitP (k p n : Int) (t u : Ten) : Prop := tensorL k p n t.l t.d t.x ∧ tensorL k p n u.l u.d u.x ∧ setL t.l u.l ∧ permD u t.l = t.d
def FitR (k p n : Int) (t u : Ten) (x : Value) (h : PH) : Prop := ∃ T a b c bb, x = .tuple [tenV a b c, .bool bb].toArray ∧ TriO T a b c h ∧ (bb = true ↔ fitP k p n t u) ∧ (bb = true → T = permT k n u t.l)
theorem FitR.no {k p n : Int} {t u : Ten} (h : ¬ fitP k p n t u) : FitR k p n t u (.tuple [tenV (.slice none 0 0) (.slice none 0 0) (.slice none 0 0), .bool false].toArray) emp :=
  ⟨⟨[], [], []⟩, _, _, _, false, rfl, TriO.none, ⟨fun e => (by cases e), fun e => absurd e h⟩, fun e => (by cases e)⟩
end Go.Proofs.YtiefkcaplhnnmaaDoor
namespace Go.Proofs.YtiefkcaplhnnmaaDoor
set_option maxRecDepth 100000
open Go.RowKit
theorem pigeon : ∀ {l m : List Int}, l.Nodup → (∀ x ∈ l, x ∈ m) → l.length ≤ m.length
  | [], _, _, _ => by simp
  | a :: r, m, hn, hs => by
    have ha := hs a (by simp); have hn' := List.nodup_cons.1 hn; have ih := pigeon (l := r) (m := m.erase a) hn'.2 (fun x hx => (List.mem_erase_of_ne (fun e => hn'.1 (by rw [← e]; exact hx))).2 (hs x (by simp [hx]))); rw [List.length_erase_of_mem ha] at ih; have : 0 < m.length := List.length_pos_of_mem ha; simp only [List.length_cons]
    omega
theorem joinI_nodup {a b : List Int} (ha : a.Nodup) (hb : b.Nodup) : (joinI a b).Nodup := by
  refine List.nodup_append.2 ⟨ha, List.Pairwise.filter _ hb, fun x hx y hy e => ?_⟩; subst e; have := (List.mem_filter.1 hy).2
  simp [hx] at this
theorem mem_joinI {a b : List Int} {x : Int} : x ∈ joinI a b ↔ x ∈ a ∨ x ∈ b := by
  simp only [joinI, List.mem_append, List.mem_filter, decide_eq_true_eq]
  constructor
  · rintro (h | h)
    · exact .inl h
    · exact .inr h.1
  · rintro (h | h)
    · exact .inl h
    · by_cases hx : x ∈ a
      · exact .inl hx
      · exact .inr ⟨h, hx⟩
/-- Each row of labels is without repetition and of labels of the network. -/
def Sh.fine (s : Sh) : Prop := s.ok ∧ ∀ i, (s.lab i).Nodup ∧ ∀ x ∈ s.lab i, 0 ≤ x ∧ x ≤ 99
theorem few_labels {l : List Int} (h : l.Nodup) (h1 : ∀ x ∈ l, 0 ≤ x ∧ x ≤ 99) : l.length ≤ 100 := by
  have := pigeon (m := (List.range 100).map Int.ofNat) h (fun x hx => by
    have := h1 x hx; simp only [List.mem_map, List.mem_range]; exact ⟨x.toNat, by omega, show ((x.toNat : Nat) : Int) = x by omega⟩)
  simpa using this
theorem Sh.fine.few {s : Sh} (h : s.fine) (i : Nat) : (s.lab i).length ≤ 100 := few_labels (h.2 i).1 (h.2 i).2
theorem res_mem {op : List Int} {s : Sh} {a b : Nat} {x : Int} (h : x ∈ s.res op a b) : x ∈ s.lab a ∨ x ∈ s.lab b := mem_joinI.1 (List.mem_filter.1 h).1
theorem Sh.fine.step {s : Sh} (h : s.fine) (op : List Int) (a b : Nat) : (s.step op a b).fine := by
  refine ⟨Sh.step_ok h.1 a b, fun i => ?_⟩
  rcases Nat.lt_trichotomy i s.all.length with hi | hi | hi
  · rw [step_lab hi]; exact h.2 i
  · subst hi; rw [step_lab_new]; refine ⟨List.Pairwise.filter _ (joinI_nodup (h.2 a).1 (h.2 b).1), fun x hx => ?_⟩
    rcases res_mem hx with hx | hx
    · exact (h.2 a).2 x hx
    · exact (h.2 b).2 x hx
  · have : (s.step op a b).lab i = [] := by simp only [Sh.lab, Sh.step, List.getD]; rw [List.getElem?_eq_none (by simp; omega)]; rfl
    rw [this]; exact ⟨List.nodup_nil, fun x hx => by simp at hx⟩
theorem sh0_fine {ts : List Ten} (h : ∀ t ∈ ts, axesL t.l t.d) : (sh0 ts).fine := by
  refine ⟨sh0_ok ts, fun i => ?_⟩
  by_cases hi : i < ts.length
  · have : (sh0 ts).lab i = ts[i].l := by simp [Sh.lab, sh0, List.getD, hi]
    rw [this]; have hax := h ts[i] (List.getElem_mem hi); exact ⟨axes_nodup hax, fun x hx => by obtain ⟨j, hj, e⟩ := getD_of_mem hx; have := (hax.2.2 j hj).1; rw [e] at this; exact this⟩
  · have : (sh0 ts).lab i = [] := by simp [Sh.lab, sh0, List.getD, Nat.le_of_not_lt hi]
    rw [this]; exact ⟨List.nodup_nil, fun x hx => by simp at hx⟩
/-- The state behind some steps. -/
noncomputable def shTo (op : List Int) (s : Sh) (ss : List Stp) : Sh := ss.foldl (fun s x => s.step op x.a.toNat x.b.toNat) s
theorem shTo_step {op : List Int} {s : Sh} {ss : List Stp} {i : Nat} {x : Stp} (h : ss[i]? = some x) : shTo op s (ss.take (i + 1)) = (shTo op s (ss.take i)).step op x.a.toNat x.b.toNat := by
  obtain ⟨hi, e⟩ := List.getElem?_eq_some_iff.1 h; rw [List.take_succ_eq_append_getElem hi, e, shTo, List.foldl_append]; rfl
theorem shTo_fine {op : List Int} {s : Sh} (h : s.fine) : ∀ ss, (shTo op s ss).fine
  | [] => h
  | x :: r => shTo_fine (h.step op x.a.toNat x.b.toNat) r
theorem shTo_all {op : List Int} : ∀ {s : Sh} {ss : List Stp}, (shTo op s ss).all.length = s.all.length + ss.length
  | s, [] => by simp [shTo]
  | s, x :: r => by
    have := shTo_all (op := op) (s := s.step op x.a.toNat x.b.toNat) (ss := r)
    show (shTo op (s.step op x.a.toNat x.b.toNat) r).all.length = _
    rw [this]
    simp [Sh.step]; omega
def stepOk (s : Sh) (x : Stp) : Prop := s.live x.a ∧ s.live x.b ∧ x.a < x.b
def okSteps (op : List Int) (s : Sh) (ss : List Stp) : Prop := ∀ i, i < ss.length → ∀ x, ss[i]? = some x → stepOk (shTo op s (ss.take i)) x
def orderL (k p n : Int) (ts : List Ten) (op : List Int) (ss : List Stp) : Prop := netL k p n ts op ∧ ss.length = ts.length - 1 ∧ okSteps op (sh0 ts) ss
end Go.Proofs.YtiefkcaplhnnmaaDoor
namespace Go.Proofs.YtiefkcaplhnnmaaDoor
set_option maxRecDepth 100000
open Go.RowKit
/-- Of the numbers ds those whose label fits p. -/
def selP (p : Int → Bool) : List Int → List Int → List Int
  | l :: ls, d :: ds => if p l then d :: selP p ls ds else selP p ls ds
  | _, _ => []
theorem selP_map (p : Int → Bool) (f : Int → Int) : ∀ ls : List Int, selP p ls (ls.map f) = (ls.filter p).map f
  | [] => rfl
  | l :: ls => by
    have ih := selP_map p f ls; simp only [List.map_cons, selP, List.filter_cons, ih]
    split <;> simp
def joinD (a b : Ten) : List Int := a.d ++ selP (fun x => decide (x ∉ a.l)) b.l b.d
/-- A label of both has two dimensions. -/
def mism (a b : Ten) : Prop := ∃ i, i < b.l.length ∧ b.l.getD i 0 ∈ a.l ∧ a.d.getD (findI a.l (b.l.getD i 0)).toNat 0 ≠ b.d.getD i 0
theorem nodup_not_take {xs : List Int} (h : xs.Nodup) {i : Nat} (hi : i < xs.length) : xs.getD i 0 ∉ xs.take i := by
  intro hm; obtain ⟨j, hj, e⟩ := getD_of_mem hm; simp only [List.length_take] at hj; have e2 : (xs.take i).getD j 0 = xs.getD j 0 := by simp only [List.getD, List.getElem?_take]; rw [if_pos (by omega)]
  rw [e2] at e; have h1 : j < xs.length := by omega
  simp only [List.getD, List.getElem?_eq_getElem h1, List.getElem?_eq_getElem hi, Option.getD_some] at e; have := (List.getElem_inj h).1 e
  omega
theorem joinD_map {t u : Ten} {f : Int → Int} (ht : t.d = t.l.map f) (hu : u.d = u.l.map f) : joinD t u = (joinI t.l u.l).map f := by
  rw [joinD, ht, hu, selP_map, joinI, List.map_append]
end Go.Proofs.YtiefkcaplhnnmaaDoor
namespace Go.Proofs.YtiefkcaplhnnmaaDoor
set_option maxRecDepth 100000
open Go.RowKit
def dimJ (t u : Ten) (x : Int) : Int := if x ∈ t.l then t.d.getD (findI t.l x).toNat 0 else u.d.getD (findI u.l x).toNat 0
theorem map_find {ls ds : List Int} (hn : ls.Nodup) (hl : ls.length = ds.length) : ds = ls.map fun x => ds.getD (findI ls x).toNat 0 := by
  apply ext_getD
  · simp [hl]
  · intro j hj; rw [map_getD (by omega), find_at' hn (by omega)]
    simp
theorem dimJ_l {t u : Ten} (hn : t.l.Nodup) (hl : t.l.length = t.d.length) : t.d = t.l.map (dimJ t u) := by
  conv => lhs; rw [map_find hn hl]
  exact List.map_congr_left fun x hx => by simp [dimJ, hx]
theorem dimJ_r {t u : Ten} (hn : u.l.Nodup) (hl : u.l.length = u.d.length) (hm : ¬ mism t u) : u.d = u.l.map (dimJ t u) := by
  conv => lhs; rw [map_find hn hl]
  refine List.map_congr_left fun x hx => ?_
  by_cases h : x ∈ t.l
  · have hg := findI_get hx; have : ¬ (t.d.getD (findI t.l x).toNat 0 ≠ u.d.getD (findI u.l x).toNat 0) := fun hne => hm ⟨(findI u.l x).toNat, hg.1, by rw [hg.2]; exact ⟨h, hne⟩⟩; simp only [dimJ, h, if_true]
    omega
  · simp [dimJ, h]
/-- Two tensors that can be joined. -/
structure PairOK (k p n : Int) (t u : Ten) (f : Int → Int) : Prop where
  tt : tensorL k p n t.l t.d t.x
  uu : tensorL k p n u.l u.d u.x
  ht : t.d = t.l.map f
  hu : u.d = u.l.map f
  work : prodI ((joinI t.l u.l).map f) ≤ 65536
theorem ten_axes {k p n : Int} {ls ds xs : List Int} (h : tensorL k p n ls ds xs) : axesL ls ds := (sizeI_ge.1 h.2.1).1
theorem ten_prod {k p n : Int} {ls ds xs : List Int} (h : tensorL k p n ls ds xs) : prodI ds ≤ 4096 := (sizeI_ge.1 h.2.1).2
theorem PairOK.nd {k p n : Int} {t u : Ten} {f : Int → Int} (h : PairOK k p n t u f) : (joinI t.l u.l).Nodup := joinI_nodup (axes_nodup (ten_axes h.tt)) (axes_nodup (ten_axes h.uu))
theorem PairOK.dim {k p n : Int} {t u : Ten} {f : Int → Int} (h : PairOK k p n t u f) : ∀ x ∈ joinI t.l u.l, 1 ≤ f x ∧ f x ≤ 8 := fun x hx => by
  rcases mem_joinI.1 hx with hx | hx
  · exact dims_mem (axes_dims (ten_axes h.tt)) _ (by rw [h.ht]; exact List.mem_map_of_mem hx)
  · exact dims_mem (axes_dims (ten_axes h.uu)) _ (by rw [h.hu]; exact List.mem_map_of_mem hx)
theorem map_dim {f : Int → Int} {L ls : List Int} (hf : ∀ x ∈ L, 1 ≤ f x ∧ f x ≤ 8) (hs : ∀ l ∈ ls, l ∈ L) : ∀ d ∈ ls.map f, 1 ≤ d ∧ d ≤ 8 := fun d hd => by
  obtain ⟨x, hx, rfl⟩ := List.mem_map.1 hd; exact hf x (hs x hx)
def atI (f : Int → Int) (L ls : List Int) (m : Int) : Int := dotL (stepsL L ls (ls.map f)) (idxL (L.map f) m)
theorem at_in {f : Int → Int} {L ls : List Int} (hn : L.Nodup) (hl : ls.Nodup) (hs : ∀ l ∈ ls, l ∈ L) (hf : ∀ x ∈ L, 1 ≤ f x ∧ f x ≤ 8) (m : Int) : 0 ≤ atI f L ls m ∧ atI f L ls m < prodI (ls.map f) := by
  have hd : ∀ d ∈ L.map f, 1 ≤ d := fun d hd => (map_dim hf (fun _ h => h) d hd).1; have hd2 : ∀ d ∈ ls.map f, 1 ≤ d := fun d hd => (map_dim hf hs d hd).1; have hi := idxL_in hd m; have ho := offL_in (ds := ls.map f) (is := idxAt L (idxL (L.map f) m) ls) hd2 ⟨by simp [idxAt], fun j hj => by
    have hj' : j < ls.length := by simpa using hj
    have hm := hs _ (mem_getD hj'); have hg := findI_get hm; have := hi.2 (findI L (ls.getD j 0)).toNat (by simpa using hg.1); rw [map_getD hg.1, hg.2] at this; rw [idxAt, map_getD hj', map_getD hj']; exact this⟩
  have e : atI f L ls m = offL (ls.map f) (idxAt L (idxL (L.map f) m) ls) := by
    unfold atI dotL; rw [stepsL_len]; exact dot_off hn (by simp) hl hs
  omega
def AllR (k p n P : Int) (xs : List Int) : Prop := (xs.length : Int) = P * widthI k n ∧ ∀ a ∈ xs, 0 ≤ a ∧ a ≤ topI k p n
theorem mul_room {P w i : Int} (hw : 0 ≤ w) (h0 : 0 ≤ i) (h1 : i < P) : 0 ≤ i * w ∧ i * w + w ≤ P * w := by
  have h2 := Int.mul_le_mul_of_nonneg_right (show i + 1 ≤ P by omega) hw; rw [Int.add_mul, Int.one_mul] at h2; exact ⟨Int.mul_nonneg h0 hw, h2⟩
theorem AllR.el {k p n P : Int} {xs : List Int} (h : AllR k p n P xs) (hr : ringL k p n) {i : Int} (h0 : 0 ≤ i) (h1 : i < P) : InR k p n (elt xs (widthI k n) i) := by
  have hw := width_range hr; have hm := mul_room (show 0 ≤ widthI k n by omega) h0 h1; have hl := h.1; refine ⟨?_, fun a ha => h.2 a (elt_mem ha)⟩; simp only [elt, List.length_take, List.length_drop]
  omega
theorem AllR.put {k p n P : Int} {xs ys : List Int} (h : AllR k p n P xs) (hr : ringL k p n) {i : Int} (h0 : 0 ≤ i) (h1 : i < P) (hy : InR k p n ys) : AllR k p n P (putL xs (i * widthI k n).toNat ys) := by
  have hw := width_range hr; have hm := mul_room (show 0 ≤ widthI k n by omega) h0 h1; have hl := h.1; have hyl := hy.1; refine ⟨by rw [putL_len (by omega)]; exact hl, fun a ha => ?_⟩; simp only [putL, List.mem_append] at ha
  rcases ha with (ha | ha) | ha
  · exact h.2 a (List.mem_of_mem_take ha)
  · exact hy.2 a ha
  · exact h.2 a (List.mem_of_mem_drop ha)
theorem flat_rep_len (z : List Int) : ∀ m : Nat, ((List.replicate m z).flatten).length = m * z.length
  | 0 => by simp
  | m + 1 => by rw [List.replicate_succ, List.flatten_cons, List.length_append, flat_rep_len z m, Nat.add_mul, Nat.one_mul]; omega
theorem zeroL_in {k p n : Int} (h : ringL k p n) : InR k p n (zeroL k p n) := by
  have ht := top_range h; refine ⟨zeroL_len k p n, fun a ha => ?_⟩
  unfold zeroL at ha
  split at ha
  · rename_i h4
    have := top_cap h (.inr (.inl h4))
    simp at ha; omega
  · have := List.eq_of_mem_replicate ha; omega
theorem AllR.zero {k p n P : Int} (hr : ringL k p n) (hP : 0 ≤ P) : AllR k p n P (List.replicate P.toNat (zeroL k p n)).flatten := by
  have hw := width_range hr; have hz := zeroL_in hr; refine ⟨?_, fun a ha => ?_⟩
  · rw [flat_rep_len, hz.1, Int.natCast_mul]; rw [show ((P.toNat : Nat) : Int) = P by omega, show (((widthI k n).toNat : Nat) : Int) = widthI k n by omega]
  · obtain ⟨l, hl, ha⟩ := List.mem_flatten.1 ha; rw [List.eq_of_mem_replicate hl] at ha; exact hz.2 a ha
noncomputable def pairX (k p n : Int) (f : Int → Int) (t u : Ten) (K : List Int) : Nat → List Int
  | 0 => (List.replicate (prodI (K.map f)).toNat (zeroL k p n)).flatten
  | m + 1 => putL (pairX k p n f t u K m) (atI f (joinI t.l u.l) K m * widthI k n).toNat
      (addL k p (elt (pairX k p n f t u K m) (widthI k n) (atI f (joinI t.l u.l) K m))
        (mulL k p n (elt t.x (widthI k n) (atI f (joinI t.l u.l) t.l m)) (elt u.x (widthI k n) (atI f (joinI t.l u.l) u.l m))))
noncomputable def pairT (k p n : Int) (f : Int → Int) (t u : Ten) (K : List Int) : Ten := ⟨K, K.map f, pairX k p n f t u K (prodI ((joinI t.l u.l).map f)).toNat⟩
structure KeepOK (t u : Ten) (f : Int → Int) (K : List Int) : Prop where
  sub : ∀ l ∈ K, l ∈ joinI t.l u.l
  nd : K.Nodup
  small : prodI (K.map f) ≤ 4096
section
variable {k p n : Int} {t u : Ten} {f : Int → Int} {K : List Int} (h : PairOK k p n t u f) (hk : KeepOK t u f K)
include h hk
theorem PairOK.at_k (m : Int) : 0 ≤ atI f (joinI t.l u.l) K m ∧ atI f (joinI t.l u.l) K m < prodI (K.map f) := at_in h.nd hk.nd hk.sub h.dim m
theorem PairOK.pos_k : 1 ≤ prodI (K.map f) := prodI_one fun d hd => (map_dim h.dim hk.sub d hd).1
omit hk in
theorem PairOK.at_t (m : Int) : 0 ≤ atI f (joinI t.l u.l) t.l m ∧ atI f (joinI t.l u.l) t.l m < prodI t.d := by
  have := at_in h.nd (axes_nodup (ten_axes h.tt)) (fun l hl => mem_joinI.2 (.inl hl)) h.dim m
  rwa [← h.ht] at this
omit hk in
theorem PairOK.at_u (m : Int) : 0 ≤ atI f (joinI t.l u.l) u.l m ∧ atI f (joinI t.l u.l) u.l m < prodI u.d := by
  have := at_in h.nd (axes_nodup (ten_axes h.uu)) (fun l hl => mem_joinI.2 (.inr hl)) h.dim m
  rwa [← h.hu] at this
omit hk in
theorem PairOK.el_t (m : Int) : InR k p n (elt t.x (widthI k n) (atI f (joinI t.l u.l) t.l m)) := elt_inR h.tt (h.at_t m).1 (h.at_t m).2
omit hk in
theorem PairOK.el_u (m : Int) : InR k p n (elt u.x (widthI k n) (atI f (joinI t.l u.l) u.l m)) := elt_inR h.uu (h.at_u m).1 (h.at_u m).2
theorem PairOK.all : ∀ m : Nat, AllR k p n (prodI (K.map f)) (pairX k p n f t u K m)
  | 0 => AllR.zero h.tt.1 (by have := h.pos_k hk; omega)
  | m + 1 => (PairOK.all m).put h.tt.1 (h.at_k hk m).1 (h.at_k hk m).2 (addL_in h.tt.1 ((PairOK.all m).el h.tt.1 (h.at_k hk m).1 (h.at_k hk m).2) (mulL_in h.tt.1 (h.el_t m) (h.el_u m)))
theorem PairOK.small (m : Nat) : (pairX k p n f t u K m).length ≤ 24576 := by
  have hw := width_range h.tt.1; have := (h.all hk m).1; have h3 : prodI (K.map f) * widthI k n ≤ 4096 * 6 := Int.mul_le_mul hk.small hw.2 (by omega) (by omega)
  omega
theorem PairOK.fits (m : Nat) : atI f (joinI t.l u.l) K m * widthI k n + widthI k n ≤ (pairX k p n f t u K m).length := by
  have hw := width_range h.tt.1; have := (h.all hk m).1; have := (mul_room (show 0 ≤ widthI k n by omega) (h.at_k hk m).1 (h.at_k hk m).2).2
  omega
end
end Go.Proofs.YtiefkcaplhnnmaaDoor
namespace Go.Proofs.YtiefkcaplhnnmaaDoor
set_option maxRecDepth 100000
open Go.RowKit
def keepL (t u : Ten) (ks : List Int) : List Int := (joinI t.l u.l).filter fun x => decide (x ∈ ks)
def pairP (k p n : Int) (t u : Ten) (ks : List Int) : Prop := tensorL k p n t.l t.d t.x ∧ tensorL k p n u.l u.d u.x ∧ ¬ mism t u ∧ prodI (joinD t u) ≤ 65536 ∧ 0 ≤ sizeI (keepL t u ks) ((keepL t u ks).map (dimJ t u))
open Classical in
noncomputable def pairR (k p n : Int) (t u : Ten) (ks : List Int) : Ten := if pairP k p n t u ks then pairT k p n (dimJ t u) t u (keepL t u ks) else ⟨[], [], []⟩
theorem pairP.dims {k p n : Int} {t u : Ten} (h1 : tensorL k p n t.l t.d t.x) (h2 : tensorL k p n u.l u.d u.x) (h3 : ¬ mism t u) : t.d = t.l.map (dimJ t u) ∧ u.d = u.l.map (dimJ t u) ∧ joinD t u = (joinI t.l u.l).map (dimJ t u) := by
  have e1 := dimJ_l (u := u) (axes_nodup (ten_axes h1)) (ten_axes h1).2.1; have e2 := dimJ_r (axes_nodup (ten_axes h2)) (ten_axes h2).2.1 h3; exact ⟨e1, e2, joinD_map e1 e2⟩
theorem pair_ok {k p n : Int} {t u : Ten} (h1 : tensorL k p n t.l t.d t.x) (h2 : tensorL k p n u.l u.d u.x) (h3 : ¬ mism t u) (h4 : prodI (joinD t u) ≤ 65536) : PairOK k p n t u (dimJ t u) := by
  have e := pairP.dims h1 h2 h3; exact ⟨h1, h2, e.1, e.2.1, by rw [← e.2.2]; exact h4⟩
theorem keep_ok {k p n : Int} {t u : Ten} {ks : List Int} (ok : PairOK k p n t u (dimJ t u)) (h : 0 ≤ sizeI (keepL t u ks) ((keepL t u ks).map (dimJ t u))) : KeepOK t u (dimJ t u) (keepL t u ks) :=
  ⟨fun _ hl => (List.mem_filter.1 hl).1, List.Pairwise.filter _ ok.nd, (sizeI_ge.1 h).2⟩
theorem selP_prod (p : Int → Bool) : ∀ ls ds : List Int, (∀ d ∈ ds, 1 ≤ d) → 1 ≤ prodI (selP p ls ds) ∧ prodI (selP p ls ds) ≤ prodI ds
  | [], ds, h => by
    have := prodI_one h
    cases ds <;> simp [selP, prodI] at * <;> omega
  | l :: ls, [], _ => by simp [selP, prodI]
  | l :: ls, d :: ds, h => by
    have ih := selP_prod p ls ds (fun x hx => h x (by simp [hx])); have hd := h d (by simp); simp only [selP]; have h1 : 1 * prodI ds ≤ d * prodI ds := Int.mul_le_mul_of_nonneg_right hd (by omega)
    split
    · rw [prodI_cons, prodI_cons]; have h2 : d * prodI (selP p ls ds) ≤ d * prodI ds := Int.mul_le_mul_of_nonneg_left ih.2 (by omega); have h3 : 1 * 1 ≤ d * prodI (selP p ls ds) := Int.mul_le_mul hd ih.1 (by omega) (by omega)
      omega
    · rw [prodI_cons]; omega
end Go.Proofs.YtiefkcaplhnnmaaDoor
namespace Go.Proofs.YtiefkcaplhnnmaaDoor
set_option maxRecDepth 100000
open Go.RowKit
def oneT (k p n : Int) : Ten := ⟨[], [], oneL k p n⟩
theorem one_ten {k p n : Int} (h : ringL k p n) : tensorL k p n (oneT k p n).l (oneT k p n).d (oneT k p n).x := by
  have hs : sizeI [] [] = 1 := by
    have : axesL [] [] := ⟨by decide, rfl, fun j hj => by simp at hj⟩
    rw [sizeI_yes this (by decide)]; rfl
  have ho := oneL_in h; have hw := width_range h; refine ⟨h, by simp only [oneT]; omega, ?_, ho.2⟩; have := ho.1; simp only [oneT]; rw [hs]
  omega
theorem one_mism (k p n : Int) (t : Ten) : ¬ mism t (oneT k p n) := by
  rintro ⟨i, hi, _⟩
  simp [oneT] at hi
theorem one_joinD (k p n : Int) (t : Ten) : joinD t (oneT k p n) = t.d := by simp [joinD, oneT, selP]
theorem keep_axes {k p n : Int} {t u : Ten} {f : Int → Int} {K : List Int} (ok : PairOK k p n t u f) (hs : ∀ l ∈ K, l ∈ joinI t.l u.l) (hn : K.Nodup) (h12 : K.length ≤ 12) : axesL K (K.map f) := by
  refine ⟨h12, by simp, fun j hj => ⟨?_, ?_, nodup_not_take hn hj⟩⟩
  · rcases mem_joinI.1 (hs _ (mem_getD hj)) with h | h
    · obtain ⟨i, hi, e⟩ := getD_of_mem h; rw [← e]; exact ((ten_axes ok.tt).2.2 i hi).1
    · obtain ⟨i, hi, e⟩ := getD_of_mem h; rw [← e]; exact ((ten_axes ok.uu).2.2 i hi).1
  · rw [map_getD hj]; exact ok.dim _ (hs _ (mem_getD hj))
theorem sum_pair {k p n : Int} {t : Ten} (h : tensorL k p n t.l t.d t.x) (ks : List Int) : pairP k p n t (oneT k p n) ks := by
  have h1 := one_ten h.1; have hm := one_mism k p n t; have hp := ten_prod h; have ok := pair_ok h h1 hm (by rw [one_joinD]; omega); have hd := pairP.dims h h1 hm; have ej := hd.2.2; refine ⟨h, h1, hm, by rw [one_joinD]; omega, sizeI_ge.2 ⟨keep_axes ok (fun l hl => (List.mem_filter.1 hl).1) (List.Pairwise.filter _ ok.nd) ?_, ?_⟩⟩
  · have h1 := List.length_filter_le (fun x => decide (x ∈ ks)) (joinI t.l (oneT k p n).l); have h2 := joinI_len t.l (oneT k p n).l; have h3 := (ten_axes h).1; have h4 : (oneT k p n).l.length = 0 := rfl
    unfold keepL
    omega
  · have hs := selP_prod (fun x => decide (x ∈ ks)) (joinI t.l (oneT k p n).l) (joinD t (oneT k p n)) (by rw [one_joinD]; exact fun d hd => (dims_mem (axes_dims (ten_axes h)) d hd).1); rw [ej, selP_map, ← ej, one_joinD] at hs; exact Int.le_trans hs.2 hp
open Classical in
noncomputable def sumR (k p n : Int) (t : Ten) (ks : List Int) : Ten := if tensorL k p n t.l t.d t.x then pairT k p n (dimJ t (oneT k p n)) t (oneT k p n) (keepL t (oneT k p n) ks) else ⟨[], [], []⟩
theorem sumR_pair {k p n : Int} {t : Ten} {ks : List Int} (h : tensorL k p n t.l t.d t.x) : pairR k p n t (oneT k p n) ks = sumR k p n t ks := by
  rw [sumR, if_pos h, pairR, if_pos (sum_pair h ks)]
end Go.Proofs.YtiefkcaplhnnmaaDoor
namespace Go.Proofs.YtiefkcaplhnnmaaDoor
set_option maxRecDepth 100000
open Go.RowKit
def TensL (ts : List Ten) (cs : List Value) (h : PH) : Prop := cs.length = ts.length * 3 ∧ ∀ (i : Nat) (t : Ten), ts[i]? = some t → TenR t ((cs.drop (i * 3)).take 3) h
theorem TensL.nil (h : PH) : TensL [] [] h := ⟨rfl, fun i x e => by simp at e⟩
theorem TensL.mono {ts : List Ten} {cs : List Value} {h h' : PH} (r : TensL ts cs h) (l : PLe h h') : TensL ts cs h' := ⟨r.1, fun i x e => (r.2 i x e).mono l⟩
theorem TensL.tens {ts : List Ten} {cs : List Value} {v : Value} {h : PH} (r : TensL ts cs h) (rr : RowR cs ts.length 3 v h) : TensR ts v h := ⟨cs, rr, r.2⟩
theorem PDj.rest {w : World} {h hs : PH} (l : PLe hs h) : PDj hs (restP w h) := fun k => by
  cases e : hs k with
  | none => exact .inl rfl
  | some o => right; simp [restP, l k o e]
theorem Sat.join {w0 w : World} {HS : List PH} {a b : PH} (s : Sat w0 (a :: b :: HS) w) : Sat w0 (PUn a b :: HS) w := s.merge
end Go.Proofs.YtiefkcaplhnnmaaDoor
namespace Go.Proofs.YtiefkcaplhnnmaaDoor
set_option maxRecDepth 100000
open Go.RowKit
/-- The world's heap once more. -/
theorem Sat.whole {w0 w : World} {HS : List PH} {q : PH} (lq : PLe q (hp w0)) (s : Sat w0 (q :: restP w0 q :: HS) w) : Sat w0 (HS ++ [hp w0]) w := by
  have l : PLe (hp w0) (PUn q (restP w0 q)) := fun k o e => by
    unfold PUn restP
    cases hq : q k with
    | none => simp [e]
    | some o' => have := lq k o' hq; rw [e] at this; simp [this]
  have s1 := Sat.less (i := 0) s.merge rfl l; exact Sat.comm (A := [hp w0]) (B := HS) s1
theorem net_dmap {k p n : Int} {ts : List Ten} {op : List Int} (h : netL k p n ts op) : ∀ t ∈ ts, t.d = t.l.map (dimOf ts) := fun t ht => by
  have hax := net_axes h t ht; refine ext_getD (by rw [List.length_map, hax.2.1]) fun j hj => ?_; have hj' : j < t.l.length := by rw [hax.2.1]; exact hj
  rw [map_getD hj', net_dim h ht (mem_getD hj'), find_at hax hj', Int.toNat_natCast]
end Go.Proofs.YtiefkcaplhnnmaaDoor
namespace Go.Proofs.YtiefkcaplhnnmaaDoor
set_option maxRecDepth 100000
open Go.RowKit
theorem stepOk_at {op : List Int} {s : Sh} {ss : List Stp} (h : okSteps op s ss) {i : Nat} {x : Stp} (hx : ss[i]? = some x) : stepOk (shTo op s (ss.take i)) x := h i (List.getElem?_eq_some_iff.1 hx).1 x hx
theorem stepCells_take : ∀ (ss : List Stp) (n : Nat), stepCells (ss.take n) = (stepCells ss).take (n * 2)
  | [], n => by simp [stepCells]
  | s :: r, 0 => by simp [stepCells]
  | s :: r, n + 1 => by
    have := stepCells_take r n; rw [List.take_succ_cons, show (n + 1) * 2 = n * 2 + 1 + 1 by omega]
    show [num s.a, num s.b] ++ stepCells (r.take n) = ([num s.a, num s.b] ++ stepCells r).take (n * 2 + 1 + 1)
    rw [this]; rfl
theorem StepsR.subH {ss : List Stp} {v : Value} {h : PH} (r : StepsR ss v h) {hi : Nat} (h2 : hi ≤ ss.length) : StepsR (ss.take hi) (subV v 0 hi 2) h := by
  have := RowR.sub r (Nat.zero_le hi) h2
  unfold StepsR
  rw [stepCells_take, List.length_take, Nat.min_eq_left h2]
  simpa using this
end Go.Proofs.YtiefkcaplhnnmaaDoor
namespace Go.Proofs.YtiefkcaplhnnmaaDoor
set_option maxRecDepth 100000
open Go.RowKit
theorem two_off : ∀ {l : List Nat} (_ : l.Nodup) {a b : Nat}, a ∈ l → b ∈ l → a ≠ b → (l.filter fun i => decide (i ≠ a ∧ i ≠ b)).length + 2 = l.length := by
  intro l hn a b ha hb hab; have hp := List.perm_cons_erase ha; have hb' : b ∈ l.erase a := (List.mem_erase_of_ne (Ne.symm hab)).2 hb; have hp2 := List.perm_cons_erase hb'; have hn2 : (l.erase a).Nodup := hn.erase a; have e : l.filter (fun i => decide (i ≠ a ∧ i ≠ b)) = (l.erase a).erase b := by
    rw [List.Nodup.erase_eq_filter hn a, List.Nodup.erase_eq_filter (List.Pairwise.filter _ hn) b, List.filter_filter]
    apply List.filter_congr
    intro i _; rw [Bool.eq_iff_iff]
    simp [and_comm]
  have h1 := hp.length_eq; have h2 := hp2.length_eq; simp only [List.length_cons] at h1 h2; rw [e]
  omega
theorem step_count {op : List Int} {s : Sh} (h : s.ok) {a b : Nat} (ha : a ∈ s.ixs) (hb : b ∈ s.ixs) (hab : a ≠ b) : (s.step op a b).ixs.length + 1 = s.ixs.length := by
  have := two_off (ixs_nodup s) ha hb hab; rw [step_ixs h, List.length_append, List.length_singleton]
  omega
theorem steps_count {op : List Int} {s : Sh} (h : s.fine) {ss : List Stp} (hok : okSteps op s ss) : ∀ i, i ≤ ss.length → (shTo op s (ss.take i)).ixs.length + i = s.ixs.length
  | 0, _ => by simp [shTo]
  | i + 1, hi => by
    have ih := steps_count h hok i (by omega); have hx : ss[i]? = some ss[i] := List.getElem?_eq_getElem (by omega); have hst := stepOk_at hok hx; have h1 := live_ixs.1 hst.1; have h2 := live_ixs.1 hst.2.1; rw [shTo_step hx]; have := step_count (op := op) (shTo_fine h (ss.take i)).1 h1.2 h2.2 (by have := hst.2.2; omega)
    omega
end Go.Proofs.YtiefkcaplhnnmaaDoor
namespace Go.Proofs.YtiefkcaplhnnmaaDoor
set_option maxRecDepth 100000
open Go.RowKit
abbrev noTen : Ten := ⟨[], [], []⟩
theorem dimJ_f {t u : Ten} {f : Int → Int} (ht : t.d = t.l.map f) (hu : u.d = u.l.map f) {x : Int} (hx : x ∈ joinI t.l u.l) : dimJ t u x = f x := by
  unfold dimJ
  by_cases h : x ∈ t.l
  · rw [if_pos h, ht, map_getD (findI_get h).1, (findI_get h).2]
  · have h2 := (mem_joinI.1 hx).resolve_left h; rw [if_neg h, hu, map_getD (findI_get h2).1, (findI_get h2).2]
theorem keep_map {t u : Ten} {f : Int → Int} (ht : t.d = t.l.map f) (hu : u.d = u.l.map f) (ks : List Int) : (keepL t u ks).map (dimJ t u) = (keepL t u ks).map f :=
  List.map_congr_left fun _ hx => dimJ_f ht hu (List.mem_filter.1 hx).1
theorem pair_ten {k p n : Int} {t u : Ten} {ks : List Int} (h : pairP k p n t u ks) : tensorL k p n (pairR k p n t u ks).l (pairR k p n t u ks).d (pairR k p n t u ks).x ∧ (pairR k p n t u ks).l = keepL t u ks ∧ (pairR k p n t u ks).d = (keepL t u ks).map (dimJ t u) := by
  have ok := pair_ok h.1 h.2.1 h.2.2.1 h.2.2.2.1; have hk := keep_ok ok h.2.2.2.2; have ha := ok.all hk (prodI ((joinI t.l u.l).map (dimJ t u))).toNat; have hs := sizeI_ge.1 h.2.2.2.2; rw [pairR, if_pos h]; refine ⟨⟨h.1.1, h.2.2.2.2, ?_, ha.2⟩, rfl, rfl⟩
  show ((pairX k p n (dimJ t u) t u (keepL t u ks) _).length : Int) = sizeI (keepL t u ks) ((keepL t u ks).map (dimJ t u)) * widthI k n
  rw [sizeI_yes hs.1 hs.2]; exact ha.1
theorem keepL_self {t u : Ten} {q : Int → Bool} : keepL t u ((joinI t.l u.l).filter q) = (joinI t.l u.l).filter q := by
  unfold keepL
  refine List.filter_congr fun x hx => ?_; rw [Bool.eq_iff_iff, decide_eq_true_eq, List.mem_filter]; exact ⟨fun h => h.2, fun h => ⟨hx, h⟩⟩
def stpAt (ss : List Stp) (i : Nat) : Stp := ss.getD i ⟨0, 0⟩
theorem stpAt_of {ss : List Stp} {i : Nat} {x : Stp} (h : ss[i]? = some x) : stpAt ss i = x := by simp [stpAt, List.getD, h]
noncomputable def runS (ts : List Ten) (op : List Int) (ss : List Stp) (i : Nat) : Sh := shTo op (sh0 ts) (ss.take i)
noncomputable def runK (ts : List Ten) (op : List Int) (ss : List Stp) (i : Nat) : List Int := (runS ts op ss i).res op (stpAt ss i).a.toNat (stpAt ss i).b.toNat
noncomputable def runTo (k p n : Int) (ts : List Ten) (op : List Int) (ss : List Stp) : Nat → List Ten
  | 0 => ts
  | i + 1 => runTo k p n ts op ss i ++ [pairR k p n ((runTo k p n ts op ss i).getD (stpAt ss i).a.toNat noTen) ((runTo k p n ts op ss i).getD (stpAt ss i).b.toNat noTen) (runK ts op ss i)]
noncomputable def runA (k p n : Int) (ts : List Ten) (op : List Int) (ss : List Stp) (i : Nat) : Ten := (runTo k p n ts op ss i).getD (stpAt ss i).a.toNat noTen
noncomputable def runB (k p n : Int) (ts : List Ten) (op : List Int) (ss : List Stp) (i : Nat) : Ten := (runTo k p n ts op ss i).getD (stpAt ss i).b.toNat noTen
def runFit (k p n : Int) (ts : List Ten) (op : List Int) (ss : List Stp) (i : Nat) : Prop := pairP k p n (runA k p n ts op ss i) (runB k p n ts op ss i) (runK ts op ss i)
structure RunOK (k p n : Int) (ts : List Ten) (op : List Int) (ss : List Stp) (i : Nat) : Prop where
  len : (runTo k p n ts op ss i).length = ts.length + i
  ten : ∀ (j : Nat) (t : Ten), (runTo k p n ts op ss i)[j]? = some t → tensorL k p n t.l t.d t.x ∧ t.l = (runS ts op ss i).lab j ∧ t.d = t.l.map (dimOf ts)
section
variable {k p n : Int} {ts : List Ten} {op : List Int} {ss : List Stp}
theorem runTo_step (i : Nat) : runTo k p n ts op ss (i + 1) = runTo k p n ts op ss i ++ [pairR k p n (runA k p n ts op ss i) (runB k p n ts op ss i) (runK ts op ss i)] := rfl
theorem RunOK.get {i : Nat} (r : RunOK k p n ts op ss i) {j : Nat} (hj : j < ts.length + i) : tensorL k p n ((runTo k p n ts op ss i).getD j noTen).l ((runTo k p n ts op ss i).getD j noTen).d ((runTo k p n ts op ss i).getD j noTen).x ∧
    ((runTo k p n ts op ss i).getD j noTen).l = (runS ts op ss i).lab j ∧ ((runTo k p n ts op ss i).getD j noTen).d = ((runTo k p n ts op ss i).getD j noTen).l.map (dimOf ts) := by
  have hlt : j < (runTo k p n ts op ss i).length := by rw [r.len]; exact hj
  have h := r.ten j _ (List.getElem?_eq_getElem hlt); have e2 : (runTo k p n ts op ss i).getD j noTen = (runTo k p n ts op ss i)[j] := by simp [List.getD, List.getElem?_eq_getElem hlt]
  rw [e2]; exact h
theorem run_step (h : orderL k p n ts op ss) {i : Nat} (hi : i < ss.length) : stepOk (runS ts op ss i) (stpAt ss i) ∧ runS ts op ss (i + 1) = (runS ts op ss i).step op (stpAt ss i).a.toNat (stpAt ss i).b.toNat ∧ (runS ts op ss i).all.length = ts.length + i := by
  have hx : ss[i]? = some ss[i] := List.getElem?_eq_getElem hi; refine ⟨?_, ?_, ?_⟩
  · rw [stpAt_of hx]; exact h.2.2 i hi _ hx
  · rw [stpAt_of hx]; exact shTo_step hx
  · rw [runS, shTo_all, show (sh0 ts).all.length = ts.length by simp [sh0], List.length_take]; omega
theorem run_fine (h : netL k p n ts op) (i : Nat) : (runS ts op ss i).fine := shTo_fine (sh0_fine (net_axes h)) _
theorem RunOK.two {i : Nat} (r : RunOK k p n ts op ss i) (h : orderL k p n ts op ss) (hi : i < ss.length) :
    (tensorL k p n (runA k p n ts op ss i).l (runA k p n ts op ss i).d (runA k p n ts op ss i).x ∧ (runA k p n ts op ss i).l = (runS ts op ss i).lab (stpAt ss i).a.toNat ∧ (runA k p n ts op ss i).d = (runA k p n ts op ss i).l.map (dimOf ts)) ∧
    (tensorL k p n (runB k p n ts op ss i).l (runB k p n ts op ss i).d (runB k p n ts op ss i).x ∧ (runB k p n ts op ss i).l = (runS ts op ss i).lab (stpAt ss i).b.toNat ∧ (runB k p n ts op ss i).d = (runB k p n ts op ss i).l.map (dimOf ts)) := by
  obtain ⟨⟨⟨a0, a1, _⟩, ⟨b0, b1, _⟩, _⟩, _, hl⟩ := run_step h hi; exact ⟨r.get (by omega), r.get (by omega)⟩
theorem RunOK.kept {i : Nat} (r : RunOK k p n ts op ss i) (h : orderL k p n ts op ss) (hi : i < ss.length) : keepL (runA k p n ts op ss i) (runB k p n ts op ss i) (runK ts op ss i) = runK ts op ss i := by
  obtain ⟨⟨_, la, _⟩, ⟨_, lb, _⟩⟩ := r.two h hi; have e : runK ts op ss i = (joinI (runA k p n ts op ss i).l (runB k p n ts op ss i).l).filter fun x => @decide ((runS ts op ss i).kept op (stpAt ss i).a.toNat (stpAt ss i).b.toNat x) (Classical.propDecidable _) := by rw [la, lb]; rfl
  rw [e]; exact keepL_self
theorem RunOK.step {i : Nat} (r : RunOK k p n ts op ss i) (h : orderL k p n ts op ss) (hi : i < ss.length) (hf : runFit k p n ts op ss i) : RunOK k p n ts op ss (i + 1) := by
  obtain ⟨hst, hs1, hl⟩ := run_step h hi; obtain ⟨⟨ta, la, da⟩, ⟨tb, lb, db⟩⟩ := r.two h hi; have hk := r.kept h hi; obtain ⟨p1, p2, p3⟩ := pair_ten hf; rw [keep_map da db, hk] at p3; rw [hk] at p2; refine ⟨by rw [runTo_step, List.length_append, r.len]; simp; omega, fun j t hj => ?_⟩; rw [runTo_step] at hj
  rcases Nat.lt_or_ge j (runTo k p n ts op ss i).length with hlt | hge
  · rw [List.getElem?_append_left hlt] at hj; have := r.ten j t hj; rw [hs1, step_lab (by rw [hl, ← r.len]; exact hlt)]; exact this
  · rw [List.getElem?_append_right hge] at hj; have e0 : j - (runTo k p n ts op ss i).length = 0 := by
      rcases Nat.eq_zero_or_pos (j - (runTo k p n ts op ss i).length) with h0 | h0
      · exact h0
      · rw [List.getElem?_eq_none (by simp; omega)] at hj; cases hj
    rw [e0] at hj
    simp at hj
    subst hj; refine ⟨p1, ?_, ?_⟩
    · rw [p2, hs1, show j = (runS ts op ss i).all.length by rw [hl, ← r.len]; omega, step_lab_new]; rfl
    · rw [p2, p3]
theorem run_ok (h : orderL k p n ts op ss) : ∀ i, i ≤ ss.length → (∀ j, j < i → runFit k p n ts op ss j) → RunOK k p n ts op ss i
  | 0, _, _ => by
    refine ⟨rfl, fun j t hj => ?_⟩; have hj' : ts[j]? = some t := hj; have hm := List.mem_of_getElem? hj'; exact ⟨h.1.2.2.1 t hm, by simp [runS, shTo, Sh.lab, sh0, List.getD, hj'], net_dmap h.1 t hm⟩
  | i + 1, hi, hf => (run_ok h i (by omega) fun j hj => hf j (by omega)).step h (by omega) (hf i (by omega))
noncomputable def outTo (k p n : Int) (ts : List Ten) (op : List Int) (ss : List Stp) (i : Nat) : List Ten := (runS ts op ss i).ixs.map fun j => (runTo k p n ts op ss i).getD j noTen
theorem dimOf_mem {ts : List Ten} {x : Int} (h : dimOf ts x ≠ 0) : ∃ t ∈ ts, x ∈ t.l := by
  induction ts with
  | nil => simp [dimOf] at h
  | cons t ts ih =>
    rw [dimOf] at h
    by_cases hx : x ∈ t.l
    · exact ⟨t, by simp, hx⟩
    · rw [if_neg hx] at h; obtain ⟨u, hu, hxu⟩ := ih h; exact ⟨u, by simp [hu], hxu⟩
theorem run_open (h : orderL k p n ts op ss) {x : Int} (hx : x ∈ op) : ∀ i, i ≤ ss.length → ∃ j ∈ (runS ts op ss i).ixs, x ∈ (runS ts op ss i).lab j
  | 0, _ => by
    obtain ⟨j, hj, e⟩ := getD_of_mem hx; have ho := (open_at h.1.2.2.2.2 hj).2; rw [e] at ho; obtain ⟨t, ht, hxt⟩ := dimOf_mem (ts := ts) (x := x) (by omega); obtain ⟨m, hm⟩ := List.getElem?_of_mem ht; have hml := (List.getElem?_eq_some_iff.1 hm).1; have e0 : runS ts op ss 0 = sh0 ts := rfl; refine ⟨m, by rw [e0, sh0_ixs]; simpa using hml, ?_⟩; rw [e0]
    simpa [Sh.lab, sh0, List.getD, hm] using hxt
  | i + 1, hi => by
    obtain ⟨j, hj, hxj⟩ := run_open h hx i (by omega); obtain ⟨hst, hs1, hl⟩ := run_step h (i := i) (by omega); have hok := (run_fine (ss := ss) h.1 i).1; rw [hs1]
    by_cases hc : j ≠ (stpAt ss i).a.toNat ∧ j ≠ (stpAt ss i).b.toNat
    · refine ⟨j, by rw [step_ixs hok]; simp [hj, hc], ?_⟩; rw [step_lab (mem_ixs.1 hj).1]; exact hxj
    · refine ⟨(runS ts op ss i).all.length, by rw [step_ixs hok]; simp, ?_⟩; rw [step_lab_new]; refine List.mem_filter.2 ⟨mem_joinI.2 ?_, by simpa using .inl hx⟩
      by_cases ea : j = (stpAt ss i).a.toNat
      · exact .inl (ea ▸ hxj)
      · exact .inr ((show j = (stpAt ss i).b.toNat by omega) ▸ hxj)
theorem run_left (h : orderL k p n ts op ss) (hn : ts ≠ []) : (runS ts op ss ss.length).ixs = [ts.length + ss.length - 1] := by
  have hlen : ts.length ≠ 0 := fun e => hn (List.eq_nil_of_length_eq_zero e); have hc := steps_count (op := op) (sh0_fine (net_axes h.1)) h.2.2 ss.length (Nat.le_refl _); rw [show (sh0 ts).ixs.length = ts.length by rw [sh0_ixs]; simp] at hc; have h1 : (runS ts op ss ss.length).ixs.length = 1 := by
    have := h.2.1
    show (shTo op (sh0 ts) (ss.take ss.length)).ixs.length = 1
    omega
  have hm : ts.length + ss.length - 1 ∈ (runS ts op ss ss.length).ixs := by
    rcases Nat.eq_zero_or_pos ss.length with h0 | h0
    · have e0 : runS ts op ss ss.length = sh0 ts := by rw [h0]; rfl
      rw [e0, sh0_ixs, h0]; simp; omega
    · obtain ⟨hst, hs1, hl⟩ := run_step h (i := ss.length - 1) (by omega); rw [show ss.length - 1 + 1 = ss.length by omega] at hs1; rw [hs1, step_ixs (run_fine (ss := ss) h.1 _).1, hl]
      simp; omega
  obtain ⟨y, hy⟩ := List.length_eq_one_iff.1 h1; rw [hy] at hm ⊢
  simp at hm
  rw [hm]
end
end Go.Proofs.YtiefkcaplhnnmaaDoor
namespace Go.Proofs.YtiefkcaplhnnmaaDoor
set_option maxRecDepth 100000
open Go.RowKit
theorem Made.join3 {h a b : PH} {l : List PH} (m : Made h (a :: b :: l)) : Made h [a, b, joinP l] := by
  have hs := m.sep; have hl : PLe (joinP l) h := fun k o e => by
    obtain ⟨y, hy, e'⟩ := joinP_dom e; exact m.le y (by simp [hy]) k o e'
  refine ⟨⟨fun x hx => ?_, fun x hx => ?_, fun x hx => by simp at hx, trivial⟩, fun x hx => ?_, fun k o e => ?_⟩
  · rcases List.mem_cons.1 hx with rfl | hx
    · exact hs.1 _ (by simp)
    · simp at hx; subst hx
      exact PDj.join fun y hy => hs.1 y (by simp [hy])
  · simp at hx; subst hx
    exact PDj.join fun y hy => hs.2.1 y hy
  · simp at hx
    rcases hx with rfl | rfl | rfl
    · exact m.le _ (by simp)
    · exact m.le _ (by simp)
    · exact hl
  · obtain ⟨x, hx, e'⟩ := m.dom k o e
    simp at hx
    rcases hx with rfl | rfl | hx
    · exact ⟨x, by simp, e'⟩
    · exact ⟨x, by simp, e'⟩
    · exact ⟨joinP l, by simp, PLe.join hs.2.2 x hx k o e'⟩
theorem Made.part3 {h a b c : PH} {l : List PH} (m : Made h [a, b, c]) (ml : Made c l) : Made h (a :: b :: l) := by
  have hs := m.sep; have hc : PLe c h := m.le c (by simp); refine ⟨⟨fun x hx => ?_, fun x hx => ?_, ml.sep⟩, fun x hx => ?_, fun k o e => ?_⟩
  · rcases List.mem_cons.1 hx with rfl | hx
    · exact hs.1 _ (by simp)
    · exact (((hs.1 c (by simp)).symm).mono (ml.le x hx)).symm
  · exact (((hs.2.1 c (by simp)).symm).mono (ml.le x hx)).symm
  · simp at hx
    rcases hx with rfl | rfl | hx
    · exact m.le _ (by simp)
    · exact m.le _ (by simp)
    · exact (ml.le x hx).trans hc
  · obtain ⟨x, hx, e'⟩ := m.dom k o e
    simp at hx
    rcases hx with rfl | rfl | rfl
    · exact ⟨x, by simp, e'⟩
    · exact ⟨x, by simp, e'⟩
    · obtain ⟨y, hy, e2⟩ := ml.dom k o e'; exact ⟨y, by simp [hy], e2⟩
theorem NetO.split {ts : List Ten} {op : List Int} {vt vo : Value} {h : PH} (r : NetO ts op vt vo h) : ∃ cs h0 ho hl, RowO 43 cs ts.length 3 vt h0 ∧ IntsO op vo ho ∧ OwnH (flat ts) cs hl ∧ Made h [h0, ho, hl] := by
  obtain ⟨cs, h0, ho, l, r0, r1, o, m⟩ := r; exact ⟨cs, h0, ho, joinP l, r0, r1, ⟨l, o, Made.join m.sep.2.2⟩, m.join3⟩
theorem NetO.join {ts : List Ten} {op : List Int} {vt vo : Value} {h h0 ho hl : PH} {cs : List Value} (r0 : RowO 43 cs ts.length 3 vt h0) (r1 : IntsO op vo ho) (o : OwnH (flat ts) cs hl) (m : Made h [h0, ho, hl]) : NetO ts op vt vo h := by
  obtain ⟨l, o, ml⟩ := o; exact ⟨cs, h0, ho, l, r0, r1, o, m.part3 ml⟩
theorem OwnL.take {xss : List (List Int)} {vs : List Value} {l : List PH} (o : OwnL xss vs l) (n : Nat) : OwnL (xss.take n) (vs.take n) (l.take n) := by
  refine ⟨by simp [o.l1], by simp [o.l2], fun i xs h => ?_⟩; have hi : i < n := by
    rcases Nat.lt_or_ge i n with h' | h'
    · exact h'
    · rw [List.getElem?_take, if_neg (by omega)] at h; cases h
  rw [List.getElem?_take, if_pos hi] at h ⊢; rw [List.getElem?_take, if_pos hi]; exact o.own i xs h
theorem OwnL.drop {xss : List (List Int)} {vs : List Value} {l : List PH} (o : OwnL xss vs l) (n : Nat) : OwnL (xss.drop n) (vs.drop n) (l.drop n) := by
  refine ⟨by simp [o.l1], by simp [o.l2], fun i xs h => ?_⟩; rw [List.getElem?_drop] at h ⊢; rw [List.getElem?_drop]; exact o.own (n + i) xs h
theorem flat_take {ts : List Ten} {i : Nat} (h : i ≤ ts.length) : flat (ts.take i) = (flat ts).take (i * 3) ∧ flat (ts.drop i) = (flat ts).drop (i * 3) := by
  have e : flat ts = flat (ts.take i) ++ flat (ts.drop i) := by rw [← flat_append, List.take_append_drop]
  have hl : (flat (ts.take i)).length = i * 3 := by rw [flat_len, List.length_take, Nat.min_eq_left h]
  constructor
  · rw [e, List.take_left' hl]
  · rw [e, List.drop_left' hl]
theorem flat_set {ts : List Ten} {i : Nat} (h : i < ts.length) (u : Ten) : flat (ts.set i u) = (flat ts).take (i * 3) ++ [u.l, u.d, u.x] ++ (flat ts).drop (i * 3 + 3) := by
  rw [List.set_eq_take_append_cons_drop, if_pos h, flat_append, (flat_take (Nat.le_of_lt h)).1, show i * 3 + 3 = (i + 1) * 3 by omega, ← (flat_take (show i + 1 ≤ ts.length by omega)).2, List.append_assoc]
  rfl
theorem sep_mono {l l' : List PH} (h : sepL l) (hs : l'.Sublist l) : sepL l' := by
  induction hs with
  | slnil => exact trivial
  | cons x _ ih => exact ih h.2
  | cons_cons x s ih => exact ⟨fun y hy => h.1 y (s.subset hy), ih h.2⟩
theorem OwnH.set {ts : List Ten} {u : Ten} {cs : List Value} {a b c : Value} {h h' : PH} {i : Nat} (hi : i < ts.length) (o : OwnH (flat ts) cs h) (r : TriO u a b c h') (hd : PDj h h') :
    ∃ g, PLe g (PUn h h') ∧ OwnH (flat (ts.set i u)) (cs.take (i * 3) ++ [a, b, c] ++ cs.drop (i * 3 + 3)) g := by
  obtain ⟨l, ol, m⟩ := o; obtain ⟨h1, h2, h3, r1, r2, r3, m'⟩ := r; have hx : ∀ x ∈ l.take (i * 3) ++ [h1, h2, h3] ++ l.drop (i * 3 + 3), PLe x (PUn h h') := fun x hx => by
    simp only [List.mem_append] at hx
    rcases hx with (hx | hx) | hx
    · exact (m.le x (List.mem_of_mem_take hx)).trans (PLe.un_l _ _)
    · exact (m'.le x hx).trans (PLe.un_r hd)
    · exact (m.le x (List.mem_of_mem_drop hx)).trans (PLe.un_l _ _)
  have hab : ∀ x ∈ l, ∀ y ∈ [h1, h2, h3], PDj x y := fun x hx y hy => (((hd.mono (m.le x hx)).symm).mono (m'.le y hy)).symm; have hsub : (l.take (i * 3) ++ l.drop (i * 3 + 3)).Sublist l := by
    conv => rhs; rw [← List.take_append_drop (i * 3) l]
    refine List.Sublist.append (List.Sublist.refl _) ?_; rw [← List.drop_drop]; exact List.drop_sublist _ _
  have hsep := sepL_append.1 (sep_mono m.sep hsub); have hs : sepL (l.take (i * 3) ++ [h1, h2, h3] ++ l.drop (i * 3 + 3)) := by
    refine sepL_append.2 ⟨sepL_append.2 ⟨hsep.1, m'.sep, fun x hx y hy => hab x (List.mem_of_mem_take hx) y hy⟩, hsep.2.1, fun x hx y hy => ?_⟩
    rcases List.mem_append.1 hx with hx | hx
    · exact hsep.2.2 x hx y hy
    · exact (hab y (List.mem_of_mem_drop hy) x hx).symm
  refine ⟨joinP (l.take (i * 3) ++ [h1, h2, h3] ++ l.drop (i * 3 + 3)), fun k o e => ?_, _, ?_, Made.join hs⟩
  · obtain ⟨y, hy, e'⟩ := joinP_dom e; exact hx y hy k o e'
  · rw [flat_set hi]; exact ((ol.take _).append (OwnL.three r1 r2 r3)).append (ol.drop _)
def replP (k p n : Int) (ts : List Ten) (op : List Int) (i : Int) (u : Ten) : Prop := netL k p n ts op ∧ (0 ≤ i ∧ i < ts.length) ∧ fitP k p n (ts.getD i.toNat ⟨[], [], []⟩) u
open Classical in
noncomputable def replB (k p n : Int) (ts : List Ten) (op : List Int) (i : Int) (u : Ten) : Bool := decide (replP k p n ts op i u)
noncomputable def ifB {α : Type} (b : Bool) (x y : α) : α := if b then x else y
noncomputable def replTs (k p n : Int) (ts : List Ten) (op : List Int) (i : Int) (u : Ten) : List Ten := ifB (replB k p n ts op i u) (ts.set i.toNat u) []
noncomputable def replOp (k p n : Int) (ts : List Ten) (op : List Int) (i : Int) (u : Ten) : List Int := ifB (replB k p n ts op i u) op []
def ReplR (k p n : Int) (ts : List Ten) (op : List Int) (i : Int) (u : Ten) (x : Value) (h : PH) : Prop :=
  ∃ vt vo, x = .tuple [netV (ifB (replB k p n ts op i u) k 0) (ifB (replB k p n ts op i u) p 0) (ifB (replB k p n ts op i u) n 0) vt vo, .bool (replB k p n ts op i u)].toArray ∧ NetO (replTs k p n ts op i u) (replOp k p n ts op i u) vt vo h
theorem NetO.nil : NetO [] [] (.slice none 0 0) (.slice none 0 0) emp :=
  ⟨[], emp, emp, [], RowO.nil, IntsO.nil, OwnL.nil, ⟨by simp [sepL, PDj.emp], fun x hx => by simp at hx; subst hx; exact PLe.emp _, fun k o e => by cases e⟩⟩
theorem ReplR.no {k p n i : Int} {ts : List Ten} {op : List Int} {u : Ten} (h : ¬ replP k p n ts op i u) : ReplR k p n ts op i u (.tuple [netV 0 0 0 (.slice none 0 0) (.slice none 0 0), .bool false].toArray) emp := by
  have e : replB k p n ts op i u = false := by simp [replB, h]
  refine ⟨.slice none 0 0, .slice none 0 0, ?_, ?_⟩
  · rw [e]; rfl
  · rw [replTs, replOp, e]; exact NetO.nil
theorem ReplR.yes {k p n i : Int} {ts : List Ten} {op : List Int} {u : Ten} {vt vo : Value} {g : PH} (h : replP k p n ts op i u) (r : NetO (ts.set i.toNat u) op vt vo g) : ReplR k p n ts op i u (.tuple [netV k p n vt vo, .bool true].toArray) g := by
  have e : replB k p n ts op i u = true := by simp [replB, h]
  refine ⟨vt, vo, ?_, ?_⟩
  · rw [e]; rfl
  · rw [replTs, replOp, e]; exact r
end Go.Proofs.YtiefkcaplhnnmaaDoor
namespace Go.Proofs.YtiefkcaplhnnmaaDoor
set_option maxRecDepth 100000
open Go.RowKit
theorem perm_all {k p n : Int} {t : Ten} {ls : List Int} (h : PermOK k p n t ls) : ∀ m : Nat, ((permX (widthI k n) t ls (permD t ls) m).length : Int) = m * widthI k n ∧ ∀ a ∈ permX (widthI k n) t ls (permD t ls) m, 0 ≤ a ∧ a ≤ topI k p n
  | 0 => by simp [permX]
  | m + 1 => by
    have ih := perm_all h m; have ho := h.off m; have he := elt_inR h.ten ho.1 ho.2; have hw := width_range h.ring; rw [permX_step]; refine ⟨?_, fun a ha => ?_⟩
    · rw [List.length_append, he.1, Int.natCast_add, ih.1, show ((m + 1 : Nat) : Int) = (m : Int) + 1 from rfl, Int.add_mul, Int.one_mul]; omega
    · rcases List.mem_append.1 ha with ha | ha
      · exact ih.2 a ha
      · exact he.2 a ha
theorem perm_axes {k p n : Int} {t : Ten} {ls : List Int} (h : PermOK k p n t ls) : axesL ls (permD t ls) := by
  refine ⟨h.len.2.2, (permD_len t ls).symm, fun j hj => ⟨?_, h.dims j (by rw [permD_len]; exact hj), nodup_not_take h.nodup hj⟩⟩; obtain ⟨i, hi, e⟩ := getD_of_mem (h.perm.mem_iff.1 (mem_getD hj)); rw [← e]; exact (h.axes.2.2 i hi).1
theorem perm_ten {k p n : Int} {t : Ten} {ls : List Int} (h : PermOK k p n t ls) : tensorL k p n (permT k n t ls).l (permT k n t ls).d (permT k n t ls).x := by
  have hs := h.small; have ha := perm_axes h; have hx := perm_all h (prodI (permD t ls)).toNat; refine ⟨h.ring, sizeI_ge.2 ⟨ha, hs.2⟩, ?_, hx.2⟩
  show ((permX (widthI k n) t ls (permD t ls) (prodI (permD t ls)).toNat).length : Int) = sizeI ls (permD t ls) * widthI k n
  rw [sizeI_yes ha hs.2, hx.1, show (((prodI (permD t ls)).toNat : Nat) : Int) = prodI (permD t ls) by omega]
theorem net_open {k p n : Int} {ts : List Ten} {op : List Int} (h : netL k p n ts op) : op.Nodup ∧ op.length ≤ 12 := by
  have ha := (sizeI_ge.1 h.2.2.2.2).1; exact ⟨axes_nodup ha, ha.1⟩
theorem mem_keep {t u : Ten} {ks : List Int} {x : Int} : x ∈ keepL t u ks ↔ (x ∈ t.l ∨ x ∈ u.l) ∧ x ∈ ks := by
  unfold keepL
  rw [List.mem_filter, mem_joinI, decide_eq_true_eq]
theorem sum_ten {k p n : Int} {t : Ten} (ht : tensorL k p n t.l t.d t.x) (ks : List Int) : tensorL k p n (sumR k p n t ks).l (sumR k p n t ks).d (sumR k p n t ks).x ∧ (sumR k p n t ks).l = keepL t (oneT k p n) ks ∧ (sumR k p n t ks).d = (keepL t (oneT k p n) ks).map (dimJ t (oneT k p n)) := by
  have := pair_ten (sum_pair ht ks)
  rwa [sumR_pair ht] at this
theorem fin_perm {k p n : Int} {t : Ten} {op : List Int} (ht : tensorL k p n t.l t.d t.x) (hn : op.Nodup) (hs : ∀ x ∈ op, x ∈ t.l) : PermOK k p n (sumR k p n t op) op := by
  obtain ⟨h1, h2, _⟩ := sum_ten ht op; have hk : ∀ x, x ∈ (sumR k p n t op).l ↔ x ∈ op := fun x => by
    rw [h2, mem_keep]; exact ⟨fun h => h.2, fun h => ⟨.inl (hs x h), h⟩⟩
  exact ⟨ht.1, h1, perm_of hn (fun x hx => (hk x).2 hx) (pigeon (axes_nodup (ten_axes h1)) fun x hx => (hk x).1 hx)⟩
noncomputable def finT (k p n : Int) (t : Ten) (op : List Int) : Ten := permT k n (sumR k p n t op) op
def finP (k p n : Int) (ts : List Ten) (op : List Int) (t : Ten) : Prop := netL k p n ts op ∧ tensorL k p n t.l t.d t.x ∧ ∀ x ∈ op, x ∈ t.l
theorem finP.perm {k p n : Int} {ts : List Ten} {op : List Int} {t : Ten} (h : finP k p n ts op t) : PermOK k p n (sumR k p n t op) op := fin_perm h.2.1 (net_open h.1).1 h.2.2
def conP (k p n : Int) (ts : List Ten) (op : List Int) (ss : List Stp) : Prop := orderL k p n ts op ss ∧ ∀ j, j < ss.length → runFit k p n ts op ss j
noncomputable def lastT (k p n : Int) (ts : List Ten) (op : List Int) (ss : List Stp) : Ten := (runTo k p n ts op ss ss.length).getD (ts.length + ss.length - 1) noTen
noncomputable def conT (k p n : Int) (ts : List Ten) (op : List Int) (ss : List Stp) : Ten := if ts.length = 0 then oneT k p n else finT k p n (lastT k p n ts op ss) op
section
variable {k p n : Int} {ts : List Ten} {op : List Int} {ss : List Stp}
theorem conP.last (h : conP k p n ts op ss) (hn : ts.length ≠ 0) : finP k p n ts op (lastT k p n ts op ss) ∧ outTo k p n ts op ss ss.length = [lastT k p n ts op ss] := by
  have r := run_ok h.1 ss.length (Nat.le_refl _) h.2; have hl := run_left h.1 (fun e => hn (by rw [e]; rfl)); have hg := r.get (j := ts.length + ss.length - 1) (by omega); refine ⟨⟨h.1.1, hg.1, fun x hx => ?_⟩, by rw [outTo, hl]; rfl⟩; obtain ⟨j, hj, hxj⟩ := run_open h.1 hx ss.length (Nat.le_refl _); rw [hl] at hj
  simp at hj
  show x ∈ ((runTo k p n ts op ss ss.length).getD (ts.length + ss.length - 1) noTen).l
  rw [hg.2.1, ← hj]; exact hxj
theorem conP.empty (h : conP k p n ts op ss) (hn : ts.length = 0) : op = [] := by
  refine List.eq_nil_iff_forall_not_mem.2 fun x hx => ?_; obtain ⟨j, hj, e⟩ := getD_of_mem hx; have ho := (open_at h.1.1.2.2.2.2 hj).2; have e0 : ts = [] := List.eq_nil_of_length_eq_zero hn; rw [e0] at ho
  simp [dimOf] at ho
theorem conP.ten (h : conP k p n ts op ss) : tensorL k p n (conT k p n ts op ss).l (conT k p n ts op ss).d (conT k p n ts op ss).x ∧ (conT k p n ts op ss).l = op := by
  unfold conT
  by_cases hn : ts.length = 0
  · rw [if_pos hn]; exact ⟨one_ten h.1.1.1, (h.empty hn).symm⟩
  · rw [if_neg hn]; exact ⟨perm_ten (h.last hn).1.perm, rfl⟩
end
end Go.Proofs.YtiefkcaplhnnmaaDoor
namespace Go.Proofs.YtiefkcaplhnnmaaDoor
set_option maxRecDepth 100000
open Go.RowKit
/-- A string by its bytes. -/
def strV (l : List UInt8) : Value := .string ⟨l.toArray⟩
theorem str_size (l : List UInt8) : (⟨l.toArray⟩ : ByteArray).size = l.length := by simp [ByteArray.size]
theorem str_one (l : List UInt8) : (strV l).oneCell' = true := rfl
section
variable {P : Program} {n : Nat} {w0 : World} {K : Env} {HS : List PH} {d : Option Tmp} {ty : TypeId} {ps : String} {af : Array Edge} {g : Option (Nat × Bool)}
theorem v_addS {t t' : TypeId} {x y : Operand} {a b : List UInt8} (hx : ev K x = some (strV a)) (hy : ev K y = some (strV b)) (h : a.length + b.length ≤ 9223372036854775807) : StepV P n w0 K HS ⟨d, .binOp .add t x y t', ty, ps, af, g⟩ (strV (a ++ b)) := fun ac w e _ => by
  have h1 := run_string_add_sum (P := P) w ⟨a.toArray⟩ ⟨b.toArray⟩ (by rw [str_size, str_size]; exact h); rw [ByteArray.mk_append_mk] at h1; have hx' := e.ev hx; have hy' := e.ev hy
  unfold strV at hx' hy' ⊢
  simp [execOp, hx', hy', eqGuard, binOp, h1]
theorem str_list (l : List UInt8) : (⟨l.toArray⟩ : ByteArray).toList = l := ByteArray.toList_mk l
theorem v_neqS' {t t' : TypeId} {x y : Operand} {a b : List UInt8} (_ : P.underlying t = some .string) (hx : ev K x = some (strV a)) (hy : ev K y = some (strV b)) : StepV P n w0 K HS ⟨d, .binOp .neq t x y t', ty, ps, af, g⟩ (.bool (decide (a ≠ b))) := fun ac w e _ => by
  have hx' := e.ev hx; have hy' := e.ev hy
  unfold strV at hx' hy'
  have : (!(a == b)) = decide (a ≠ b) := by
    by_cases h : a = b <;> simp [h]
  simp only [execOp, hx', hy', eqGuard, binOp_string_neq, str_list, this, Sem.run_bind, Sem.run_pure, Result.andThen_ok, Bool.not_true, Bool.false_eq_true, if_false]
theorem v_neqsS {t t' : TypeId} {x y : Operand} {a : List UInt8} (ht : P.underlying t = some .string) (hx : ev K x = some (strV a)) (hy : ev K y = some (strV a)) : StepV P n w0 K HS ⟨d, .binOp .neq t x y t', ty, ps, af, g⟩ (.bool false) := by
  have := v_neqS' (P := P) (n := n) (w0 := w0) (HS := HS) (d := d) (t := t) (t' := t') (ty := ty) (ps := ps) (af := af) (g := g) ht hx hy
  simpa using this
/-- An integer turned into another kind. -/
theorem v_convK {src dst : TypeId} {x : Operand} {q k : IntKind} {a b : Int} (hs : (P.underlying src).isSome = true) (hd : P.underlying dst = some (.int k)) (hx : ev K x = some (.int q a)) (hw : k.wrap a = b) : StepV P n w0 K HS ⟨d, .convert src dst x, ty, ps, af, g⟩ (.int k b) := fun ac w e _ => by
  obtain ⟨u, hu⟩ := Option.isSome_iff_exists.mp hs
  simp [execOp, e.ev hx, convert, run_underlying hu, run_underlying hd, Conv.intToInt, hw]
/-- One byte in a slice as a string. -/
theorem v_convS {src dst e' : TypeId} {x : Operand} {v : Value} {b : Int} {h : PH} (p : Nat) (hs : P.underlying src = some (.slice e')) (he : P.underlying e' = some (.int .u8)) (hd : P.underlying dst = some .string) (hx : ev K x = some v) (hp : HS[p]? = some h)
    (r : RowR [.int .u8 b] 1 1 v h) : StepV P n w0 K HS ⟨d, .convert src dst x, ty, ps, af, g⟩ (strV [UInt8.ofNat b.toNat]) := fun ac w e s => by
  obtain ⟨_, a, c, rfl, _, h4⟩ := r; obtain ⟨blk, o, rfl, hc⟩ := h4 (by decide); have hle := s.get p hp; have h6 := run_convert_bytes_arg (P := P) w src e' hs he blk o 1 c [b] rfl (fun i hi => by
    have : i = 0 := by omega
    subst this; exact cell_of hle (hc 0 _ rfl)) dst hd
  simp [execOp, e.ev hx, h6]
  rfl
end
def strs (xs : List (List UInt8)) : List Value := xs.map strV
theorem strs_length (xs : List (List UInt8)) : (strs xs).length = xs.length := by simp [strs]
theorem strs_get {xs : List (List UInt8)} {k : Nat} (h : k < xs.length) : (strs xs)[k]? = some (strV (xs.getD k [])) := by
  simp [strs, List.getD, h]
theorem strs_one (xs : List (List UInt8)) : ∀ a ∈ strs xs, a.oneCell' = true := by
  intro a ha; simp only [strs, List.mem_map] at ha; obtain ⟨x, _, rfl⟩ := ha
  rfl
theorem strs_append (xs ys : List (List UInt8)) : strs (xs ++ ys) = strs xs ++ strs ys := by simp [strs]
theorem strs_set (xs : List (List UInt8)) (k : Nat) (x : List UInt8) : (strs xs).set k (strV x) = strs (xs.set k x) := by simp [strs, List.map_set]
def StrsR (xs : List (List UInt8)) (v : Value) (h : PH) : Prop := RowR (strs xs) xs.length 1 v h
def StrsO (xs : List (List UInt8)) (v : Value) (h : PH) : Prop := RowO 9 (strs xs) xs.length 1 v h
theorem StrsR.mono {xs : List (List UInt8)} {v : Value} {h h' : PH} (r : StrsR xs v h) (l : PLe h h') : StrsR xs v h' := RowR.mono r l
theorem StrsO.toR {xs : List (List UInt8)} {v : Value} {h : PH} (r : StrsO xs v h) : StrsR xs v h := RowO.toR r
theorem StrsR.sl {xs : List (List UInt8)} {v : Value} {h : PH} (r : StrsR xs v h) : SlL v xs.length := RowR.sl r
theorem StrsR.le {xs : List (List UInt8)} {v : Value} {h : PH} (r : StrsR xs v h) : (xs.length : Int) ≤ 9223372036854775807 := by
  obtain ⟨_, a, c, _, ⟨h, _⟩, _⟩ := r
  unfold maxLen at h
  omega
theorem StrsO.nil : StrsO [] (.slice none 0 0) emp := ⟨rfl, .inl ⟨rfl, rfl, rfl⟩⟩
section
variable {P : Program} {n : Nat} {w0 : World} {K : Env} {HS : List PH} {d : Option Tmp} {ty : TypeId} {ps : String} {af : Array Edge} {g : Option (Nat × Bool)}
theorem v_idxU {t e' : TypeId} {x ix : Operand} {z : Value} {bytes : Nat} {agg : Bool} {v : Value} {k : IntKind} {i : Int} {xs : List (List UInt8)} {h : PH} (ht : P.underlying t = some (.slice e')) (he : TyF P e' z 1 bytes agg)
    (hx : ev K x = some v) (hi : ev K ix = some (.int k i)) (r : StrsR xs v h) (h0 : 0 ≤ i) (h1 : i < xs.length) : StepV P n w0 K HS ⟨d, .indexAddr t x ix, ty, ps, af, g⟩ (eltP v i.toNat) := by
  have := v_indexAddr (P := P) (n := n) (w0 := w0) (HS := HS) (d := d) (ty := ty) (ps := ps) (af := af) (g := g) ht he hx hi r (by decide) h0 h1
  rwa [Nat.mul_one] at this
theorem v_loadU {t : TypeId} {z : Value} {bytes k : Nat} {x : Operand} {v : Value} {xs : List (List UInt8)} {h : PH} (p : Nat) (ht : TyF P t z 1 bytes false) (hx : ev K x = some (eltP v k)) (hp : HS[p]? = some h) (r : StrsR xs v h) (hk : k < xs.length) :
    StepV P n w0 K HS ⟨d, .load t x, ty, ps, af, g⟩ (strV (xs.getD k [])) := v_loadE p ht hx hp r (strs_get hk)
theorem m_storeU {t : TypeId} {x y : Operand} {z : Value} {bytes : Nat} {agg : Bool} {k : Nat} {sv : Value} {a : List UInt8} {xs : List (List UInt8)} {h : PH} (p : Nat) (ht : TyF P t z 1 bytes agg) (hx : ev K x = some (eltP sv k)) (hy : ev K y = some (strV a))
    (hp' : HS[p]? = some h) (r : StrsO xs sv h) (hk : k < xs.length) :
    StepX P n w0 K HS ⟨d, .store t x y, ty, ps, af, g⟩ h (fun v' h' => v' = undef ∧ StrsO (xs.set k a) sv h') := by
  have hk' : k < (strs xs).length := by rw [strs_length]; exact hk
  have := m_storeE (P := P) (n := n) (w0 := w0) (d := d) (ty := ty) (ps := ps) (af := af) (g := g) p ht hx hy (us := [strV a]) rfl rfl (by simp [str_one]) hp' r (by decide) (by omega); rw [set_eq_parts hk', strs_set] at this
  unfold StrsO
  rw [List.length_set]; exact this
theorem x_makeU {t : TypeId} {x y : Operand} {bytes : Nat} {m : Int} (ht : P.underlying t = some (.slice 9)) (he : TyF P 9 (strV []) 1 bytes false)
    (hx : ev K x = some (.int .i64 m)) (hy : ev K y = some (.int .i64 m)) (h0 : 0 ≤ m) (h1 : bytes * m ≤ 281474976710656) (h2 : m ≤ 9223372036854775807) :
    StepX P n w0 K HS ⟨d, .makeSlice t x y, ty, ps, af, g⟩ emp (StrsO (List.replicate m.toNat [])) := by
  have := x_make (P := P) (n := n) (w0 := w0) (HS := HS) (d := d) (ty := ty) (ps := ps) (af := af) (g := g) ht he (zs := [strV []]) rfl rfl hx hy h0 h1 h2; have e1 : (List.replicate m.toNat [strV []]).flatten = strs (List.replicate m.toNat []) := by
    rw [List.flatten_replicate_singleton]; simp [strs]
  rw [e1] at this
  unfold StrsO
  rw [List.length_replicate]; exact this
theorem m_appU {t : TypeId} {x y : Operand} {xs ys : List (List UInt8)} {bytes : Nat} {v u : Value} {h hy' : PH} (p q : Nat) (ht : P.underlying t = some (.slice 9)) (he : TyF P 9 (strV []) 1 bytes false) (hb : bytes = 16)
    (hx : ev K x = some v) (hy : ev K y = some u) (hp' : HS[p]? = some h) (r : StrsO xs v h) (hq : HS[q]? = some hy') (ru : StrsR ys u hy')
    (h47 : xs.length + ys.length ≤ 1759218604441) :
    StepX P n w0 K HS ⟨d, .call ⟨.builtin .append, #[x, y], #[t, t]⟩, ty, ps, af, g⟩ h (StrsO (xs ++ ys)) := by
  subst hb; have := m_append (P := P) (n := n) (w0 := w0) (HS := HS) (d := d) (ty := ty) (ps := ps) (af := af) (g := g) p q ht he (zs := [strV []]) rfl rfl (by decide) hx hy hp' r hq ru (strs_one ys) (by unfold maxLen; omega) (by omega)
  unfold StrsO
  rw [List.length_append, strs_append]; exact this
end
end Go.Proofs.YtiefkcaplhnnmaaDoor
namespace Go.Proofs.YtiefkcaplhnnmaaDoor
set_option maxRecDepth 100000
open Go.Shelf Go.RowKit Go.Sort
def shp_lays156_ren : Go.Shelf.Ren := ⟨fun | 156 => 62 | 165 => 66 | 166 => 67 | 169 => 68 | 240 => 73 | 241 => 74 | 276 => 80 | 277 => 81 | n => n, fun | 31 => 59 | 9 => 9 | 3 => 3 | 4 => 4 | 0 => 0 | 20 => 20 | 72 => 79 | 76 => 83 | 70 => 77 | 37 => 58 | 75 => 82 | 127 => 92 | 164 => 100 | 5 => 5 | 80 => 85 | n => n, fun | n => n⟩
theorem shp_lays156 : Go.Proofs.Lays.n156 Tryd.prog shp_lays156_ren := {
  mixed := by kernel_rfl
  f156 := Tryd.func62.trans (congrArg some (by kernel_rfl))
  f165 := Tryd.func66.trans (congrArg some (by kernel_rfl))
  f166 := Tryd.func67.trans (congrArg some (by kernel_rfl))
  f169 := Tryd.func68.trans (congrArg some (by kernel_rfl))
  f240 := Tryd.func73.trans (congrArg some (by kernel_rfl))
  f241 := Tryd.func74.trans (congrArg some (by kernel_rfl))
  f276 := Tryd.func80.trans (congrArg some (by kernel_rfl))
  f277 := Tryd.func81.trans (congrArg some (by kernel_rfl))
  t0 := Tryd.underlying0
  a0 := Tryd.isAgg0
  z0 := Tryd.sizeOf0
  v0 := Tryd.zeroValue0
  t3 := Tryd.underlying3
  a3 := Tryd.isAgg3
  z3 := Tryd.sizeOf3
  v3 := Tryd.zeroValue3
  t4 := Tryd.underlying4
  a4 := Tryd.isAgg4
  z4 := Tryd.sizeOf4
  v4 := Tryd.zeroValue4
  t9 := Tryd.underlying9
  a9 := Tryd.isAgg9
  z9 := Tryd.sizeOf9
  v9 := Tryd.zeroValue9
  t20 := Tryd.underlying20
  a20 := Tryd.isAgg20
  z20 := Tryd.sizeOf20
  v20 := Tryd.zeroValue20
  t31 := Tryd.underlying59
  a31 := Tryd.isAgg59
  z31 := Tryd.sizeOf59
  v31 := Tryd.zeroValue59
  t37 := Tryd.underlying58
  a37 := Tryd.isAgg58
  z37 := Tryd.sizeOf58
  v37 := Tryd.zeroValue58
  t70 := Tryd.underlying77
  a70 := Tryd.isAgg77
  z70 := Tryd.sizeOf77
  v70 := Tryd.zeroValue77
  t72 := Tryd.underlying79
  a72 := Tryd.isAgg79
  z72 := Tryd.sizeOf79
  v72 := Tryd.zeroValue79
  t75 := Tryd.underlying82
  a75 := Tryd.isAgg82
  z75 := Tryd.sizeOf82
  v75 := Tryd.zeroValue82
  t76 := Tryd.underlying83
  a76 := Tryd.isAgg83
  z76 := Tryd.sizeOf83
  v76 := Tryd.zeroValue83
  t127 := Tryd.underlying92
  a127 := Tryd.isAgg92
  z127 := Tryd.sizeOf92
  v127 := Tryd.zeroValue92
  t164 := Tryd.underlying100
  a164 := Tryd.isAgg100
  z164 := Tryd.sizeOf100
  v164 := Tryd.zeroValue100 }
theorem shp_Builder_Extra_156 : Builder.Extra Tryd.prog shp_lays156_ren := {
  sizeBuilder := by kernel_rfl
  liesBuilder := by kernel_rfl
  t5 := Tryd.underlying5
  a5 := Tryd.isAgg5
  z5 := Tryd.sizeOf5
  v5 := Tryd.zeroValue5
  infoByte := by kernel_rfl
  cellsByte := by kernel_rfl
  sizeByte := by kernel_rfl
  neB5 := by decide }
theorem shp_strings_Join (bk o c : Nat) (xs : List ByteArray) (sep : ByteArray) (w : World) (hcells : ∀ (j : Nat) x, xs[j]? = some x → w.cell? ⟨bk, o + j, none⟩ = some (.string x)) (hbk : bk < w.heap.size) (hN : xs.length ≤ 140737488355328) (hcap : xs.length ≤ c) (hlen : (Lib.join (xs.map (·.data.toList)) sep.data.toList).length ≤ 140737488355328) :
    Calls Tryd.prog 62 #[.slice (some ⟨bk, o, none⟩) xs.length c, .string sep] w fun e w' => e = .returned (.string ⟨(Lib.join (xs.map (·.data.toList)) sep.data.toList).toArray⟩) ∧ Below w.heap.size w w' := Any.strings_Join shp_lays156 shp_Builder_Extra_156 bk o c xs sep w hcells hbk hN hcap hlen
theorem shp_strings_Join_none (a : Option Addr) (c : Nat) (sep : ByteArray) (w : World) :
    Calls Tryd.prog 62 #[.slice a 0 c, .string sep] w fun e w' => e = .returned (.string ⟨#[]⟩) ∧ w' = w := Any.strings_Join_none shp_lays156 shp_Builder_Extra_156 a c sep w
def shp_laysM171_ren : Go.Shelf.Ren := ⟨fun | 171 => 43 | 243 => 61 | 246 => 65 | 283 => 69 | 284 => 70 | 285 => 71 | 286 => 72 | 129 => 76 | 317 => 75 | 318 => 77 | 319 => 78 | 320 => 79 | 337 => 82 | 338 => 83 | n => n, fun | 3 => 3 | 9 => 9 | 2 => 2 | 4 => 4 | 171 => 86 | 0 => 0 | 53 => 87 | 37 => 58 | 5 => 5 | 173 => 90 | 212 => 95 | 51 => 96 | 20 => 20 | 213 => 97 | 46 => 98 | 232 => 104 | 233 => 105 | n => n, fun | 17 => 0 | 18 => 2 | 19 => 3 | n => n⟩
theorem shp_laysM171 : Go.Proofs.LaysM.n171 Tryd.prog shp_laysM171_ren := {
  mixed := by kernel_rfl
  f129 := Tryd.func76.trans (congrArg some (by kernel_rfl))
  f171 := Tryd.func43.trans (congrArg some (by kernel_rfl))
  f243 := Tryd.func61.trans (congrArg some (by kernel_rfl))
  f246 := Tryd.func65.trans (congrArg some (by kernel_rfl))
  f283 := Tryd.func69.trans (congrArg some (by kernel_rfl))
  f284 := Tryd.func70.trans (congrArg some (by kernel_rfl))
  f285 := Tryd.func71.trans (congrArg some (by kernel_rfl))
  f286 := Tryd.func72.trans (congrArg some (by kernel_rfl))
  f317 := Tryd.func75.trans (congrArg some (by kernel_rfl))
  f318 := Tryd.func77.trans (congrArg some (by kernel_rfl))
  f319 := Tryd.func78.trans (congrArg some (by kernel_rfl))
  f320 := Tryd.func79.trans (congrArg some (by kernel_rfl))
  f337 := Tryd.func82.trans (congrArg some (by kernel_rfl))
  f338 := Tryd.func83.trans (congrArg some (by kernel_rfl))
  t0 := Tryd.underlying0
  a0 := Tryd.isAgg0
  z0 := Tryd.sizeOf0
  v0 := Tryd.zeroValue0
  t2 := Tryd.underlying2
  a2 := Tryd.isAgg2
  z2 := Tryd.sizeOf2
  v2 := Tryd.zeroValue2
  t3 := Tryd.underlying3
  a3 := Tryd.isAgg3
  z3 := Tryd.sizeOf3
  v3 := Tryd.zeroValue3
  t4 := Tryd.underlying4
  a4 := Tryd.isAgg4
  z4 := Tryd.sizeOf4
  v4 := Tryd.zeroValue4
  t5 := Tryd.underlying5
  a5 := Tryd.isAgg5
  z5 := Tryd.sizeOf5
  v5 := Tryd.zeroValue5
  t9 := Tryd.underlying9
  a9 := Tryd.isAgg9
  z9 := Tryd.sizeOf9
  v9 := Tryd.zeroValue9
  t20 := Tryd.underlying20
  a20 := Tryd.isAgg20
  z20 := Tryd.sizeOf20
  v20 := Tryd.zeroValue20
  t37 := Tryd.underlying58
  a37 := Tryd.isAgg58
  z37 := Tryd.sizeOf58
  v37 := Tryd.zeroValue58
  t46 := Tryd.underlying98
  a46 := Tryd.isAgg98
  z46 := Tryd.sizeOf98
  v46 := Tryd.zeroValue98
  t51 := Tryd.underlying96
  a51 := Tryd.isAgg96
  z51 := Tryd.sizeOf96
  v51 := Tryd.zeroValue96
  t53 := Tryd.underlying87
  a53 := Tryd.isAgg87
  z53 := Tryd.sizeOf87
  v53 := Tryd.zeroValue87
  t171 := Tryd.underlying86
  a171 := Tryd.isAgg86
  z171 := Tryd.sizeOf86
  v171 := Tryd.zeroValue86
  t173 := Tryd.underlying90
  a173 := Tryd.isAgg90
  z173 := Tryd.sizeOf90
  v173 := Tryd.zeroValue90
  t212 := Tryd.underlying95
  a212 := Tryd.isAgg95
  z212 := Tryd.sizeOf95
  v212 := Tryd.zeroValue95
  t213 := Tryd.underlying97
  a213 := Tryd.isAgg97
  z213 := Tryd.sizeOf97
  t232 := Tryd.underlying104
  a232 := Tryd.isAgg104
  z232 := Tryd.sizeOf104
  v232 := Tryd.zeroValue104
  t233 := Tryd.underlying105
  a233 := Tryd.isAgg105
  z233 := Tryd.sizeOf105
  v233 := Tryd.zeroValue105
  g17 := by kernel_rfl
  g18 := by kernel_rfl
  g19 := by kernel_rfl
  i0 := by kernel_rfl
  i2 := by kernel_rfl
  i3 := by kernel_rfl
  i4 := by kernel_rfl
  i5 := by kernel_rfl
  i9 := by kernel_rfl
  i20 := by kernel_rfl
  i37 := by kernel_rfl
  i46 := by kernel_rfl
  i51 := by kernel_rfl
  i53 := by kernel_rfl
  i171 := by kernel_rfl
  i173 := by kernel_rfl
  i212 := by kernel_rfl
  i232 := by kernel_rfl
  i233 := by kernel_rfl
  m17 := by kernel_rfl
  m18 := by kernel_rfl
  m19 := by kernel_rfl }
theorem shp_strconv_Itoa (n : Int) (h0 : -9223372036854775808 ≤ n) (h1 : n ≤ 9223372036854775807) (w : World) (htab : Lib.TabIs Tryd.prog w "internal/strconv.uint64pow10" .u64 Lib.pow10Tab) :
    Calls Tryd.prog 43 #[.int .i64 n] w fun e w' => e = .returned (.string ⟨(Lib.itoa n).toArray⟩) ∧ ∃ k os, w' = grow (w.drewN k) os := Any.strconv_Itoa shp_laysM171 n h0 h1 w htab
end Go.Proofs.YtiefkcaplhnnmaaDoor
namespace Go.Proofs.YtiefkcaplhnnmaaDoor
set_option maxRecDepth 100000
open Go.RowKit Go.Sort
theorem en_43 : EnterOK Tryd.prog 43 := ⟨_, Tryd.func43, by kernel_rfl, rfl⟩
theorem en_62 : EnterOK Tryd.prog 62 := ⟨_, Tryd.func62, by kernel_rfl, rfl⟩
theorem u8_wrap {x : Int} (h : 0 ≤ x ∧ x ≤ 255) : IntKind.u8.wrap x = x := by rw [IntKind.wrap_u8]; omega
/-- A part of the heap bears the table of powers of ten. -/
def PowR (h : PH) : Prop := ∀ w : World, PLe h (hp w) → Lib.TabIs Tryd.prog w "internal/strconv.uint64pow10" .u64 Lib.pow10Tab
theorem PowR.mono {h h' : PH} (r : PowR h) (l : PLe h h') : PowR h' := fun w hw => r w (l.trans hw)
theorem pow_start {w : World} (h : Lib.TabIs Tryd.prog w "internal/strconv.uint64pow10" .u64 Lib.pow10Tab) : PowR (hp w) := fun w' hw => by
  unfold Lib.TabIs World.var? at h ⊢
  cases hg : Tryd.prog.globalNamed "internal/strconv.uint64pow10" with
  | none => rw [hg] at h; cases h
  | some g =>
    rw [hg] at h; simp only [Option.bind_some] at h ⊢
    split at h
    · rename_i cs t f hh
      have := hw g _ hh; simp only [hp] at this; rw [this]; exact h
    · cases h
theorem upd_grow (w : World) (k : Nat) (os : Array Obj) : Upd emp emp w (grow (w.drewN k) os) := by
  refine ⟨rfl, rfl, rfl, ?_, fun j hj _ => ?_, PLe.emp _, fun _ _ e => nomatch e⟩
  · simp [grow, World.drewN]
  · simp only [grow, World.drewN]; rw [Array.getElem?_append_left hj]
theorem upd_below {w w' : World} (h : Below w.heap.size w w') : Upd emp emp w w' :=
  ⟨h.os, h.tape, h.output, h.size, fun k hk _ => h.block k hk, PLe.emp _, fun _ _ e => nomatch e⟩
theorem ct_lib_Itoa (n : Int) (w : World) (tb : PowR (hp w)) (hn : I64 n) : Calls Tryd.prog 43 [num n].toArray w (RetV w (strV (Lib.itoa n))) :=
  (shp_strconv_Itoa n hn.1 hn.2 w (tb w (PLe.refl _))).mono fun e w' ⟨he, k, os, hw⟩ => by
    subst he; subst hw; exact ⟨rfl, upd_grow w k os⟩
theorem str_lists (xs : List (List UInt8)) : (xs.map fun x => (⟨x.toArray⟩ : ByteArray)).map (·.data.toList) = xs := by
  rw [List.map_map]; have : (fun s : ByteArray => s.data.toList) ∘ (fun x : List UInt8 => (⟨x.toArray⟩ : ByteArray)) = id := by
    funext x; simp
  rw [this, List.map_id]
theorem ct_lib_Join (xs : List (List UInt8)) (sep : List UInt8) (v : Value) (w : World) (r : StrsR xs v (hp w)) (hs : xs.length ≤ 1048576) (hl : (Lib.join xs sep).length ≤ 140737488355328) : Calls Tryd.prog 62 [v, strV sep].toArray w (RetV w (strV (Lib.join xs sep))) := by
  obtain ⟨hcl, a, c, rfl, ⟨_, hc⟩, h4⟩ := r
  by_cases h0 : xs.length = 0
  · have e0 : xs = [] := List.eq_nil_of_length_eq_zero h0; subst e0; refine (shp_strings_Join_none a c ⟨sep.toArray⟩ w).mono ?_; rintro e w' ⟨rfl, rfl⟩; exact ⟨rfl, Upd.refl _⟩
  · obtain ⟨b, o, rfl, hcell⟩ := h4 (by omega); have hx : ∀ (j : Nat) (x : ByteArray), (xs.map fun x => (⟨x.toArray⟩ : ByteArray))[j]? = some x → w.cell? ⟨b, o + j, none⟩ = some (.string x) := fun j x hj => by
      rw [← cellP_hp]; refine hcell j _ ?_; simp only [List.getElem?_map, Option.map_eq_some_iff] at hj; obtain ⟨y, hy, rfl⟩ := hj
      simp [strs, strV, hy]
    have hb : b < w.heap.size := by
      have hg := strs_get (xs := xs) (k := 0) (by omega); have := hcell 0 _ hg
      unfold cellP hp at this
      rcases Nat.lt_or_ge b w.heap.size with h | h
      · exact h
      · rw [Array.getElem?_eq_none h] at this; cases this
    have h := shp_strings_Join b o c (xs.map fun x => (⟨x.toArray⟩ : ByteArray)) ⟨sep.toArray⟩ w hx hb (by rw [List.length_map]; omega) (by rw [List.length_map]; exact hc) (by rw [str_lists]; exact hl); rw [List.length_map, str_lists] at h; refine h.mono ?_; rintro e w' ⟨rfl, hw⟩; exact ⟨rfl, upd_below hw⟩
end Go.Proofs.YtiefkcaplhnnmaaDoor
namespace Go.Proofs.YtiefkcaplhnnmaaDoor
set_option maxRecDepth 100000
open Go.RowKit
theorem dec_small {u : Nat} (h : u < 10) : Lib.decDigits u = [UInt8.ofNat (48 + u)] := by rw [Lib.decDigits, dif_pos h]
theorem dec_big {u : Nat} (h : ¬ u < 10) : Lib.decDigits u = Lib.decDigits (u / 10) ++ [UInt8.ofNat (48 + u % 10)] := by rw [Lib.decDigits, dif_neg h]
theorem itoa_len {n : Int} (h : I64 n) : (Lib.itoa n).length ≤ 21 := Lib.itoa_length_le n h.1 h.2
theorem itoa_pos {n : Int} (h : 0 ≤ n) : Lib.itoa n = Lib.decDigits n.toNat := by rw [Lib.itoa, if_neg (by omega)]
theorem td10 (u : Nat) : (u : Int).tdiv 10 = ((u / 10 : Nat) : Int) := (Int.ofNat_tdiv u 10).symm
theorem tm10 (u : Nat) : (u : Int).tmod 10 = ((u % 10 : Nat) : Int) := (Int.ofNat_tmod u 10).symm
theorem itoa_neg1 {n : Int} (h : n < 0) (h2 : n.tdiv 10 = 0) : Lib.itoa n = [45] ++ [UInt8.ofNat (48 - n).toNat] := by
  have e : n = -(n.natAbs : Int) := by omega
  have h3 : n.natAbs < 10 := by
    rw [e, Int.neg_tdiv, td10] at h2
    omega
  rw [Lib.itoa, if_pos h, dec_small h3, show (48 - n).toNat = 48 + n.natAbs by omega]
  rfl
theorem itoa_neg2 {n : Int} (h : n < 0) (h2 : n.tdiv 10 ≠ 0) : n.tdiv 10 < 0 ∧ Lib.itoa n = Lib.itoa (n.tdiv 10) ++ [UInt8.ofNat (48 - n.tmod 10).toNat] := by
  have e : n = -(n.natAbs : Int) := by omega
  have ed : n.tdiv 10 = -((n.natAbs / 10 : Nat) : Int) := by
    conv => lhs; rw [e, Int.neg_tdiv, td10]
  have em : n.tmod 10 = -((n.natAbs % 10 : Nat) : Int) := by
    conv => lhs; rw [e, Int.neg_tmod, tm10]
  have h3 : n.natAbs / 10 ≠ 0 := fun e0 => h2 (by rw [ed, e0]; rfl); have h4 : n.tdiv 10 < 0 := by omega
  refine ⟨h4, ?_⟩; rw [Lib.itoa, if_pos h, Lib.itoa, if_pos h4, dec_big (by omega), show (n.tdiv 10).natAbs = n.natAbs / 10 by omega, show (48 - n.tmod 10).toNat = 48 + n.natAbs % 10 by omega]
  rfl
theorem tmod_nn {n : Int} (h : 0 ≤ n) : 0 ≤ n.tmod 10 ∧ n.tmod 10 ≤ 9 ∧ (n.tmod 10).toNat = n.toNat % 10 ∧ 0 ≤ n.tdiv 10 ∧ n.tdiv 10 ≤ n ∧ (n.tdiv 10).toNat = n.toNat / 10 := by
  obtain ⟨u, rfl⟩ : ∃ u : Nat, n = u := ⟨n.toNat, by omega⟩
  have ed : (u : Int).tdiv 10 = ((u / 10 : Nat) : Int) := (Int.ofNat_tdiv u 10).symm; have em : (u : Int).tmod 10 = ((u % 10 : Nat) : Int) := (Int.ofNat_tmod u 10).symm; rw [ed, em]
  omega
theorem tmod_neg {n : Int} (h : n < 0) : -9 ≤ n.tmod 10 ∧ n.tmod 10 ≤ 0 ∧ n ≤ n.tdiv 10 ∧ n.tdiv 10 ≤ 0 ∧ (n.tdiv 10).natAbs < n.natAbs ∧ (n.tdiv 10 = 0 → -9 ≤ n) := by
  have e : n = -(n.natAbs : Int) := by omega
  have ed : n.tdiv 10 = -((n.natAbs / 10 : Nat) : Int) := by
    conv => lhs; rw [e, Int.neg_tdiv, td10]
  have em : n.tmod 10 = -((n.natAbs % 10 : Nat) : Int) := by
    conv => lhs; rw [e, Int.neg_tmod, tm10]
  rw [ed, em]
  omega
set_option maxHeartbeats 1000000 in
theorem ct_q_FormatInt (n : Int) (w : World) (hn : I64 n) (ih : ∀ (m : Int) (w : World), m.natAbs < n.natAbs → I64 m → Calls Tryd.prog 13 [num m].toArray w (RetV w (strV (Lib.itoa m)))) :
    Calls Tryd.prog 13 [num n].toArray w (RetV w (strV (Lib.itoa n))) := by
  have hn1 := hn.1; have hn2 := hn.2; refine calls_in Tryd.func13 rfl Tryd.ntmps13 rfl (Sat.start w) (wp_sc (wp_sq (sq_v rfl (v_assign rfl) rfl (sq_end (qs_n (wp_sc (wp_sc (wp_sq (sq_v rfl (v_move rfl) rfl (sq_v rfl (v_lss rfl rfl) rfl (sq_end (qs_n ?_)))))))))))); refine wp_cd rfl (fun c5 => ?_) (fun c5 => ?_)
  · refine wp_sc (wp_sc (wp_sq (sq_v rfl (v_move rfl) rfl ?_))); have htn := tmod_neg (n := n) (by omega); refine sq_v rfl (v_quo rfl rfl (by omega) (by unfold I64; omega)) rfl ?_; refine sq_v rfl (v_eql rfl rfl) rfl (sq_end (qs_n ?_)); refine wp_cd rfl (fun c8 => ?_) (fun c8 => ?_)
    · refine wp_sc (wp_sq (sq_v rfl (v_move rfl) rfl ?_)); have hn9 := htn.2.2.2.2.2 c8; refine sq_v rfl (v_sub rfl rfl ((by unfold I64; omega))) rfl ?_; refine sq_v rfl (v_convK rfl Tryd.underlying5 rfl (u8_wrap (by omega))) rfl ?_; refine sq_x rfl (x_buildS [.int .u8 (48 - n)] Tryd.underlying58 ty_5 (by decide) rfl rfl rfl (by decide) (by decide) (by intro v hv; simp at hv; subst hv; rfl)) rfl ?_; intro v12 h12 (r12 : RowO 5 [.int .u8 (48 - n)] 1 1 v12 h12); refine sq_v rfl (v_convS 0 Tryd.underlying58 Tryd.underlying5 Tryd.underlying9 rfl rfl r12.toR) rfl ?_; refine sq_v rfl (v_addS rfl rfl (by first | omega | (simp only [List.length_append, List.length_cons, List.length_nil]; omega))) rfl ?_; refine sq_v rfl (v_assign rfl) rfl (sq_end (qs_n (wp_rt (qs_r (qs_r ?_))))); exact qs_ret1 rfl rfl (fin_q (i := 1) rfl (by rw [itoa_neg1 (by omega) c8]))
    · refine wp_sk (qs_n (wp_sc ?_)); refine wp_ra (σ := PH × Value) 11 (fun z_ => RowO 5 [.int .u8 (48 - (n.tmod 10))] 1 1 z_.2 z_.1) (fun z_ => [(0, num n), (2, strV ((Lib.itoa (n.tdiv 10)) ++ [UInt8.ofNat (48 - (n.tmod 10)).toNat])), (5, .bool (decide ((n : Int) < 0))), (8, .bool (decide ((n.tdiv 10 : Int) = 0)))]) (fun z_ => [z_.1, hp w]) mixed_ok (by kernel_rfl) ?_ ?_
      · refine ra_v (i := 0) (by kernel_rfl) rfl rfl (v_move rfl) rfl ?_; refine ra_v (i := 1) (by kernel_rfl) rfl rfl (v_quo rfl rfl (by omega) (by unfold I64; omega)) rfl ?_; refine ra_v (i := 3) (by kernel_rfl) rfl rfl (v_move rfl) rfl (ra_v (i := 4) (by kernel_rfl) rfl rfl (v_rem rfl rfl (by omega)) rfl ?_); refine ra_v (i := 5) (by kernel_rfl) rfl rfl (v_sub rfl rfl ((by unfold I64; omega))) rfl ?_; refine ra_v (i := 6) (by kernel_rfl) rfl rfl (v_convK rfl Tryd.underlying5 rfl (u8_wrap (by omega))) rfl ?_; refine ra_2 (i := 2) (j := 7) (by kernel_rfl) ?_ ?_
        · refine ro_u rfl rfl (x_callv rfl en_13 (fun w s => ih (n.tdiv 10) w (by omega) ⟨by omega, by omega⟩)) rfl (ra_rj [(7, false), (8, true), (9, true), (10, true)] (by kernel_rfl) rfl ?_); refine rj_x rfl rfl (x_buildS [.int .u8 (48 - (n.tmod 10))] Tryd.underlying58 ty_5 (by decide) rfl rfl rfl (by decide) (by decide) (by intro v hv; simp at hv; subst hv; rfl)) rfl ?_; intro v22 h22 (r22 : RowO 5 [.int .u8 (48 - (n.tmod 10))] 1 1 v22 h22); refine rj_v rfl rfl (v_convS 0 Tryd.underlying58 Tryd.underlying5 Tryd.underlying9 rfl rfl r22.toR) rfl ?_; have hil := itoa_len (n := n.tdiv 10) ⟨by omega, by omega⟩; refine rj_v rfl rfl (v_addS rfl rfl (by first | omega | (simp only [List.length_append, List.length_cons, List.length_nil]; omega))) rfl ?_; refine rj_v rfl rfl (v_assign rfl) rfl (rj_end ?_); exact qs_mid (h22, v22) (r22) ⟨rfl, rfl, rfl, rfl, trivial⟩ (fun _ s => s.pick [0, 1] (by decide) rfl)
        · refine ro_x rfl rfl (x_buildS [.int .u8 (48 - (n.tmod 10))] Tryd.underlying58 ty_5 (by decide) rfl rfl rfl (by decide) (by decide) (by intro v hv; simp at hv; subst hv; rfl)) rfl ?_; intro v22 h22 (r22 : RowO 5 [.int .u8 (48 - (n.tmod 10))] 1 1 v22 h22); refine ra_rj [(8, true), (2, false), (9, true), (10, true)] (by kernel_rfl) rfl (rj_v rfl rfl (v_convS 0 Tryd.underlying58 Tryd.underlying5 Tryd.underlying9 rfl rfl r22.toR) rfl (rj_u rfl rfl (x_callv rfl en_13 (fun w s => ih (n.tdiv 10) w (by omega) ⟨by omega, by omega⟩)) rfl ?_)); have hil := itoa_len (n := n.tdiv 10) ⟨by omega, by omega⟩; refine rj_v rfl rfl (v_addS rfl rfl (by first | omega | (simp only [List.length_append, List.length_cons, List.length_nil]; omega))) rfl ?_; refine rj_v rfl rfl (v_assign rfl) rfl (rj_end ?_); exact qs_mid (h22, v22) (r22) ⟨rfl, rfl, rfl, rfl, trivial⟩ (fun _ s => s.pick [0, 1] (by decide) rfl)
      · rintro ⟨h22, v22⟩ r22; dsimp only at r22 ⊢; refine qs_n (wp_rt (qs_r ?_)); exact qs_ret1 rfl rfl (fin_q (i := 1) rfl (by rw [(itoa_neg2 (by omega) c8).2]))
  · refine wp_sk (qs_n (wp_sc (wp_sq (sq_v rfl (v_assign rfl) rfl (sq_end (qs_n (wp_sc (wp_bl ?_)))))))); refine wp_lp (σ := Int × (List UInt8)) (fun z_ => [(0, num z_.1), (2, strV []), (3, strV z_.2)]) (fun z_ => [hp w]) (fun z_ => (0 ≤ z_.1 ∧ z_.1 ≤ n) ∧ Lib.itoa n = Lib.decDigits z_.1.toNat ++ z_.2) (fun z_ => z_.1.toNat) (n, []) (⟨by (try dsimp only); omega, by (try dsimp only); rw [itoa_pos (by omega), List.append_nil]⟩) ⟨(by first | rfl | exact ksub rfl (by first | omega | (simp; done) | (simp; omega))), rfl, (by first | rfl | exact ksub rfl (by first | omega | (simp; done) | (simp; omega))), trivial⟩ (fun _ s => s) ?_; rintro ⟨v, st⟩ ⟨hv, hs⟩; dsimp only at hv hs ⊢; have htv := tmod_nn hv.1; have hsl : st.length ≤ 21 := by have h9 := itoa_len hn; rw [hs, List.length_append] at h9; omega
    refine wp_sc (wp_sc (wp_sq (sq_v rfl (v_move rfl) rfl (sq_v rfl (v_gtr rfl rfl) rfl (sq_end (qs_n ?_)))))); refine wp_cd rfl (fun c26 => ?_) (fun c26 => ?_)
    · refine wp_sk (qs_n (wp_bl (wp_sc (wp_sq (sq_v rfl (v_move rfl) rfl (sq_v rfl (v_rem rfl rfl (by omega)) rfl ?_)))))); refine sq_v rfl (v_add rfl rfl ((by unfold I64; omega))) rfl ?_; refine sq_v rfl (v_convK rfl Tryd.underlying5 rfl (u8_wrap (by omega))) rfl ?_; refine sq_x rfl (x_buildS [.int .u8 (48 + (v.tmod 10))] Tryd.underlying58 ty_5 (by decide) rfl rfl rfl (by decide) (by decide) (by intro v hv; simp at hv; subst hv; rfl)) rfl ?_; intro v31 h31 (r31 : RowO 5 [.int .u8 (48 + (v.tmod 10))] 1 1 v31 h31); refine sq_v rfl (v_convS 0 Tryd.underlying58 Tryd.underlying5 Tryd.underlying9 rfl rfl r31.toR) rfl (sq_v rfl (v_move rfl) rfl ?_); refine sq_v rfl (v_addS rfl rfl (by first | omega | (simp only [List.length_append, List.length_cons, List.length_nil]; omega))) rfl ?_; refine sq_v rfl (v_assign rfl) rfl (sq_end (qs_n (wp_sq (sq_v rfl (v_move rfl) rfl ?_)))); refine sq_v rfl (v_quo rfl rfl (by omega) (by unfold I64; omega)) rfl ?_; refine sq_v rfl (v_assign rfl) rfl (sq_end (qs_bn ?_)); exact qs_bk (v.tdiv 10, [UInt8.ofNat (48 + v.tmod 10).toNat] ++ st) ⟨by (try dsimp only); omega, by (try dsimp only); rw [hs, dec_big (by omega), List.append_assoc, htv.2.2.2.2.2, show (48 + v.tmod 10).toNat = 48 + v.toNat % 10 by omega]⟩ (by simp only; omega) ⟨(by first | rfl | exact ksub rfl (by first | omega | (simp; done) | (simp; omega))), rfl, (by first | rfl | exact ksub rfl (by first | omega | (simp; done) | (simp; omega))), trivial⟩ (fun _ s => s.pick [1] (by decide) rfl)
    · refine wp_ex (qs_x (qs_x (qs_bx (qs_n (wp_sc (wp_sq (sq_v rfl (v_move rfl) rfl ?_))))))); refine sq_v rfl (v_add rfl rfl ((by unfold I64; omega))) rfl ?_; refine sq_v rfl (v_convK rfl Tryd.underlying5 rfl (u8_wrap (by omega))) rfl ?_; refine sq_x rfl (x_buildS [.int .u8 (48 + v)] Tryd.underlying58 ty_5 (by decide) rfl rfl rfl (by decide) (by decide) (by intro v hv; simp at hv; subst hv; rfl)) rfl ?_; intro v40 h40 (r40 : RowO 5 [.int .u8 (48 + v)] 1 1 v40 h40); refine sq_v rfl (v_convS 0 Tryd.underlying58 Tryd.underlying5 Tryd.underlying9 rfl rfl r40.toR) rfl (sq_v rfl (v_move rfl) rfl ?_); refine sq_v rfl (v_addS rfl rfl (by first | omega | (simp only [List.length_append, List.length_cons, List.length_nil]; omega))) rfl ?_; refine sq_v rfl (v_assign rfl) rfl (sq_end (qs_n (wp_rt ?_))); exact qs_ret1 rfl rfl (fin_q (i := 1) rfl (by rw [hs, dec_small (by omega), show (48 + v).toNat = 48 + v.toNat by omega]))
theorem ct_s_FormatInt (n : Int) (w : World) (hn : I64 n) : Calls Tryd.prog 13 [num n].toArray w (RetV w (strV (Lib.itoa n))) := by
  have key : ∀ (f : Nat) (n : Int) (w : World), n.natAbs < f → I64 n → Calls Tryd.prog 13 [num n].toArray w (RetV w (strV (Lib.itoa n))) := fun f => by
    induction f with
    | zero => intro n w h; omega
    | succ f ih => intro n w h hn; exact ct_q_FormatInt n w hn fun m w hm hm2 => ih m w (by omega) hm2
  exact key (n.natAbs + 1) n w (by omega) hn
theorem ct_i_FormatInt (n : Int) (w : World) (tb : PowR (hp w)) (hn : I64 n) : Calls Tryd.prog 20 [num n].toArray w (RetV w (strV (Lib.itoa n))) := by
  refine calls_in Tryd.func20 rfl Tryd.ntmps20 rfl (Sat.start w) (wp_sc (wp_sq (sq_v rfl (v_assign rfl) rfl (sq_end (qs_n (wp_sc (wp_sq (sq_v rfl (v_move rfl) rfl (sq_u rfl (x_callv rfl en_43 (fun w s => ct_lib_Itoa _ w (tb.mono (s.get 0 rfl)) (by first | assumption | omega))) rfl (sq_v rfl (v_assign rfl) rfl (sq_end (qs_n (wp_rt ?_))))))))))))); exact qs_ret1 rfl rfl (fin_q (i := 0) rfl (rfl))
/-- A text, or none. -/
def ifT (b : Bool) (x : List UInt8) : List UInt8 := if b then x else []
theorem join_snoc {xs : List (List UInt8)} {x sep : List UInt8} (h : xs ≠ []) : Lib.join (xs ++ [x]) sep = Lib.join xs sep ++ sep ++ x := by
  match xs, h with
  | y :: r, _ =>
    rw [List.cons_append, Lib.join_cons, Lib.join_cons, Lib.joinTail, Lib.joinTail, List.map_append, List.flatten_append]
    simp
theorem ct_s_Join (xs : List (List UInt8)) (sep : List UInt8) (v : Value) (w : World) (r : StrsR xs v (hp w)) (hl : ∀ i, i ≤ xs.length → (Lib.join (xs.take i) sep).length ≤ 1000000000) (hsp : sep.length ≤ 1000) (hx : ∀ x ∈ xs, x.length ≤ 1000000000) :
    Calls Tryd.prog 35 [v, strV sep].toArray w (RetV w (strV (Lib.join xs sep))) := by
  refine calls_in Tryd.func35 rfl Tryd.ntmps35 rfl (Sat.start w) ?_; have hle0 := r.le; refine wp_sc (wp_sq (sq_v rfl (v_assign rfl) rfl (sq_end (qs_n (wp_sc (wp_sq (sq_v rfl (v_assign rfl) rfl (sq_end (qs_n (wp_sc (wp_sc (wp_sq (sq_v rfl (v_move rfl) rfl (sq_v rfl (v_len Tryd.underlying59 rfl r.sl) rfl (sq_v rfl (v_move rfl) rfl (sq_end (qs_n (wp_bl ?_)))))))))))))))))); refine wp_lp (σ := Nat × (List UInt8)) (fun z_ => [(1, strV sep), (4, strV []), (5, strV z_.2), (8, v), (9, num xs.length), (10, num z_.1)]) (fun z_ => [hp w]) (fun z_ => z_.1 ≤ xs.length ∧ z_.2 = Lib.join (xs.take z_.1) sep) (fun z_ => xs.length - z_.1) (0, []) (⟨by (try dsimp only); omega, by (try dsimp only); rw [List.take_zero]; rfl⟩) ⟨rfl, rfl, (by first | rfl | exact ksub rfl (by first | omega | (simp; done) | (simp; omega))), rfl, rfl, (by first | rfl | exact ksub rfl (by first | omega | (simp; done) | (simp; omega))), trivial⟩ (fun _ s => s) ?_; rintro ⟨i, st⟩ ⟨hi, hs⟩; dsimp only at hi hs ⊢; have hsl : st.length ≤ 1000000000 := by rw [hs]; exact hl i hi
  refine wp_sc (wp_sq (sq_v rfl (v_lss rfl rfl) rfl (sq_end (qs_n (wp_sc ?_))))); refine wp_cd rfl (fun c11 => ?_) (fun c11 => ?_)
  · refine wp_sk (qs_n (wp_sc (wp_bl (wp_sc (wp_sq (sq_v rfl (v_move rfl) rfl ?_)))))); refine sq_v rfl (v_idxU Tryd.underlying59 ty_9 rfl rfl r (by first | omega | (simp; omega) | (simp only [List.length_append, List.length_cons, List.length_nil]; omega) | (rw [List.length_set]; omega)) (by first | omega | (simp; omega) | (simp only [List.length_append, List.length_cons, List.length_nil]; omega) | (rw [List.length_set]; omega))) rfl ?_; refine sq_v rfl (v_loadU (k := i) 0 ty_9 rfl rfl r (by first | omega | (simp; omega) | (simp only [List.length_append, List.length_cons, List.length_nil]; omega) | (rw [List.length_set]; omega))) rfl ?_; refine sq_v rfl (v_assign rfl) rfl (sq_v rfl (v_assign rfl) rfl (sq_end ?_)); have hxi : (xs.getD i []).length ≤ 1000000000 := hx _ (by simp [List.getD, show i < xs.length by omega]); have etk : xs.take (i + 1) = xs.take i ++ [xs.getD i []] := by rw [List.take_succ_eq_append_getElem (by omega)]; simp [List.getD, show i < xs.length by omega]
    refine qs_n (wp_sc (wp_sc (wp_sq (sq_v rfl (v_move rfl) rfl (sq_v rfl (v_gtr rfl rfl) rfl (sq_end (qs_n ?_))))))); refine wp_cd rfl (fun c16 => ?_) (fun c16 => ?_)
    · refine wp_sq (sq_v rfl (v_move rfl) rfl (sq_v rfl (v_move rfl) rfl ?_)); refine sq_v rfl (v_addS rfl rfl (by first | omega | (simp only [List.length_append, List.length_cons, List.length_nil]; omega))) rfl ?_; refine sq_v rfl (v_assign rfl) rfl (sq_end (qs_n (wp_sq (sq_v rfl (v_move rfl) rfl (sq_v rfl (v_move rfl) rfl ?_))))); refine sq_v rfl (v_addS rfl rfl (by first | omega | (simp only [List.length_append, List.length_cons, List.length_nil]; omega))) rfl ?_; refine sq_v rfl (v_assign rfl) rfl (sq_end (qs_bn (qs_n (wp_sq ?_)))); refine sq_v rfl (v_add rfl rfl ((by unfold I64; omega))) rfl ?_; refine sq_v rfl (v_move rfl) rfl (sq_end ?_); exact qs_bk (i + 1, st ++ sep ++ xs.getD i []) ⟨by (try dsimp only); omega, by (try dsimp only); rw [etk, join_snoc (by intro e; have := congrArg List.length e; rw [List.length_take, List.length_nil] at this; omega), hs]⟩ (by simp only; omega) ⟨rfl, rfl, (by first | rfl | exact ksub rfl (by first | omega | (simp; done) | (simp; omega))), rfl, rfl, (by first | rfl | exact ksub rfl (by first | omega | (simp; done) | (simp; omega))), trivial⟩ (fun _ s => s)
    · refine wp_sk (qs_n (wp_sq (sq_v rfl (v_move rfl) rfl (sq_v rfl (v_move rfl) rfl ?_)))); refine sq_v rfl (v_addS rfl rfl (by first | omega | (simp only [List.length_append, List.length_cons, List.length_nil]; omega))) rfl ?_; refine sq_v rfl (v_assign rfl) rfl (sq_end (qs_bn (qs_n (wp_sq ?_)))); refine sq_v rfl (v_add rfl rfl ((by unfold I64; omega))) rfl ?_; refine sq_v rfl (v_move rfl) rfl (sq_end ?_); exact qs_bk (i + 1, st ++ xs.getD i []) ⟨by (try dsimp only); omega, by (try dsimp only); have e0 : i = 0 := (by omega); subst e0; rw [etk, hs, List.take_zero, List.nil_append, Lib.join_one]; rfl⟩ (by simp only; omega) ⟨rfl, rfl, (by first | rfl | exact ksub rfl (by first | omega | (simp; done) | (simp; omega))), rfl, rfl, (by first | rfl | exact ksub rfl (by first | omega | (simp; done) | (simp; omega))), trivial⟩ (fun _ s => s)
  · refine wp_ex (qs_x (qs_x (qs_bx (qs_n (wp_sc (wp_sq (sq_v rfl (v_move rfl) rfl (sq_v rfl (v_assign rfl) rfl (sq_end (qs_n (wp_rt ?_))))))))))); exact qs_ret1 rfl rfl (fin_q (i := 0) rfl (by rw [hs, List.take_of_length_le (by omega)]))
theorem ct_i_Join (xs : List (List UInt8)) (sep : List UInt8) (v : Value) (w : World) (r : StrsR xs v (hp w)) (hs : xs.length ≤ 1048576) (hl : (Lib.join xs sep).length ≤ 140737488355328) :
    Calls Tryd.prog 47 [v, strV sep].toArray w (RetV w (strV (Lib.join xs sep))) := by
  refine calls_in Tryd.func47 rfl Tryd.ntmps47 rfl (Sat.start w) ?_; have hle0 := r.le; refine wp_sc (wp_sq (sq_v rfl (v_assign rfl) rfl (sq_end (qs_n (wp_sc (wp_sq (sq_v rfl (v_move rfl) rfl (sq_v rfl (v_move rfl) rfl (sq_u rfl (x_callv rfl en_62 (fun w s => ct_lib_Join _ _ _ w (r.mono (s.get 0 rfl)) (by first | assumption | omega) (by first | assumption | omega))) rfl (sq_v rfl (v_assign rfl) rfl (sq_end (qs_n (wp_rt ?_))))))))))))); exact qs_ret1 rfl rfl (fin_q (i := 0) rfl (rfl))
end Go.Proofs.YtiefkcaplhnnmaaDoor
namespace Go.Proofs.YtiefkcaplhnnmaaDoor
set_option maxRecDepth 100000
open Go.RowKit

section
variable {P : Program} {n : Nat} {w0 : World} {K : Env} {HS : List PH} {d : Option Tmp} {ty : TypeId} {ps : String} {af : Array Edge} {g : Option (Nat × Bool)}
end
theorem NetO.none : NetO [] [] (.slice none 0 0) (.slice none 0 0) emp :=
  ⟨[], emp, emp, [], ⟨rfl, .inl ⟨rfl, rfl, rfl⟩⟩, IntsO.nil, OwnL.nil, ⟨⟨fun x hx => PDj.emp _, fun x hx => PDj.emp _, trivial⟩, fun x hx => by simp at hx; subst hx; exact PLe.emp _, fun k o e => by cases e⟩⟩
theorem ten_facts {k p n : Int} {t : Ten} (h : tensorL k p n t.l t.d t.x) : dimsIn t.d ∧ 1 ≤ prodI t.d ∧ prodI t.d ≤ 4096 ∧ (t.x.length : Int) = prodI t.d * widthI k n ∧ t.l.length ≤ 12 ∧ t.d.length ≤ 12 := by
  have h1 := sizeI_ge.1 h.2.1; have h2 := sizeI_yes h1.1 h1.2; have h3 := sizeI_range t.l t.d; have h4 := h.2.2.1; have h5 := h.2.1; rw [h2] at h3 h4 h5; exact ⟨axes_dims h1.1, by omega, h1.2, h4, h1.1.1, by have := h1.1.2.1; have := h1.1.1; omega⟩
end Go.Proofs.YtiefkcaplhnnmaaDoor
namespace Go.Proofs.YtiefkcaplhnnmaaDoor
set_option maxRecDepth 100000
open Go.RowKit
def kindT (k : Int) : List UInt8 :=
  if k = 1 then [98, 111, 111, 108] else if k = 2 then [109, 111, 100] else if k = 3 then [99, 97, 112] else if k = 4 then [109, 105, 110] else if k = 5 then [119, 105, 100, 101]
  else if k = 6 then [115, 101, 116] else if k = 7 then [112, 111, 108, 121] else if k = 8 then [111, 109, 101, 103, 97] else []
theorem kindT_len (k : Int) : (kindT k).length ≤ 5 := by
  unfold kindT
  repeat' split
  all_goals decide
def ringT (k p n : Int) : List UInt8 := kindT k ++ (if p ≠ 0 then [32] ++ Lib.itoa p else []) ++ (if n ≠ 0 then [32] ++ Lib.itoa n else [])
theorem ring_kind {k p n : Int} (h : ringL k p n) : (1 ≤ k ∧ k ≤ 8) ∧ 0 ≤ n ∧ n ≤ 20 := by
  unfold ringL at h
  rcases h with h | h | h | h | h | h <;> omega
theorem ringT_len {k p n : Int} (h : ringL k p n) : (ringT k p n).length ≤ 49 := by
  have h1 := kindT_len k; have h2 := ring_p h; have h3 := ring_kind h; have h4 := itoa_len (n := p) ⟨by omega, by omega⟩; have h5 := itoa_len (n := n) ⟨by omega, by omega⟩
  unfold ringT
  split <;> split <;> simp only [List.length_append, List.length_cons, List.length_nil] <;> omega
theorem kind_get {k : Int} (h : 1 ≤ k ∧ k ≤ 8) : ([[], [98, 111, 111, 108], [109, 111, 100], [99, 97, 112], [109, 105, 110], [119, 105, 100, 101], [115, 101, 116], [112, 111, 108, 121], [111, 109, 101, 103, 97]] : List (List UInt8)).getD k.toNat [] = kindT k := by
  have : k = 1 ∨ k = 2 ∨ k = 3 ∨ k = 4 ∨ k = 5 ∨ k = 6 ∨ k = 7 ∨ k = 8 := by omega
  rcases this with rfl | rfl | rfl | rfl | rfl | rfl | rfl | rfl <;> rfl
theorem ct_s_l04Kind (k : Int) (w : World) (hk : 1 ≤ k ∧ k ≤ 8) : Calls Tryd.prog 31 [num k].toArray w (RetV w (strV (kindT k))) := by
  refine calls_in Tryd.func31 rfl Tryd.ntmps31 rfl (Sat.start w) (wp_sc (wp_sq (sq_v rfl (v_assign rfl) rfl (sq_end (qs_n (wp_sc (wp_sq ?_))))))); refine sq_x rfl (x_buildS [strV [], strV [98, 111, 111, 108], strV [109, 111, 100], strV [99, 97, 112], strV [109, 105, 110], strV [119, 105, 100, 101], strV [115, 101, 116], strV [112, 111, 108, 121], strV [111, 109, 101, 103, 97]] Tryd.underlying59 ty_9 (by decide) rfl rfl rfl (by decide) (by decide) (by intro v hv; simp at hv; rcases hv with rfl | rfl | rfl | rfl | rfl | rfl | rfl | rfl | rfl <;> rfl)) rfl ?_; intro v3 h3 (r3 : StrsO [[], [98, 111, 111, 108], [109, 111, 100], [99, 97, 112], [109, 105, 110], [119, 105, 100, 101], [115, 101, 116], [112, 111, 108, 121], [111, 109, 101, 103, 97]] v3 h3); refine sq_v rfl (v_move rfl) rfl ?_; refine sq_v rfl (v_idxU Tryd.underlying59 ty_9 rfl rfl r3.toR (by first | omega | (simp; omega) | (simp only [List.length_append, List.length_cons, List.length_nil]; omega) | (rw [List.length_set]; omega)) (by first | omega | (simp; omega) | (simp only [List.length_append, List.length_cons, List.length_nil]; omega) | (rw [List.length_set]; omega))) rfl ?_; refine sq_v rfl (v_loadU 0 ty_9 rfl rfl r3.toR (by first | omega | (simp; omega) | (simp only [List.length_append, List.length_cons, List.length_nil]; omega) | (rw [List.length_set]; omega))) rfl ?_; refine sq_v rfl (v_assign rfl) rfl (sq_end (qs_n (wp_rt ?_))); exact qs_ret1 rfl rfl (fin_q (i := 1) rfl (by rw [kind_get hk]))
theorem ct_i_ringName (k : Int) (w : World) : Calls Tryd.prog 42 [num k].toArray w (RetV w (strV (kindT k))) := by
  refine calls_in Tryd.func42 rfl Tryd.ntmps42 rfl (Sat.start w) (wp_sc (wp_sq (sq_v rfl (v_assign rfl) rfl (sq_end (qs_n (wp_sc (wp_sc (wp_sq (sq_v rfl (v_move rfl) rfl (sq_end (qs_n (wp_bl (wp_sc (wp_sq (sq_v rfl (v_eql rfl rfl) rfl (sq_v rfl (v_assign rfl) rfl (sq_end (qs_n ?_)))))))))))))))))); refine wp_cd rfl (fun c4 => ?_) (fun c4 => ?_)
  · refine wp_sc (wp_sq (sq_v rfl (v_assign rfl) rfl (sq_end (qs_n (wp_rt (qs_br (qs_r ?_))))))); exact qs_ret1 rfl rfl (fin_q (i := 0) rfl (by subst c4; rfl))
  · refine wp_sc (wp_sq (sq_v rfl (v_eql rfl rfl) rfl (sq_v rfl (v_assign rfl) rfl (sq_end (qs_n ?_))))); refine wp_cd rfl (fun c6 => ?_) (fun c6 => ?_)
    · refine wp_sc (wp_sq (sq_v rfl (v_assign rfl) rfl (sq_end (qs_n (wp_rt (qs_br (qs_r ?_))))))); exact qs_ret1 rfl rfl (fin_q (i := 0) rfl (by subst c6; rfl))
    · refine wp_sc (wp_sq (sq_v rfl (v_eql rfl rfl) rfl (sq_v rfl (v_assign rfl) rfl (sq_end (qs_n ?_))))); refine wp_cd rfl (fun c8 => ?_) (fun c8 => ?_)
      · refine wp_sc (wp_sq (sq_v rfl (v_assign rfl) rfl (sq_end (qs_n (wp_rt (qs_br (qs_r ?_))))))); exact qs_ret1 rfl rfl (fin_q (i := 0) rfl (by subst c8; rfl))
      · refine wp_sc (wp_sq (sq_v rfl (v_eql rfl rfl) rfl (sq_v rfl (v_assign rfl) rfl (sq_end (qs_n ?_))))); refine wp_cd rfl (fun c10 => ?_) (fun c10 => ?_)
        · refine wp_sc (wp_sq (sq_v rfl (v_assign rfl) rfl (sq_end (qs_n (wp_rt (qs_br (qs_r ?_))))))); exact qs_ret1 rfl rfl (fin_q (i := 0) rfl (by subst c10; rfl))
        · refine wp_sc (wp_sq (sq_v rfl (v_eql rfl rfl) rfl (sq_v rfl (v_assign rfl) rfl (sq_end (qs_n ?_))))); refine wp_cd rfl (fun c12 => ?_) (fun c12 => ?_)
          · refine wp_sc (wp_sq (sq_v rfl (v_assign rfl) rfl (sq_end (qs_n (wp_rt (qs_br (qs_r ?_))))))); exact qs_ret1 rfl rfl (fin_q (i := 0) rfl (by subst c12; rfl))
          · refine wp_sc (wp_sq (sq_v rfl (v_eql rfl rfl) rfl (sq_v rfl (v_assign rfl) rfl (sq_end (qs_n ?_))))); refine wp_cd rfl (fun c14 => ?_) (fun c14 => ?_)
            · refine wp_sc (wp_sq (sq_v rfl (v_assign rfl) rfl (sq_end (qs_n (wp_rt (qs_br (qs_r ?_))))))); exact qs_ret1 rfl rfl (fin_q (i := 0) rfl (by subst c14; rfl))
            · refine wp_sc (wp_sq (sq_v rfl (v_eql rfl rfl) rfl (sq_v rfl (v_assign rfl) rfl (sq_end (qs_n ?_))))); refine wp_cd rfl (fun c16 => ?_) (fun c16 => ?_)
              · refine wp_sc (wp_sq (sq_v rfl (v_assign rfl) rfl (sq_end (qs_n (wp_rt (qs_br (qs_r ?_))))))); exact qs_ret1 rfl rfl (fin_q (i := 0) rfl (by subst c16; rfl))
              · refine wp_sc (wp_sq (sq_v rfl (v_eql rfl rfl) rfl (sq_v rfl (v_assign rfl) rfl (sq_end (qs_n ?_))))); refine wp_cd rfl (fun c18 => ?_) (fun c18 => ?_)
                · refine wp_sc (wp_sq (sq_v rfl (v_assign rfl) rfl (sq_end (qs_n (wp_rt (qs_br (qs_r ?_))))))); exact qs_ret1 rfl rfl (fin_q (i := 0) rfl (by subst c18; rfl))
                · refine wp_sk (qs_bn (qs_n (wp_sc (wp_sq (sq_v rfl (v_assign rfl) rfl (sq_end (qs_n (wp_rt ?_)))))))); exact qs_ret1 rfl rfl (fin_q (i := 0) rfl (by unfold kindT; rw [if_neg c4, if_neg c6, if_neg c8, if_neg c10, if_neg c12, if_neg c14, if_neg c16, if_neg c18]; rfl))
theorem ring_txt {k p n : Int} {s : List UInt8} (h : ringB k p n = true) (e : s = ringT k p n) : strV s = strV (ifT (ringB k p n) (ringT k p n)) := by rw [h, e]; rfl
theorem ring_no {k p n : Int} (h : ringB k p n = false) : strV [] = strV (ifT (ringB k p n) (ringT k p n)) := by rw [h]; rfl
theorem ct_s_FormatRing (k p n : Int) (w : World) : Calls Tryd.prog 12 [ringV k p n].toArray w (RetV w (strV (ifT (ringB k p n) (ringT k p n)))) := by
  have h1 := kindT_len k; refine calls_in Tryd.func12 rfl Tryd.ntmps12 rfl (Sat.start w) (wp_sc (wp_sq ?_)); refine sq_x rfl (x_box rfl rfl) rfl ?_; rintro _ _ ⟨b1, rfl, rfl⟩; refine sq_v rfl (v_assign rfl) rfl (sq_end (qs_n (wp_sc (wp_sc (wp_sq (sq_v rfl (v_loadNB 0 ty_30 rfl rfl rfl rfl) rfl (sq_u rfl (x_callv rfl en_26 (fun w s => ct_s_RingOk _ _ _ w)) rfl (sq_v rfl (v_not rfl) rfl (sq_end (qs_n ?_)))))))))); refine wp_cn _ rfl (fun c6 => ?_) (fun c6 => ?_)
  · refine wp_sc (wp_sq (sq_v rfl (v_assign rfl) rfl (sq_end (qs_n (wp_rt (qs_r ?_)))))); exact qs_ret1 rfl rfl (fin_q (i := 1) rfl (ring_no c6))
  · refine wp_sk (qs_n (wp_sc (wp_sq (sq_v rfl (v_fieldAddr fd_30_0 ty_3 (by decide) rfl) rfl (sq_v rfl (v_loadB 0 ty_3 rfl rfl rfl) rfl ?_))))); have hr := ringB_true.1 c6; have h2 := ring_p hr; have h3 := ring_kind hr; have h4 := itoa_len (n := p) ⟨by omega, by omega⟩; have h5 := itoa_len (n := n) ⟨by omega, by omega⟩; have hIp : I64 p := ⟨by omega, by omega⟩; have hIn : I64 n := ⟨by omega, by omega⟩
    refine sq_u rfl (x_callv rfl en_31 (fun w s => ct_s_l04Kind _ w (by first | assumption | omega))) rfl (sq_v rfl (v_assign rfl) rfl (sq_end (qs_n (wp_sc (wp_sc (wp_sq (sq_v rfl (v_fieldAddr fd_30_1 ty_3 (by decide) rfl) rfl (sq_v rfl (v_loadB 0 ty_3 rfl rfl rfl) rfl (sq_v rfl (v_neq rfl rfl) rfl (sq_end (qs_n ?_))))))))))); refine wp_cd rfl (fun c12 => ?_) (fun c12 => ?_)
    · refine wp_sq (sq_v rfl (v_move rfl) rfl ?_); refine sq_v rfl (v_addS rfl rfl (by first | omega | (simp only [List.length_append, List.length_cons, List.length_nil]; omega))) rfl ?_; refine sq_v rfl (v_fieldAddr fd_30_1 ty_3 (by decide) rfl) rfl (sq_v rfl (v_loadB 0 ty_3 rfl rfl rfl) rfl (sq_u rfl (x_callv rfl en_13 (fun w s => ct_s_FormatInt _ w (by first | assumption | omega))) rfl ?_)); refine sq_v rfl (v_addS rfl rfl (by first | omega | (simp only [List.length_append, List.length_cons, List.length_nil]; omega))) rfl ?_; refine sq_v rfl (v_assign rfl) rfl (sq_end (qs_n (wp_sc (wp_sc (wp_sq (sq_v rfl (v_fieldAddr fd_30_2 ty_3 (by decide) rfl) rfl (sq_v rfl (v_loadB 0 ty_3 rfl rfl rfl) rfl (sq_v rfl (v_neq rfl rfl) rfl (sq_end (qs_n ?_)))))))))); refine wp_cd rfl (fun c21 => ?_) (fun c21 => ?_)
      · refine wp_sq (sq_v rfl (v_move rfl) rfl ?_); refine sq_v rfl (v_addS rfl rfl (by first | omega | (simp only [List.length_append, List.length_cons, List.length_nil]; omega))) rfl ?_; refine sq_v rfl (v_fieldAddr fd_30_2 ty_3 (by decide) rfl) rfl (sq_v rfl (v_loadB 0 ty_3 rfl rfl rfl) rfl (sq_u rfl (x_callv rfl en_13 (fun w s => ct_s_FormatInt _ w (by first | assumption | omega))) rfl ?_)); refine sq_v rfl (v_addS rfl rfl (by first | omega | (simp only [List.length_append, List.length_cons, List.length_nil]; omega))) rfl ?_; refine sq_v rfl (v_assign rfl) rfl (sq_end (qs_n (wp_sc (wp_sq (sq_v rfl (v_move rfl) rfl (sq_v rfl (v_assign rfl) rfl (sq_end (qs_n (wp_rt ?_))))))))); exact qs_ret1 rfl rfl (fin_q (i := 1) rfl (ring_txt c6 (by unfold ringT; rw [if_pos c12, if_pos c21] <;> simp)))
      · refine wp_sk (qs_n (wp_sc (wp_sq (sq_v rfl (v_move rfl) rfl (sq_v rfl (v_assign rfl) rfl (sq_end (qs_n (wp_rt ?_)))))))); exact qs_ret1 rfl rfl (fin_q (i := 1) rfl (ring_txt c6 (by unfold ringT; rw [if_pos c12, if_neg c21] <;> simp)))
    · refine wp_sk (qs_n (wp_sc (wp_sc (wp_sq (sq_v rfl (v_fieldAddr fd_30_2 ty_3 (by decide) rfl) rfl (sq_v rfl (v_loadB 0 ty_3 rfl rfl rfl) rfl (sq_v rfl (v_neq rfl rfl) rfl (sq_end (qs_n ?_))))))))); refine wp_cd rfl (fun c21 => ?_) (fun c21 => ?_)
      · refine wp_sq (sq_v rfl (v_move rfl) rfl ?_); refine sq_v rfl (v_addS rfl rfl (by first | omega | (simp only [List.length_append, List.length_cons, List.length_nil]; omega))) rfl ?_; refine sq_v rfl (v_fieldAddr fd_30_2 ty_3 (by decide) rfl) rfl (sq_v rfl (v_loadB 0 ty_3 rfl rfl rfl) rfl (sq_u rfl (x_callv rfl en_13 (fun w s => ct_s_FormatInt _ w (by first | assumption | omega))) rfl ?_)); refine sq_v rfl (v_addS rfl rfl (by first | omega | (simp only [List.length_append, List.length_cons, List.length_nil]; omega))) rfl ?_; refine sq_v rfl (v_assign rfl) rfl (sq_end (qs_n (wp_sc (wp_sq (sq_v rfl (v_move rfl) rfl (sq_v rfl (v_assign rfl) rfl (sq_end (qs_n (wp_rt ?_))))))))); exact qs_ret1 rfl rfl (fin_q (i := 1) rfl (ring_txt c6 (by unfold ringT; rw [if_neg c12, if_pos c21] <;> simp)))
      · refine wp_sk (qs_n (wp_sc (wp_sq (sq_v rfl (v_move rfl) rfl (sq_v rfl (v_assign rfl) rfl (sq_end (qs_n (wp_rt ?_)))))))); exact qs_ret1 rfl rfl (fin_q (i := 1) rfl (ring_txt c6 (by unfold ringT; rw [if_neg c12, if_neg c21] <;> simp)))
theorem ct_i_FormatRing (k p n : Int) (w : World) (tb : PowR (hp w)) : Calls Tryd.prog 19 [ringV k p n].toArray w (RetV w (strV (ifT (ringB k p n) (ringT k p n)))) := by
  have h1 := kindT_len k; refine calls_in Tryd.func19 rfl Tryd.ntmps19 rfl (Sat.start w) (wp_sc (wp_sq ?_)); refine sq_x rfl (x_box rfl rfl) rfl ?_; rintro _ _ ⟨b1, rfl, rfl⟩; refine sq_v rfl (v_assign rfl) rfl (sq_end (qs_n (wp_sc (wp_sc (wp_sq (sq_v rfl (v_loadNB 0 ty_30 rfl rfl rfl rfl) rfl (sq_u rfl (x_callv rfl en_37 (fun w s => ct_i_RingOk _ _ _ w)) rfl (sq_v rfl (v_not rfl) rfl (sq_end (qs_n ?_)))))))))); refine wp_cn _ rfl (fun c6 => ?_) (fun c6 => ?_)
  · refine wp_sc (wp_sq (sq_v rfl (v_assign rfl) rfl (sq_end (qs_n (wp_rt (qs_r ?_)))))); exact qs_ret1 rfl rfl (fin_q (i := 1) rfl (ring_no c6))
  · refine wp_sk (qs_n (wp_sc (wp_sq (sq_v rfl (v_fieldAddr fd_30_0 ty_3 (by decide) rfl) rfl (sq_v rfl (v_loadB 0 ty_3 rfl rfl rfl) rfl ?_))))); have hr := ringB_true.1 c6; have h2 := ring_p hr; have h3 := ring_kind hr; have h4 := itoa_len (n := p) ⟨by omega, by omega⟩; have h5 := itoa_len (n := n) ⟨by omega, by omega⟩; have hIp : I64 p := ⟨by omega, by omega⟩; have hIn : I64 n := ⟨by omega, by omega⟩
    refine sq_u rfl (x_callv rfl en_42 (fun w s => ct_i_ringName _ w)) rfl (sq_v rfl (v_assign rfl) rfl (sq_end (qs_n (wp_sc (wp_sc (wp_sq (sq_v rfl (v_fieldAddr fd_30_1 ty_3 (by decide) rfl) rfl (sq_v rfl (v_loadB 0 ty_3 rfl rfl rfl) rfl (sq_v rfl (v_neq rfl rfl) rfl (sq_end (qs_n ?_))))))))))); refine wp_cd rfl (fun c12 => ?_) (fun c12 => ?_)
    · refine wp_sq (sq_v rfl (v_move rfl) rfl (sq_v rfl (v_fieldAddr fd_30_1 ty_3 (by decide) rfl) rfl (sq_v rfl (v_loadB 0 ty_3 rfl rfl rfl) rfl (sq_u rfl (x_callv rfl en_20 (fun w s => ct_i_FormatInt _ w (tb.mono (s.get 1 rfl)) (by first | assumption | omega))) rfl ?_)))); refine sq_v rfl (v_addS rfl rfl (by first | omega | (simp only [List.length_append, List.length_cons, List.length_nil]; omega))) rfl ?_; refine sq_v rfl (v_addS rfl rfl (by first | omega | (simp only [List.length_append, List.length_cons, List.length_nil]; omega))) rfl ?_; refine sq_v rfl (v_assign rfl) rfl (sq_end (qs_n (wp_sc (wp_sc (wp_sq (sq_v rfl (v_fieldAddr fd_30_2 ty_3 (by decide) rfl) rfl (sq_v rfl (v_loadB 0 ty_3 rfl rfl rfl) rfl (sq_v rfl (v_neq rfl rfl) rfl (sq_end (qs_n ?_)))))))))); refine wp_cd rfl (fun c21 => ?_) (fun c21 => ?_)
      · refine wp_sq (sq_v rfl (v_move rfl) rfl (sq_v rfl (v_fieldAddr fd_30_2 ty_3 (by decide) rfl) rfl (sq_v rfl (v_loadB 0 ty_3 rfl rfl rfl) rfl (sq_u rfl (x_callv rfl en_20 (fun w s => ct_i_FormatInt _ w (tb.mono (s.get 1 rfl)) (by first | assumption | omega))) rfl ?_)))); refine sq_v rfl (v_addS rfl rfl (by first | omega | (simp only [List.length_append, List.length_cons, List.length_nil]; omega))) rfl ?_; refine sq_v rfl (v_addS rfl rfl (by first | omega | (simp only [List.length_append, List.length_cons, List.length_nil]; omega))) rfl ?_; refine sq_v rfl (v_assign rfl) rfl (sq_end (qs_n (wp_sc (wp_sq (sq_v rfl (v_move rfl) rfl (sq_v rfl (v_assign rfl) rfl (sq_end (qs_n (wp_rt ?_))))))))); exact qs_ret1 rfl rfl (fin_q (i := 1) rfl (ring_txt c6 (by unfold ringT; rw [if_pos (by assumption), if_pos (by assumption)] <;> simp)))
      · refine wp_sk (qs_n (wp_sc (wp_sq (sq_v rfl (v_move rfl) rfl (sq_v rfl (v_assign rfl) rfl (sq_end (qs_n (wp_rt ?_)))))))); exact qs_ret1 rfl rfl (fin_q (i := 1) rfl (ring_txt c6 (by unfold ringT; rw [if_pos (by assumption), if_neg (by assumption)] <;> simp)))
    · refine wp_sk (qs_n (wp_sc (wp_sc (wp_sq (sq_v rfl (v_fieldAddr fd_30_2 ty_3 (by decide) rfl) rfl (sq_v rfl (v_loadB 0 ty_3 rfl rfl rfl) rfl (sq_v rfl (v_neq rfl rfl) rfl (sq_end (qs_n ?_))))))))); refine wp_cd rfl (fun c21 => ?_) (fun c21 => ?_)
      · refine wp_sq (sq_v rfl (v_move rfl) rfl (sq_v rfl (v_fieldAddr fd_30_2 ty_3 (by decide) rfl) rfl (sq_v rfl (v_loadB 0 ty_3 rfl rfl rfl) rfl (sq_u rfl (x_callv rfl en_20 (fun w s => ct_i_FormatInt _ w (tb.mono (s.get 1 rfl)) (by first | assumption | omega))) rfl ?_)))); refine sq_v rfl (v_addS rfl rfl (by first | omega | (simp only [List.length_append, List.length_cons, List.length_nil]; omega))) rfl ?_; refine sq_v rfl (v_addS rfl rfl (by first | omega | (simp only [List.length_append, List.length_cons, List.length_nil]; omega))) rfl ?_; refine sq_v rfl (v_assign rfl) rfl (sq_end (qs_n (wp_sc (wp_sq (sq_v rfl (v_move rfl) rfl (sq_v rfl (v_assign rfl) rfl (sq_end (qs_n (wp_rt ?_))))))))); exact qs_ret1 rfl rfl (fin_q (i := 1) rfl (ring_txt c6 (by unfold ringT; rw [if_neg (by assumption), if_pos (by assumption)] <;> simp)))
      · refine wp_sk (qs_n (wp_sc (wp_sq (sq_v rfl (v_move rfl) rfl (sq_v rfl (v_assign rfl) rfl (sq_end (qs_n (wp_rt ?_)))))))); exact qs_ret1 rfl rfl (fin_q (i := 1) rfl (ring_txt c6 (by unfold ringT; rw [if_neg (by assumption), if_neg (by assumption)] <;> simp)))
theorem join_le {B : Nat} {sep : List UInt8} : ∀ {xs : List (List UInt8)}, (∀ x ∈ xs, x.length ≤ B) → (Lib.join xs sep).length ≤ xs.length * (B + sep.length)
  | [], _ => Nat.zero_le _
  | [x], h => by
    have := h x (by simp); rw [Lib.join_one, List.length_singleton]
    omega
  | x :: y :: r, h => by
    have ih := join_le (sep := sep) (xs := y :: r) fun z hz => h z (by simp [hz]); have hx := h x (by simp); have e : Lib.join (x :: y :: r) sep = x ++ (sep ++ Lib.join (y :: r) sep) := by
      rw [Lib.join_cons, Lib.join_cons, Lib.joinTail, Lib.joinTail, List.map_cons, List.flatten_cons, List.append_assoc]
    rw [e, List.length_append, List.length_append, List.length_cons, Nat.add_mul, Nat.one_mul]
    omega
theorem join_take_le {B : Nat} {sep : List UInt8} {xs : List (List UInt8)} (h : ∀ x ∈ xs, x.length ≤ B) (i : Nat) : (Lib.join (xs.take i) sep).length ≤ xs.length * (B + sep.length) := by
  refine Nat.le_trans (join_le fun x hx => h x (List.mem_of_mem_take hx)) (Nat.mul_le_mul_right _ ?_); rw [List.length_take]; omega
def elemT (x : List Int) : List UInt8 := Lib.join (x.map Lib.itoa) [44]
def small21 (x : List Int) : Prop := x.length ≤ 6 ∧ ∀ a ∈ x, I64 a
theorem small_itoa {x : List Int} (h : small21 x) : ∀ y ∈ x.map Lib.itoa, y.length ≤ 21 := fun y hy => by
  obtain ⟨a, ha, rfl⟩ := List.mem_map.1 hy; exact itoa_len (h.2 a ha)
theorem elemT_len {x : List Int} (h : small21 x) : (elemT x).length ≤ 132 := by
  have := join_le (sep := [44]) (small_itoa h); rw [List.length_map] at this; have h1 := h.1; have h2 : x.length * (21 + [(44 : UInt8)].length) ≤ 6 * 22 := Nat.mul_le_mul_right 22 h1; exact Nat.le_trans this h2
theorem in_small {k p n : Int} {x : List Int} (hr : ringL k p n) (h : InR k p n x) : small21 x := by
  have h1 := h.len hr; have h2 := top_range hr; exact ⟨by omega, fun a ha => by have := h.2 a ha; constructor <;> omega⟩
theorem take_mapL {xs : List Int} {f : Int → List UInt8} {i : Nat} (h : i < xs.length) : (xs.map f).take (i + 1) = (xs.map f).take i ++ [f (xs.getD i 0)] := by
  rw [List.take_succ_eq_append_getElem (by simpa using h)]
  simp [List.getD, h]
theorem ct_s_l02ElemIn (k p n : Int) (xs : List Int) (v : Value) (w : World) (r : IntsR xs v (hp w)) (hr : ringL k p n) (hx : InR k p n xs) : Calls Tryd.prog 63 [ringV k p n, v].toArray w (RetV w (.bool true)) := by
  have hl := hx.len hr; refine calls_in Tryd.func63 rfl Tryd.ntmps63 rfl (Sat.start w) ?_; have hle0 := r.le; refine wp_sc (wp_sq ?_); refine sq_x rfl (x_box rfl rfl) rfl ?_; rintro _ _ ⟨b2, rfl, rfl⟩; refine sq_v rfl (v_assign rfl) rfl (sq_end (qs_n (wp_sc (wp_sc (wp_sq (sq_v rfl (v_move rfl) rfl (sq_v rfl (v_len Tryd.underlying25 rfl r.sl) rfl (sq_v rfl (v_move rfl) rfl (sq_end (qs_n (wp_bl ?_))))))))))); refine wp_lp (σ := Nat) (fun z_ => [(1, v), (2, .pointer (some ⟨b2, 0, none⟩)), (4, .bool false), (7, v), (8, num xs.length), (9, num z_)]) (fun z_ => [box b2 [num k, num p, num n] 30, hp w]) (fun z_ => z_ ≤ xs.length) (fun z_ => xs.length - z_) 0 (by omega) ⟨rfl, rfl, rfl, rfl, rfl, (by first | rfl | exact ksub rfl (by first | omega | (simp; done) | (simp; omega))), trivial⟩ (fun _ s => s) ?_; rintro i hi; refine wp_sc (wp_sq (sq_v rfl (v_lss rfl rfl) rfl (sq_end (qs_n (wp_sc ?_))))); refine wp_cd rfl (fun c10 => ?_) (fun c10 => ?_)
  · refine wp_sk (qs_n (wp_sc (wp_bl (wp_sc (wp_sq ?_))))); refine sq_v rfl (v_idxI Tryd.underlying25 ty_3 rfl rfl r (by first | omega | (simp; omega) | (simp only [List.length_append, List.length_cons, List.length_nil]; omega) | (rw [List.length_set]; omega)) (by first | omega | (simp; omega) | (simp only [List.length_append, List.length_cons, List.length_nil]; omega) | (rw [List.length_set]; omega))) rfl ?_; refine sq_v rfl (v_loadI (k := i) 1 ty_3 rfl rfl r (by first | omega | (simp; omega) | (simp only [List.length_append, List.length_cons, List.length_nil]; omega) | (rw [List.length_set]; omega))) rfl ?_; refine sq_v rfl (v_assign rfl) rfl (sq_end (qs_n (wp_sc (wp_sq (sq_v rfl (v_move rfl) rfl (sq_v rfl (v_loadNB 0 ty_30 rfl rfl rfl rfl) rfl (sq_u rfl (x_callv rfl en_52 (fun w s => ct_s_l02Top _ _ _ w hr)) rfl (sq_u rfl (x_callv rfl en_50 (fun w s => ct_s_l01In _ _ _ w)) rfl (sq_v rfl (v_not rfl) rfl (sq_end ?_)))))))))); have hxi := hx.at hr i (by omega); refine qs_n ?_; refine wp_cnd rfl (fun c17 => ?_) (fun c17 => ?_)
    · refine wp_sc (wp_sq (sq_v rfl (v_assign rfl) rfl (sq_end (qs_n (wp_rt (qs_br (qs_r (qs_r (qs_br (qs_r ?_)))))))))); exact qs_ret1 rfl rfl (fin_q (i := 1) rfl (by exfalso; omega))
    · refine wp_sk (qs_bn (qs_n (wp_sq ?_))); refine sq_v rfl (v_add rfl rfl ((by unfold I64; omega))) rfl ?_; refine sq_v rfl (v_move rfl) rfl (sq_end ?_); exact qs_bk (i + 1) (by omega) (by omega) ⟨rfl, rfl, rfl, rfl, rfl, (by first | rfl | exact ksub rfl (by first | omega | (simp; done) | (simp; omega))), trivial⟩ (fun _ s => s)
  · refine wp_ex (qs_x (qs_x (qs_bx (qs_n (wp_sc (wp_sq (sq_v rfl (v_move rfl) rfl (sq_v rfl (v_len Tryd.underlying25 rfl r.sl) rfl (sq_v rfl (v_loadNB 0 ty_30 rfl rfl rfl rfl) rfl (sq_u rfl (x_callv rfl en_51 (fun w s => ct_s_l02Width _ _ _ w)) rfl (sq_v rfl (v_eql rfl rfl) rfl (sq_v rfl (v_assign rfl) rfl (sq_end (qs_n (wp_rt ?_))))))))))))))); exact qs_ret1 rfl rfl (fin_q (i := 1) rfl (by rw [decide_eq_true hl.2.2]))
theorem ct_s_ElemOkIn (k p n : Int) (xs : List Int) (v : Value) (w : World) (r : IntsR xs v (hp w)) (hr : ringL k p n) (hx : InR k p n xs) : Calls Tryd.prog 55 [ringV k p n, v].toArray w (RetV w (.bool true)) := by
  have hb := ringB_true.2 hr; refine calls_in Tryd.func55 rfl Tryd.ntmps55 rfl (Sat.start w) ?_; have hle0 := r.le; refine wp_sc (wp_sq ?_); refine sq_x rfl (x_box rfl rfl) rfl ?_; rintro _ _ ⟨b2, rfl, rfl⟩; refine sq_v rfl (v_assign rfl) rfl (sq_end (qs_n (wp_sc (wp_sq (sq_v rfl (v_loadNB 0 ty_30 rfl rfl rfl rfl) rfl (sq_u rfl (x_callv rfl en_26 (fun w s => ct_s_RingOk _ _ _ w)) rfl ?_)))))); refine sq_bb 6 rfl (fun c6 => ?_) (fun c6 => ?_)
  · refine sq_v rfl (v_move rfl) rfl (sq_v rfl (v_loadNB 0 ty_30 rfl rfl rfl rfl) rfl (sq_v rfl (v_move rfl) rfl (sq_u rfl (x_callv rfl en_63 (fun w s => ct_s_l02ElemIn _ _ _ _ _ w (r.mono (s.get 1 rfl)) hr hx)) rfl (sq_v rfl (v_pickt rfl rfl) rfl (sq_v rfl (v_assign rfl) rfl (sq_end (qs_n (wp_rt ?_)))))))); exact qs_ret1 rfl rfl (fin_q (i := 1) rfl (rfl))
  · refine sq_v rfl (v_move rfl) rfl (sq_s rfl rfl (sq_s rfl rfl (sq_s rfl rfl (sq_v rfl (v_pickf rfl rfl) rfl (sq_v rfl (v_assign rfl) rfl (sq_end (qs_n (wp_rt ?_)))))))); exact qs_ret1 rfl rfl (fin_q (i := 1) rfl (absurd (hb.symm.trans c6) (by decide)))
theorem ct_s_FormatElemIn (k p n : Int) (xs : List Int) (v : Value) (w : World) (r : IntsR xs v (hp w)) (hr : ringL k p n) (hx : InR k p n xs) : Calls Tryd.prog 33 [ringV k p n, v].toArray w (RetV w (strV (elemT xs))) := by
  have hsm := in_small hr hx; have hsl := hsm.1; refine calls_in Tryd.func33 rfl Tryd.ntmps33 rfl (Sat.start w) ?_; have hle0 := r.le; refine wp_sc (wp_sq ?_); refine sq_x rfl (x_box rfl rfl) rfl ?_; rintro _ _ ⟨b2, rfl, rfl⟩; refine sq_v rfl (v_assign rfl) rfl (sq_end (qs_n (wp_sc (wp_sc (wp_sq (sq_v rfl (v_loadNB 0 ty_30 rfl rfl rfl rfl) rfl (sq_v rfl (v_move rfl) rfl (sq_u rfl (x_callv rfl en_55 (fun w s => ct_s_ElemOkIn _ _ _ _ _ w (r.mono (s.get 1 rfl)) hr hx)) rfl (sq_v rfl (v_not rfl) rfl (sq_end (qs_n (wp_cf rfl (wp_sk (qs_n (wp_sc (wp_sq ?_)))))))))))))))); refine sq_x rfl (x_build0 Tryd.underlying59 ty_9) rfl ?_; intro v12 h12 (r12 : StrsO [] v12 h12); refine sq_v rfl (v_assign rfl) rfl (sq_end (qs_n (wp_sc (wp_sc (wp_sq (sq_v rfl (v_move rfl) rfl (sq_v rfl (v_len Tryd.underlying25 rfl r.sl) rfl (sq_v rfl (v_move rfl) rfl (sq_end (qs_n (wp_bl ?_))))))))))); refine wp_lp (σ := Nat × Value × PH) (fun z_ => [(4, strV []), (5, z_.2.1), (13, v), (14, num xs.length), (15, num z_.1)]) (fun z_ => [z_.2.2, box b2 [num k, num p, num n] 30, hp w]) (fun z_ => z_.1 ≤ xs.length ∧ StrsO ((xs.map Lib.itoa).take z_.1) z_.2.1 z_.2.2) (fun z_ => xs.length - z_.1) (0, v12, h12) (⟨by (try dsimp only); omega, r12⟩) ⟨rfl, (by first | rfl | exact ksub rfl (by first | omega | (simp; done) | (simp; omega))), rfl, rfl, (by first | rfl | exact ksub rfl (by first | omega | (simp; done) | (simp; omega))), trivial⟩ (fun _ s => s) ?_; rintro ⟨i, vx, hx⟩ ⟨hi, q⟩; dsimp only at hi q ⊢; refine wp_sc (wp_sq (sq_v rfl (v_lss rfl rfl) rfl (sq_end (qs_n (wp_sc ?_))))); refine wp_cd rfl (fun c16 => ?_) (fun c16 => ?_)
  · refine wp_sk (qs_n (wp_sc (wp_bl (wp_sc (wp_sq ?_))))); refine sq_v rfl (v_idxI Tryd.underlying25 ty_3 rfl rfl r (by first | omega | (simp; omega) | (simp only [List.length_append, List.length_cons, List.length_nil]; omega) | (rw [List.length_set]; omega)) (by first | omega | (simp; omega) | (simp only [List.length_append, List.length_cons, List.length_nil]; omega) | (rw [List.length_set]; omega))) rfl ?_; refine sq_v rfl (v_loadI (k := i) 2 ty_3 rfl rfl r (by first | omega | (simp; omega) | (simp only [List.length_append, List.length_cons, List.length_nil]; omega) | (rw [List.length_set]; omega))) rfl ?_; refine sq_v rfl (v_assign rfl) rfl (sq_end (qs_n (wp_sq (sq_v rfl (v_move rfl) rfl (sq_v rfl (v_move rfl) rfl (sq_u rfl (x_callv rfl en_13 (fun w s => ct_s_FormatInt _ w (hsm.2 _ (mem_getD (by omega))))) rfl ?_)))))); refine sq_x rfl (x_buildS [strV (Lib.itoa (xs.getD i 0))] Tryd.underlying59 ty_9 (by decide) rfl rfl rfl (by decide) (by decide) (by intro v hv; simp at hv; rcases hv with rfl <;> rfl)) rfl ?_; intro v22 h22 (r22 : StrsO [(Lib.itoa (xs.getD i 0))] v22 h22); refine sq_m 1 rfl rfl (m_appU 1 0 Tryd.underlying59 ty_9 rfl rfl rfl rfl q rfl r22.toR (by first | omega | (simp; omega) | (simp only [List.length_append, List.length_cons, List.length_nil]; omega) | (rw [List.length_set]; omega))) rfl ?_; intro v23 h_r23 r23; refine sq_v rfl (v_assign rfl) rfl (sq_end (qs_bn (qs_n (wp_sq ?_)))); refine sq_v rfl (v_add rfl rfl ((by unfold I64; omega))) rfl ?_; refine sq_v rfl (v_move rfl) rfl (sq_end ?_); exact qs_bk (i + 1, v23, h_r23) ⟨by (try dsimp only); omega, by (try dsimp only); rw [take_mapL (by omega)]; exact r23⟩ (by simp only; omega) ⟨rfl, (by first | rfl | exact ksub rfl (by first | omega | (simp; done) | (simp; omega))), rfl, rfl, (by first | rfl | exact ksub rfl (by first | omega | (simp; done) | (simp; omega))), trivial⟩ (fun _ s => s.pick [1, 2, 3] (by decide) rfl)
  · refine wp_ex (qs_x (qs_x (qs_bx (qs_n (wp_sc (wp_sq (sq_v rfl (v_move rfl) rfl ?_))))))); refine sq_u rfl (x_callv rfl en_35 (fun w s => ct_s_Join _ _ _ w (by have e : (xs.map Lib.itoa).take i = xs.map Lib.itoa := List.take_of_length_le (by rw [List.length_map]; omega); rw [e] at q; exact q.toR.mono (s.get 0 rfl)) (fun j _ => Nat.le_trans (join_take_le (small_itoa hsm) j) (by rw [List.length_map]; have := Nat.mul_le_mul_right 22 hsl; exact Nat.le_trans this (by decide))) (by decide) (fun x hx => Nat.le_trans (small_itoa hsm x hx) (by decide)))) rfl ?_; refine sq_v rfl (v_assign rfl) rfl (sq_end (qs_n (wp_rt ?_))); exact qs_ret1 rfl rfl (fin_q (i := 2) rfl (rfl))
theorem fill_step {xs : List Int} {f : Int → List UInt8} {i : Nat} (h : i < xs.length) : ((xs.map f).take i ++ List.replicate (xs.length - i) []).set i (f (xs.getD i 0)) = (xs.map f).take (i + 1) ++ List.replicate (xs.length - (i + 1)) [] := by
  rw [List.set_append_right _ _ (by simp; omega), show xs.length - i = (xs.length - (i + 1)) + 1 by omega, List.replicate_succ, take_mapL h, List.length_take, List.length_map, show i - min i xs.length = 0 by omega, List.set_cons_zero, List.append_assoc]
  rfl
theorem ct_i_rawElemText (xs : List Int) (v : Value) (w : World) (tb : PowR (hp w)) (r : IntsR xs v (hp w)) (hsm : small21 xs) : Calls Tryd.prog 45 [v].toArray w (RetV w (strV (elemT xs))) := by
  have hsl := hsm.1; refine calls_in Tryd.func45 rfl Tryd.ntmps45 rfl (Sat.start w) ?_; have hle0 := r.le; refine wp_sc (wp_sq (sq_v rfl (v_assign rfl) rfl (sq_end (qs_n (wp_sc (wp_sq (sq_v rfl (v_move rfl) rfl (sq_v rfl (v_len Tryd.underlying25 rfl r.sl) rfl ?_)))))))); refine sq_x rfl (x_makeU Tryd.underlying59 ty_9 rfl rfl (by first | omega | (simp; omega) | (simp only [List.length_append, List.length_cons, List.length_nil]; omega) | (rw [List.length_set]; omega)) (by first | omega | (simp; omega) | (simp only [List.length_append, List.length_cons, List.length_nil]; omega) | (rw [List.length_set]; omega)) (by first | omega | (simp; omega) | (simp only [List.length_append, List.length_cons, List.length_nil]; omega) | (rw [List.length_set]; omega))) rfl ?_; intro v8 h8 r8; refine sq_v rfl (v_assign rfl) rfl (sq_end (qs_n (wp_sc (wp_sc (wp_sq (sq_v rfl (v_move rfl) rfl (sq_v rfl (v_len Tryd.underlying25 rfl r.sl) rfl (sq_v rfl (v_move rfl) rfl (sq_end (qs_n (wp_bl ?_))))))))))); refine wp_lp (σ := Nat × PH) (fun z_ => [(2, strV []), (3, v8), (9, v), (10, num xs.length), (11, num z_.1)]) (fun z_ => [z_.2, hp w]) (fun z_ => z_.1 ≤ xs.length ∧ StrsO ((xs.map Lib.itoa).take z_.1 ++ List.replicate (xs.length - z_.1) []) v8 z_.2) (fun z_ => xs.length - z_.1) (0, h8) (⟨by (try dsimp only); omega, by (try dsimp only); rw [List.take_zero]; simpa using r8⟩) ⟨rfl, rfl, rfl, rfl, (by first | rfl | exact ksub rfl (by first | omega | (simp; done) | (simp; omega))), trivial⟩ (fun _ s => s) ?_; rintro ⟨i, hx⟩ ⟨hi, q⟩; dsimp only at hi q ⊢; refine wp_sc (wp_sq (sq_v rfl (v_lss rfl rfl) rfl (sq_end (qs_n (wp_sc ?_))))); refine wp_cd rfl (fun c12 => ?_) (fun c12 => ?_)
  · refine wp_sk (qs_n (wp_sc (wp_bl (wp_sc (wp_sq (sq_v rfl (v_move rfl) rfl ?_)))))); refine sq_v rfl (v_idxI Tryd.underlying25 ty_3 rfl rfl r (by first | omega | (simp; omega) | (simp only [List.length_append, List.length_cons, List.length_nil]; omega) | (rw [List.length_set]; omega)) (by first | omega | (simp; omega) | (simp only [List.length_append, List.length_cons, List.length_nil]; omega) | (rw [List.length_set]; omega))) rfl ?_; refine sq_v rfl (v_loadI (k := i) 1 ty_3 rfl rfl r (by first | omega | (simp; omega) | (simp only [List.length_append, List.length_cons, List.length_nil]; omega) | (rw [List.length_set]; omega))) rfl ?_; refine sq_v rfl (v_assign rfl) rfl (sq_v rfl (v_assign rfl) rfl (sq_end (qs_n (wp_sq (sq_v rfl (v_move rfl) rfl (sq_v rfl (v_move rfl) rfl (sq_v rfl (v_move rfl) rfl (sq_u rfl (x_callv rfl en_20 (fun w s => ct_i_FormatInt _ w (tb.mono (s.get 1 rfl)) (hsm.2 _ (mem_getD (by omega))))) rfl ?_)))))))); refine sq_v rfl (v_idxU Tryd.underlying59 ty_9 rfl rfl q.toR (by omega) (by simp; omega)) rfl ?_; refine sq_m 0 rfl rfl (m_storeU (k := i) 0 ty_9 rfl rfl rfl q (by simp; omega)) rfl ?_; rintro _ h_q5 ⟨rfl, q5⟩; refine sq_end (qs_bn (qs_n (wp_sq ?_))); refine sq_v rfl (v_add rfl rfl ((by unfold I64; omega))) rfl ?_; refine sq_v rfl (v_move rfl) rfl (sq_end ?_); exact qs_bk (i + 1, h_q5) ⟨by (try dsimp only); omega, by (try dsimp only); rw [fill_step (by omega)] at q5; exact q5⟩ (by simp only; omega) ⟨rfl, rfl, rfl, rfl, (by first | rfl | exact ksub rfl (by first | omega | (simp; done) | (simp; omega))), trivial⟩ (fun _ s => s)
  · refine wp_ex (qs_x (qs_x (qs_bx (qs_n (wp_sc (wp_sq (sq_v rfl (v_move rfl) rfl ?_))))))); refine sq_u rfl (x_callv rfl en_47 (fun w s => ct_i_Join (xs.map Lib.itoa) _ _ w (by have e : (xs.map Lib.itoa).take i ++ List.replicate (xs.length - i) [] = xs.map Lib.itoa := (by rw [show xs.length - i = 0 by omega, List.take_of_length_le (by rw [List.length_map]; omega)]; simp); rw [e] at q; exact q.toR.mono (s.get 0 rfl)) (by rw [List.length_map]; omega) (Nat.le_trans (elemT_len hsm) (by decide)))) rfl ?_; refine sq_v rfl (v_assign rfl) rfl (sq_end (qs_n (wp_rt ?_))); exact qs_ret1 rfl rfl (fin_q (i := 1) rfl (rfl))
end Go.Proofs.YtiefkcaplhnnmaaDoor
