/-
  The best assignment has the total as its weight, is the least one, and the marginals know its values: the law is true of every draw.
  Conditions: none.
-/
import Derived.Test.YtiefkcaplhnnmaaGreatQFnBest7
namespace Go.Proofs.YtiefkcaplhnnmaaGreat
set_option maxRecDepth 100000
open Go.RowKit
theorem step_zero {k p n : Int} {x y out : List Int} {i j : Nat} (hk : k = 7 ∧ (widthI k n).toNat ≤ 6 ∨ k = 8) (hp : 1 ≤ p) (ho : PolyIn k p n out) (hy : PolyIn k p n y) (hi : x.getD i 0 = 0) (hij : 4 ≤ i + j → k = 8 → i + j - 4 < out.length) : mulStep k p x y out i j = out := by
  have h0 : ∀ m, (out.getD m 0).tmod p = out.getD m 0 := fun m => by
    have := ho.at hp m; exact Int.tmod_eq_of_lt this.1 (by omega)
  unfold mulStep
  split
  · rename_i h
    rw [hi, Int.zero_mul, Int.add_zero, h0, set_same h]
  · split
    · rename_i h h8
      have hw : out.length = 4 := by rw [ho.1, widthI, if_neg (by omega), if_pos h8]; rfl
      have hz := ho.at hp (i + j - 4); have hyj := hy.at hp j; have e : (out.getD (i + j - 4) 0 + (p - x.getD i 0) * y.getD j 0).tmod p = out.getD (i + j - 4) 0 := by
        rw [hi, Int.sub_zero]; have hm : 0 ≤ p * y.getD j 0 := Int.mul_nonneg (by omega) hyj.1; rw [Int.tmod_eq_emod_of_nonneg (by omega), Int.add_mul_emod_self_left]; exact Int.emod_eq_of_lt hz.1 (by omega)
      rw [e]; exact set_same (hij (by omega) h8)
    · rfl
theorem row_zero {k p n : Int} {x y out : List Int} {i : Nat} (hk : k = 7 ∧ (widthI k n).toNat ≤ 6 ∨ k = 8) (hp : 1 ≤ p) (ho : PolyIn k p n out) (hy : PolyIn k p n y) (hi : x.getD i 0 = 0) (hil : i < out.length) (hyl : y.length = out.length) :
    ∀ m, m ≤ y.length → mulRow k p x y i out m = out
  | 0, _ => rfl
  | m + 1, hm => by
    rw [mulRow_step, row_zero hk hp ho hy hi hil hyl m (by omega)]; refine step_zero hk hp ho hy hi (fun h4 h8 => ?_); have hw : out.length = 4 := by rw [ho.1, widthI, if_neg (by omega), if_pos h8]; rfl
    omega
theorem row_copy {k p n : Int} {x y : List Int} (hk : k = 7 ∧ (widthI k n).toNat ≤ 6 ∨ k = 8) (hp : 2 ≤ p) (hy : PolyIn k p n y) (h1 : x.getD 0 0 = 1) :
    ∀ m, m ≤ y.length → mulRow k p x y 0 (List.replicate y.length 0) m = y.take m ++ List.replicate (y.length - m) 0
  | 0, _ => by simp [mulRow]
  | m + 1, hm => by
    rw [mulRow_step, row_copy hk hp hy h1 m (by omega)]; have hlt : (y.take m).length = m := by simp; omega
    have hol : (y.take m ++ List.replicate (y.length - m) (0 : Int)).length = y.length := by simp; omega
    have hz : (y.take m ++ List.replicate (y.length - m) (0 : Int)).getD m 0 = 0 := by
      simp only [List.getD]; rw [List.getElem?_append_right (by omega), hlt, Nat.sub_self]
      simp [show 0 < y.length - m by omega]
    have hym := hy.at (by omega : 1 ≤ p) m
    unfold mulStep
    rw [Nat.zero_add, if_pos (by rw [hol]; omega), hz, h1, Int.one_mul, Int.zero_add, Int.tmod_eq_of_lt hym.1 (by omega)]; obtain ⟨r, hr⟩ : ∃ r, y.length - m = r + 1 := ⟨y.length - m - 1, by omega⟩
    rw [List.set_append_right _ _ (by omega), hlt, Nat.sub_self, hr, List.replicate_succ, List.set_cons_zero, show y.length - (m + 1) = r by omega, List.take_succ_eq_append_getElem (by omega), List.append_assoc]
    congr 1
    simp [List.getD, show m < y.length by omega]
theorem one_to {k p n : Int} {x y : List Int} (hk : k = 7 ∧ (widthI k n).toNat ≤ 6 ∨ k = 8) (hp : 2 ≤ p) (hy : PolyIn k p n y) (h1 : x.getD 0 0 = 1) (h0 : ∀ j, 0 < j → x.getD j 0 = 0) (hl : x.length = y.length) :
    ∀ m, m + 1 ≤ x.length → mulTo k p x y (List.replicate y.length 0) (m + 1) = y
  | 0, h => by
    rw [mulTo_step]
    show mulRow k p x y 0 (List.replicate y.length 0) y.length = y
    rw [row_copy hk hp hy h1 y.length (Nat.le_refl _), Nat.sub_self, List.take_length]
    simp
  | m + 1, h => by
    rw [mulTo_step, one_to hk hp hy h1 h0 hl m (by omega)]; exact row_zero hk (by omega) hy hy (h0 _ (by omega)) (by omega) rfl y.length (Nat.le_refl _)
theorem one_mul {k p n : Int} (hr : ringL k p n) {x : List Int} (hx : InR k p n x) : mulL k p n (oneL k p n) x = x := by
  have hlen := hx.len hr; have hx0 := hx.at hr 0 (by omega); have hwd : 1 ≤ (widthI k n).toNat := by have := hx.1; omega
  by_cases hk : k = 7 ∨ k = 8
  · have htp := top_poly hr (.inr hk); have ho := one_poly (p := p) (n := n) (k := k) (by omega) hwd; have hk' : k = 7 ∧ (widthI k n).toNat ≤ 6 ∨ k = 8 := by rcases hk with h | h; exact .inl ⟨h, by have := hx.1; omega⟩; exact .inr h
    have hol := oneL_len k p n; obtain ⟨q, hq⟩ : ∃ q, (oneL k p n).length = q + 1 := ⟨(oneL k p n).length - 1, by omega⟩
    have := one_to hk' htp.2.1 (hx.poly hr (.inr hk)) ho.1 ho.2 (by rw [hol, hx.1]) q (by omega)
    unfold mulL
    rw [if_neg (by omega), if_neg (by omega), if_neg (by omega), if_neg (by omega), if_neg (by omega), hq, ← hx.1]; exact this
  · have hm := mul_one hr hx; have e : mulL k p n (oneL k p n) x = mulL k p n x (oneL k p n) := by
      unfold mulL
      split
      · rw [Int.min_comm]
      · split
        · rw [Int.mul_comm]
        · split
          · rw [Int.mul_comm]
          · split
            · rw [Int.add_comm]
            · split
              · rw [Nat.and_comm]
              · exfalso
                unfold ringL at hr
                omega
    rw [e, hm]
end Go.Proofs.YtiefkcaplhnnmaaGreat
namespace Go.Proofs.YtiefkcaplhnnmaaGreat
set_option maxRecDepth 100000
open Go.RowKit
def meetP (t u : Ten) : Prop := ∃ x ∈ t.l, x ∈ u.l
def mrgX (a b x : Int) : Int := if x = max a b then min a b else x
def mrgI (P : List Int) (a b : Int) (m : Nat) : List Int := (P.take m).map (mrgX a b) ++ P.drop m
theorem mrgI_zero (P : List Int) (a b : Int) : mrgI P a b 0 = P := by simp [mrgI]
theorem mrgI_len (P : List Int) (a b : Int) (m : Nat) : (mrgI P a b m).length = P.length := by simp [mrgI]; omega
theorem mrgI_step {P : List Int} {a b : Int} {m : Nat} (h : m < P.length) : mrgI P a b (m + 1) = (mrgI P a b m).set m (mrgX a b (P.getD m 0)) := by
  have hl : ((P.take m).map (mrgX a b)).length = m := by simp; omega
  unfold mrgI
  rw [List.set_append_right _ _ (by omega), hl, Nat.sub_self, List.drop_eq_getElem_cons h, List.set_cons_zero, List.take_succ_eq_append_getElem h, List.map_append, List.append_assoc]
  congr 1
  simp [List.getD, h]
open Classical in
noncomputable def ptI (ts : List Ten) (P : List Int) (i : Nat) : Nat → List Int
  | 0 => P
  | m + 1 => if meetP (ts.getD i noTen) (ts.getD m noTen) then mrgI (ptI ts P i m) ((ptI ts P i m).getD i 0) ((ptI ts P i m).getD m 0) P.length else ptI ts P i m
theorem ptI_len {ts : List Ten} {P : List Int} {i : Nat} : ∀ m, (ptI ts P i m).length = P.length
  | 0 => rfl
  | m + 1 => by
    rw [ptI]
    split
    · rw [mrgI_len]; exact ptI_len m
    · exact ptI_len m
def inP (m : Nat) (P : List Int) : Prop := ∀ j, j < P.length → 0 ≤ P.getD j 0 ∧ P.getD j 0 < m
theorem inP.mrg {m : Nat} {P : List Int} {a b : Int} (h : inP m P) (ha : 0 ≤ a ∧ a < m) (hb : 0 ≤ b ∧ b < m) : ∀ q, q ≤ P.length → inP m (mrgI P a b q)
  | 0, _ => by rw [mrgI_zero]; exact h
  | q + 1, hq => by
    have ih := inP.mrg h ha hb q (by omega); intro j hj; rw [mrgI_len] at hj; rw [mrgI_step (by omega)]
    by_cases e : q = j
    · subst e; simp only [List.getD]; rw [List.getElem?_set_self (by rw [mrgI_len]; omega)]
      show 0 ≤ mrgX a b (P.getD q 0) ∧ mrgX a b (P.getD q 0) < m
      have := h q (by omega)
      unfold mrgX
      split <;> omega
    · have := ih j (by rw [mrgI_len]; exact hj); simp only [List.getD] at this ⊢; rw [List.getElem?_set_ne e]; exact this
theorem inP.pt {ts : List Ten} {n : Nat} {P : List Int} {i : Nat} (h : inP n P) (hi : i < P.length) : ∀ m, m ≤ P.length → inP n (ptI ts P i m)
  | 0, _ => h
  | m + 1, hm => by
    have ih := h.pt (ts := ts) hi m (by omega); have hl := ptI_len (ts := ts) (P := P) (i := i) m; rw [ptI]
    split
    · exact ih.mrg (ih i (by omega)) (ih m (by omega)) _ (by omega)
    · exact ih
/-- What each part is. -/
structure PartL (ts : List Ten) (l : List Int) : Prop where
  ne : l ≠ []
  nd : l.Nodup
  inr : ∀ x ∈ l, 0 ≤ x ∧ x < ts.length
theorem PartL.len {ts : List Ten} {l : List Int} (h : PartL ts l) : l.length ≤ ts.length := by
  have h2 := pigeon (m := (List.range ts.length).map Int.ofNat) h.nd fun x hx => by
    have := h.inr x hx; exact List.mem_map.2 ⟨x.toNat, List.mem_range.2 (by omega), by show ((x.toNat : Nat) : Int) = x; omega⟩
  simpa using h2
section
variable {k p n : Int} {ts : List Ten} {op : List Int}
end
end Go.Proofs.YtiefkcaplhnnmaaGreat
namespace Go.Proofs.YtiefkcaplhnnmaaGreat
set_option maxRecDepth 100000
open Go.RowKit
def LR (l : List Int) (cs : List Value) (h : PH) : Prop := ∃ v, cs = [v] ∧ IntsR l v h
theorem LR.mono {l : List Int} {cs : List Value} {h h' : PH} (r : LR l cs h) (q : PLe h h') : LR l cs h' := by
  obtain ⟨v, e, r1⟩ := r; exact ⟨v, e, r1.mono q⟩
def LLR (bs : List (List Int)) (v : Value) (h : PH) : Prop := RowsR 1 LR bs v h
theorem LLR.mono {bs : List (List Int)} {v : Value} {h h' : PH} (r : LLR bs v h) (l : PLe h h') : LLR bs v h' := RowsR.mono (R := LR) LR.mono r l
theorem LLR.sl {bs : List (List Int)} {v : Value} {h : PH} (r : LLR bs v h) : SlL v bs.length := RowsR.sl r
theorem LLR.le {bs : List (List Int)} {v : Value} {h : PH} (r : LLR bs v h) : (bs.length : Int) ≤ 9223372036854775807 := RowsR.le r
theorem LLR.at {bs : List (List Int)} {v : Value} {h : PH} (r : LLR bs v h) : ∃ cells, RowR cells bs.length 1 v h ∧ ∀ i, i < bs.length → ∃ l a, bs[i]? = some l ∧ (cells.drop (i * 1)).take 1 = [a] ∧ IntsR l a h := by
  obtain ⟨cells, rr, hc⟩ := r; refine ⟨cells, rr, fun i hi => ?_⟩; have ht : bs[i]? = some bs[i] := List.getElem?_eq_getElem hi; obtain ⟨a, e, r1⟩ := hc i _ ht; exact ⟨_, a, ht, e, r1⟩
/-- Lists that own their parts. -/
def LLO (bs : List (List Int)) (v : Value) (h : PH) : Prop := ∃ vs h0 hs, RowO 27 vs bs.length 1 v h0 ∧ OwnL bs vs hs ∧ Made h (h0 :: hs)
theorem LLO.toR {bs : List (List Int)} {v : Value} {h : PH} (r : LLO bs v h) : LLR bs v h := by
  obtain ⟨vs, h0, hs, r0, o, m⟩ := r; refine ⟨vs, r0.toR.mono (m.le h0 (by simp)), fun i x hx => ?_⟩; obtain ⟨a, g, e1, e2, q⟩ := o.own i x hx; refine ⟨a, ?_, q.toR.mono (m.le g (by simp [List.mem_of_getElem? e2]))⟩
  apply List.ext_getElem?
  intro j; rw [List.getElem?_take]
  match j with
  | 0 => simpa using e1
  | j + 1 => rw [if_neg (by omega)]; simp
def DecO (bs : List (List Int)) (ps : List Int) (a b : Value) (h : PH) : Prop := ∃ h1 h2, LLO bs a h1 ∧ IntsO ps b h2 ∧ Made h [h1, h2]
theorem DecO.toR {bs : List (List Int)} {ps : List Int} {a b : Value} {h : PH} (r : DecO bs ps a b h) : LLR bs a h ∧ IntsR ps b h := by
  obtain ⟨h1, h2, r1, r2, m⟩ := r; exact ⟨r1.toR.mono (m.le h1 (by simp)), r2.toR.mono (m.le h2 (by simp))⟩
theorem OwnL.one {l : List Int} {a : Value} {h : PH} (r : IntsO l a h) : OwnL [l] [a] [h] := by
  refine ⟨rfl, rfl, fun i xs e => ?_⟩
  match i, e with
  | 0, e => cases e; exact ⟨a, h, rfl, rfl, r⟩
  | i + 1, e => simp at e
end Go.Proofs.YtiefkcaplhnnmaaGreat
namespace Go.Proofs.YtiefkcaplhnnmaaGreat
set_option maxRecDepth 100000
open Go.RowKit
section
variable {P : Program} {n : Nat} {w0 : World} {K : Env} {HS : List PH} {d : Option Tmp} {ty : TypeId} {ps : String} {af : Array Edge} {g : Option (Nat × Bool)}
end
theorem Made.one (h : PH) : Made h [h] := ⟨⟨fun x hx => (List.not_mem_nil hx).elim, trivial⟩, fun x hx => by rw [List.mem_singleton.1 hx]; exact PLe.refl _, fun k o e => ⟨h, List.mem_singleton.2 rfl, e⟩⟩
theorem OwnL.uno {xs : List Int} {v : Value} {h : PH} (r : IntsO xs v h) : OwnL [xs] [v] [h] := by
  refine ⟨rfl, rfl, fun i ys e => ?_⟩
  match i, e with
  | 0, e => cases e; exact ⟨v, h, rfl, rfl, r⟩
  | i + 1, e => simp at e
theorem OwnH.add {xss : List (List Int)} {xs : List Int} {vs : List Value} {v : Value} {h h' : PH} (o : OwnH xss vs h) (r : IntsO xs v h') (hd : PDj h h') : OwnH (xss ++ [xs]) (vs ++ [v]) (PUn h h') := by
  obtain ⟨l, ol, m⟩ := o; exact ⟨l ++ [h'], ol.append (OwnL.uno r), m.un (Made.one h') hd⟩
theorem LLO.of {bs : List (List Int)} {cs : List Value} {v : Value} {h ha hl : PH} (rr : RowO 27 cs bs.length 1 v ha) (o : OwnH bs cs hl) (md : Made h [ha, hl]) : LLO bs v h := by
  obtain ⟨l, ol, ml⟩ := o; refine ⟨cs, ha, l, rr, ol, ⟨⟨fun x hx => ?_, ml.sep⟩, fun x hx => ?_, fun k o e => ?_⟩⟩
  · exact ((md.sep.1 hl (by simp)).symm.mono (ml.le x hx)).symm
  · rcases List.mem_cons.1 hx with rfl | hx
    · exact md.le _ (by simp)
    · exact (ml.le x hx).trans (md.le hl (by simp))
  · obtain ⟨x, hx, hxe⟩ := md.dom k o e
    rcases List.mem_cons.1 hx with rfl | hx
    · exact ⟨x, by simp, hxe⟩
    · rw [List.mem_singleton.1 hx] at hxe; obtain ⟨y, hy, hye⟩ := ml.dom k o hxe; exact ⟨y, by simp [hy], hye⟩
end Go.Proofs.YtiefkcaplhnnmaaGreat
namespace Go.Proofs.YtiefkcaplhnnmaaGreat
set_option maxRecDepth 100000
open Go.RowKit
theorem TensL.drop {us : List Ten} {cs : List Value} {h : PH} (hT : TensL us cs h) (m : Nat) (hm : m ≤ us.length) : TensL (us.drop m) (cs.drop (m * 3)) h := by
  refine ⟨by rw [List.length_drop, List.length_drop, hT.1]; omega, fun i t e => ?_⟩; rw [List.getElem?_drop] at e; have := hT.2 (m + i) t e; rw [List.drop_drop, show m * 3 + i * 3 = (m + i) * 3 by omega]; exact this
end Go.Proofs.YtiefkcaplhnnmaaGreat
namespace Go.Proofs.YtiefkcaplhnnmaaGreat
set_option maxRecDepth 100000
open Go.RowKit
section
variable {k p n : Int} {ts : List Ten} {op ls : List Int}
end
/-- A slice of rows of which nothing is wanted by itself. -/
structure Row0 : Prop where
theorem Row0.at (_ : Row0) : ∃ _ _ : Unit, True := ⟨(), (), trivial⟩
theorem TensL.append {a b : List Ten} {ca cb : List Value} {h : PH} (ra : TensL a ca h) (rb : TensL b cb h) : TensL (a ++ b) (ca ++ cb) h := by
  refine ⟨by rw [List.length_append, List.length_append, ra.1, rb.1]; omega, fun i t e => ?_⟩
  by_cases hi : i < a.length
  · rw [List.getElem?_append_left hi] at e; have := ra.2 i t e; have e2 : ((ca ++ cb).drop (i * 3)).take 3 = (ca.drop (i * 3)).take 3 := by
      rw [List.drop_append, List.take_append]; have hl : 3 - (ca.drop (i * 3)).length = 0 := by rw [List.length_drop, ra.1]; omega
      rw [hl, List.take_zero, List.append_nil]
    rw [e2]; exact this
  · rw [List.getElem?_append_right (by omega)] at e; have := rb.2 _ t e; have e2 : ((ca ++ cb).drop (i * 3)).take 3 = (cb.drop ((i - a.length) * 3)).take 3 := by
      rw [List.drop_append, List.drop_of_length_le (by rw [ra.1]; omega), List.nil_append, ra.1, show i * 3 - a.length * 3 = (i - a.length) * 3 by omega]
    rw [e2]; exact this
theorem tensL_of {us : List Ten} {cs : List Value} {v : Value} {h h' : PH} (rr : RowR cs us.length 3 v h') (hc : ∀ i, i < us.length → ∃ t a b c, us[i]? = some t ∧ (cs.drop (i * 3)).take 3 = [a, b, c] ∧ IntsR t.l a h ∧ IntsR t.d b h ∧ IntsR t.x c h) : TensL us cs h :=
  ⟨rr.1, fun i t e => by
    obtain ⟨u, a, b, c, e1, e2, r1, r2, r3⟩ := hc i (List.getElem?_eq_some_iff.1 e).1; rw [e] at e1
    cases e1
    exact ⟨a, b, c, e2, r1, r2, r3⟩⟩
end Go.Proofs.YtiefkcaplhnnmaaGreat
namespace Go.Proofs.YtiefkcaplhnnmaaGreat
set_option maxRecDepth 100000
open Go.RowKit
structure Opr where
  k : Int
  a : Int
  b : Int
  c : Int
  l : List Int
def OpR (o : Opr) (cs : List Value) (h : PH) : Prop := ∃ v, cs = [num o.k, num o.a, num o.b, num o.c, v] ∧ IntsR o.l v h
theorem OpR.mono {o : Opr} {cs : List Value} {h h' : PH} (r : OpR o cs h) (l : PLe h h') : OpR o cs h' := by
  obtain ⟨v, e, r1⟩ := r; exact ⟨v, e, r1.mono l⟩
def OpsR (os : List Opr) (v : Value) (h : PH) : Prop := RowsR 5 OpR os v h
theorem OpsR.mono {os : List Opr} {v : Value} {h h' : PH} (r : OpsR os v h) (l : PLe h h') : OpsR os v h' := RowsR.mono (R := OpR) OpR.mono r l
theorem OpsR.sl {os : List Opr} {v : Value} {h : PH} (r : OpsR os v h) : SlL v os.length := RowsR.sl r
theorem OpsR.le {os : List Opr} {v : Value} {h : PH} (r : OpsR os v h) : (os.length : Int) ≤ 9223372036854775807 := RowsR.le r
theorem OpsR.at {os : List Opr} {v : Value} {h : PH} (r : OpsR os v h) : ∃ cells, RowR cells os.length 5 v h ∧ ∀ i, i < os.length → ∃ o a, os[i]? = some o ∧ (cells.drop (i * 5)).take 5 = [num o.k, num o.a, num o.b, num o.c, a] ∧ IntsR o.l a h := by
  obtain ⟨cells, rr, hc⟩ := r; refine ⟨cells, rr, fun i hi => ?_⟩; have ht : os[i]? = some os[i] := List.getElem?_eq_getElem hi; obtain ⟨a, e, r1⟩ := hc i _ ht; exact ⟨_, a, ht, e, r1⟩
theorem OpsR.subH {os : List Opr} {v : Value} {h : PH} (r : OpsR os v h) {hi : Nat} (h2 : hi ≤ os.length) : OpsR (os.take hi) (subV v 0 hi 5) h := by
  obtain ⟨cells, rr, hc⟩ := r; have := RowR.sub rr (Nat.zero_le hi) h2; refine ⟨_, by rw [List.length_take, Nat.min_eq_left h2]; simpa using this, fun i x hx => ?_⟩; have hlt : i < hi := by
    have := (List.getElem?_eq_some_iff.1 hx).1
    simp at this; omega
  have hx' : os[i]? = some x := by rwa [List.getElem?_take, if_pos hlt] at hx
  have := hc i x hx'; have e : ((cells.take ((hi - 0) * 5)).drop (i * 5)).take 5 = (cells.drop (i * 5)).take 5 := by
    rw [List.drop_take, List.take_take]
    congr 1
    omega
  show OpR x (((((cells.drop (0 * 5)).take ((hi - 0) * 5))).drop (i * 5)).take 5) h
  rw [Nat.zero_mul, List.drop_zero, e]; exact this
structure OpL (os : List Opr) (cs : List Value) (hs : List PH) : Prop where
  l1 : cs.length = os.length * 5
  l2 : hs.length = os.length
  own : ∀ (i : Nat) (o : Opr), os[i]? = some o → ∃ v h, (cs.drop (i * 5)).take 5 = [num o.k, num o.a, num o.b, num o.c, v] ∧ hs[i]? = some h ∧ IntsO o.l v h
theorem OpL.nil : OpL [] [] [] := ⟨rfl, rfl, fun i xs h => by simp at h⟩
theorem OpL.snoc {os : List Opr} {cs : List Value} {hs : List PH} (r : OpL os cs hs) {o : Opr} {v : Value} {h : PH} (q : IntsO o.l v h) : OpL (os ++ [o]) (cs ++ [num o.k, num o.a, num o.b, num o.c, v]) (hs ++ [h]) := by
  refine ⟨by simp [r.l1]; omega, by simp [r.l2], fun i y e => ?_⟩
  by_cases hi : i < os.length
  · rw [List.getElem?_append_left hi] at e; have e2 : ((cs ++ [num o.k, num o.a, num o.b, num o.c, v]).drop (i * 5)).take 5 = (cs.drop (i * 5)).take 5 := by
      rw [List.drop_append, List.take_append]; have hl : 5 - (cs.drop (i * 5)).length = 0 := by simp [r.l1]; omega
      rw [hl, List.take_zero, List.append_nil]
    rw [e2, List.getElem?_append_left (by rw [r.l2]; exact hi)]; exact r.own i y e
  · have hlt := (List.getElem?_eq_some_iff.1 e).1
    simp at hlt
    have : i = os.length := by omega
    subst this; rw [List.getElem?_append_right (by omega)] at e
    simp at e
    subst e; refine ⟨v, h, ?_, ?_, q⟩
    · rw [← r.l1, List.drop_left]; rfl
    · rw [← r.l2, List.getElem?_append_right (by omega)]; simp
end Go.Proofs.YtiefkcaplhnnmaaGreat
namespace Go.Proofs.YtiefkcaplhnnmaaGreat
set_option maxRecDepth 100000
open Go.RowKit
structure Mach where
  S : List Ten
  F : List Bool
  D : List Bool
/-- A register's labels. -/
def Mach.ten (s : Mach) (i : Nat) : Ten := s.S.getD i noTen
def Mach.lab (s : Mach) (i : Nat) : List Int := if s.F.getD i false = true then (s.ten i).l else []
def tenF (f : Int → Int) (t : Ten) : Prop := t.d = t.l.map f ∧ t.l.Nodup ∧ (∀ x ∈ t.l, 0 ≤ x ∧ x ≤ 99) ∧ ∀ x ∈ t.l, 1 ≤ f x ∧ f x ≤ 8
theorem tenF.few {f : Int → Int} {t : Ten} (h : tenF f t) : t.l.length ≤ 100 := few_labels h.2.1 h.2.2.1
theorem tenF_no (f : Int → Int) : tenF f noTen := ⟨rfl, List.nodup_nil, fun x h => (List.not_mem_nil h).elim, fun x h => (List.not_mem_nil h).elim⟩
structure Mach.ok (f : Int → Int) (s : Mach) : Prop where
  len : s.S.length = s.F.length
  ten : ∀ t ∈ s.S, tenF f t
theorem Mach.ok.at {f : Int → Int} {s : Mach} (h : s.ok f) (i : Nat) : tenF f (s.ten i) := by
  unfold Mach.ten
  by_cases hi : i < s.S.length
  · have : s.S.getD i noTen = s.S[i] := by simp [List.getD, hi]
    rw [this]; exact h.ten _ (List.getElem_mem hi)
  · have : s.S.getD i noTen = noTen := by simp [List.getD, Nat.le_of_not_lt hi]
    rw [this]; exact tenF_no f
def regIn (s : Mach) (a : Int) : Prop := 0 ≤ a ∧ a < s.F.length
instance (s : Mach) (a : Int) : Decidable (regIn s a) := by unfold regIn; infer_instance
noncomputable def keepI (s : Mach) (o : Opr) : List Int := (joinI (s.ten o.b.toNat).l (s.ten o.c.toNat).l).filter fun x => decide (x ∈ o.l)
noncomputable def Mach.load (ts : List Ten) (s : Mach) (o : Opr) : Mach := ⟨s.S.set o.a.toNat (ts.getD o.b.toNat noTen), s.F.set o.a.toNat true, s.D.set o.b.toNat true⟩
noncomputable def Mach.pair (f : Int → Int) (s : Mach) (o : Opr) : Mach := ⟨s.S.set o.a.toNat ⟨keepI s o, (keepI s o).map f, []⟩, ((s.F.set o.b.toNat false).set o.c.toNat false).set o.a.toNat true, s.D⟩
noncomputable def Mach.next (f : Int → Int) (ts : List Ten) (s : Mach) (o : Opr) : Mach := if o.k = 1 then s.load ts o else s.pair f o
theorem set_ok {f : Int → Int} {S : List Ten} (h : ∀ t ∈ S, tenF f t) {i : Nat} {t : Ten} (ht : tenF f t) : ∀ u ∈ S.set i t, tenF f u := fun u hu => by
  rcases List.mem_or_eq_of_mem_set hu with hu | rfl
  · exact h u hu
  · exact ht
theorem keepI_ok {f : Int → Int} {s : Mach} (h : s.ok f) (o : Opr) : tenF f ⟨keepI s o, (keepI s o).map f, []⟩ := by
  have hb := h.at o.b.toNat; have hc := h.at o.c.toNat; have hm : ∀ x ∈ keepI s o, x ∈ (s.ten o.b.toNat).l ∨ x ∈ (s.ten o.c.toNat).l := fun x hx => mem_joinI.1 (List.mem_filter.1 hx).1; exact ⟨rfl, List.Pairwise.filter _ (joinI_nodup hb.2.1 hc.2.1), fun x hx => (hm x hx).elim (hb.2.2.1 x) (hc.2.2.1 x), fun x hx => (hm x hx).elim (hb.2.2.2 x) (hc.2.2.2 x)⟩
theorem Mach.ok.next {f : Int → Int} {ts : List Ten} {s : Mach} (h : s.ok f) (hts : ∀ t ∈ ts, tenF f t) (o : Opr) : (s.next f ts o).ok f := by
  unfold Mach.next
  split
  · refine ⟨by simp [Mach.load, h.len], set_ok h.ten ?_⟩
    by_cases hi : o.b.toNat < ts.length
    · have e : ts.getD o.b.toNat noTen = ts[o.b.toNat] := by simp [List.getD, hi]
      rw [e]; exact hts _ (List.getElem_mem hi)
    · have e : ts.getD o.b.toNat noTen = noTen := by simp [List.getD, Nat.le_of_not_lt hi]
      rw [e]; exact tenF_no f
  · exact ⟨by simp [Mach.pair, h.len], set_ok h.ten (keepI_ok h o)⟩
end Go.Proofs.YtiefkcaplhnnmaaGreat
namespace Go.Proofs.YtiefkcaplhnnmaaGreat
set_option maxRecDepth 100000
open Go.RowKit
theorem TensL.blank (h : PH) : ∀ m, TensL (List.replicate m noTen) (List.replicate m [Value.slice none 0 0, .slice none 0 0, .slice none 0 0]).flatten h
  | 0 => TensL.nil h
  | m + 1 => by
    have := (TensL.blank h m).snoc (t := noTen) (IntsR.nil h) (IntsR.nil h) (IntsR.nil h); rw [← List.replicate_succ'] at this; rw [show (List.replicate (m + 1) [Value.slice none 0 0, .slice none 0 0, .slice none 0 0]).flatten = (List.replicate m [Value.slice none 0 0, .slice none 0 0, .slice none 0 0]).flatten ++ [Value.slice none 0 0, .slice none 0 0, .slice none 0 0] by rw [List.replicate_succ', List.flatten_append]; simp]; exact this
theorem TensL.put {ts : List Ten} {cs : List Value} {h : PH} (r : TensL ts cs h) {i : Nat} {t : Ten} {a b c : Value} (hi : i < ts.length) (r1 : IntsR t.l a h) (r2 : IntsR t.d b h) (r3 : IntsR t.x c h) : TensL (ts.set i t) (cs.take (i * 3) ++ [a, b, c] ++ cs.drop (i * 3 + 3)) h := by
  have hl := r.1; have key : ∀ m, (m < i * 3 ∨ i * 3 + 3 ≤ m) → (cs.take (i * 3) ++ [a, b, c] ++ cs.drop (i * 3 + 3))[m]? = cs[m]? := fun m hm => by
    rcases hm with hm | hm
    · rw [List.append_assoc, List.getElem?_append_left (by simp; omega), List.getElem?_take, if_pos hm]
    · rw [List.getElem?_append_right (by simp; omega)]; simp only [List.length_append, List.length_take, List.length_cons, List.length_nil, List.getElem?_drop]
      congr 1
      omega
  refine ⟨by simp [hl]; omega, fun j y e => ?_⟩
  by_cases hj : j = i
  · subst hj; rw [List.getElem?_set_self hi] at e
    cases e
    have e2 : ((cs.take (j * 3) ++ [a, b, c] ++ cs.drop (j * 3 + 3)).drop (j * 3)).take 3 = [a, b, c] := by
      have e3 : (cs.take (j * 3)).length = j * 3 := by simp; omega
      rw [List.append_assoc, List.drop_append, e3, Nat.sub_self, List.drop_of_length_le (by omega), List.nil_append, List.drop_zero]
      rfl
    rw [e2]; exact ⟨a, b, c, rfl, r1, r2, r3⟩
  · rw [List.getElem?_set_ne (Ne.symm hj)] at e; have e2 : ((cs.take (i * 3) ++ [a, b, c] ++ cs.drop (i * 3 + 3)).drop (j * 3)).take 3 = (cs.drop (j * 3)).take 3 := by
      apply List.ext_getElem?
      intro m; rw [List.getElem?_take, List.getElem?_take]
      split
      · rw [List.getElem?_drop, List.getElem?_drop, key _ (by omega)]
      · rfl
    rw [e2]; exact r.2 j y e
end Go.Proofs.YtiefkcaplhnnmaaGreat
namespace Go.Proofs.YtiefkcaplhnnmaaGreat
set_option maxRecDepth 100000
open Go.RowKit
structure Reg where
  f : Bool
  l : List Int
def RegR (x : Reg) (cs : List Value) (h : PH) : Prop := ∃ v, cs = [.bool x.f, v] ∧ IntsR x.l v h
theorem RegR.mono {x : Reg} {cs : List Value} {h h' : PH} (r : RegR x cs h) (l : PLe h h') : RegR x cs h' := by
  obtain ⟨v, e, r1⟩ := r; exact ⟨v, e, r1.mono l⟩
def RegsR (xs : List Reg) (v : Value) (h : PH) : Prop := RowsR 2 RegR xs v h
theorem RegsR.mono {xs : List Reg} {v : Value} {h h' : PH} (r : RegsR xs v h) (l : PLe h h') : RegsR xs v h' := RowsR.mono (R := RegR) RegR.mono r l
theorem RegsR.sl {xs : List Reg} {v : Value} {h : PH} (r : RegsR xs v h) : SlL v xs.length := RowsR.sl r
theorem RegsR.le {xs : List Reg} {v : Value} {h : PH} (r : RegsR xs v h) : (xs.length : Int) ≤ 9223372036854775807 := RowsR.le r
theorem RegsR.at {xs : List Reg} {v : Value} {h : PH} (r : RegsR xs v h) : ∃ cells, RowR cells xs.length 2 v h ∧ ∀ i, i < xs.length → ∃ x a, xs[i]? = some x ∧ (cells.drop (i * 2)).take 2 = [.bool x.f, a] ∧ IntsR x.l a h := by
  obtain ⟨cells, rr, hc⟩ := r; refine ⟨cells, rr, fun i hi => ?_⟩; have ht : xs[i]? = some xs[i] := List.getElem?_eq_getElem hi; obtain ⟨a, e, r1⟩ := hc i _ ht; exact ⟨_, a, ht, e, r1⟩
def Mach.regs (s : Mach) : List Reg := (List.range s.F.length).map fun i => ⟨s.F.getD i false, s.lab i⟩
abbrev mcCells (k p n : Int) (vt vo vr vd : Value) : List Value := [num k, num p, num n, vt, vo, vr, vd]
structure McR (k p n : Int) (s : Mach) (vt vo vr vd : Value) (b : Nat) (h : PH) : Prop where
  c : ∀ (j : Nat) (u : Value), (mcCells k p n vt vo vr vd)[j]? = some u → cellP h b j = some u
  r : RegsR s.regs vr h
  d : BoolsR s.D vd h
theorem McR.mono {k p n : Int} {s : Mach} {vt vo vr vd : Value} {b : Nat} {h h' : PH} (m : McR k p n s vt vo vr vd b h) (l : PLe h h') : McR k p n s vt vo vr vd b h' := ⟨fun j u e => cellP.mono l (m.c j u e), m.r.mono l, m.d.mono l⟩
def goodL (l : List Int) : Prop := l.Nodup ∧ ∀ y ∈ l, 0 ≤ y ∧ y ≤ 99
theorem goodL.few {l : List Int} (h : goodL l) : l.length ≤ 100 := few_labels h.1 h.2
theorem goodL.join {a b : List Int} (ha : goodL a) (hb : goodL b) : goodL (joinI a b) := ⟨joinI_nodup ha.1 hb.1, fun y hy => (mem_joinI.1 hy).elim (ha.2 y) (hb.2 y)⟩
end Go.Proofs.YtiefkcaplhnnmaaGreat
namespace Go.Proofs.YtiefkcaplhnnmaaGreat
set_option maxRecDepth 100000
open Go.RowKit
def RegL (xs : List Reg) (cs : List Value) (h : PH) : Prop := cs.length = xs.length * 2 ∧ ∀ (i : Nat) (x : Reg), xs[i]? = some x → RegR x ((cs.drop (i * 2)).take 2) h
theorem RegL.mono {xs : List Reg} {cs : List Value} {h h' : PH} (r : RegL xs cs h) (l : PLe h h') : RegL xs cs h' := ⟨r.1, fun i x e => (r.2 i x e).mono l⟩
theorem RegL.regs {xs : List Reg} {cs : List Value} {v : Value} {h : PH} (r : RegL xs cs h) (rr : RowR cs xs.length 2 v h) : RegsR xs v h := ⟨cs, rr, r.2⟩
theorem RegL.blank (r : Nat) (h : PH) : RegL (List.replicate r ⟨false, []⟩) (List.replicate r [Value.bool false, .slice none 0 0]).flatten h := by
  have hl : ∀ l ∈ List.replicate r [Value.bool false, .slice none 0 0], l.length = 2 := fun l hl => by rw [List.eq_of_mem_replicate hl]; rfl
  refine ⟨by rw [flat_length hl]; simp, fun i x hx => ?_⟩; have e : x = ⟨false, []⟩ := List.eq_of_mem_replicate (List.mem_of_getElem? hx); have hi := (List.getElem?_eq_some_iff.1 hx).1; rw [List.length_replicate] at hi; rw [flat_get hl (l := [Value.bool false, .slice none 0 0]) (by simp [hi]), e]; exact ⟨_, rfl, IntsR.nil _⟩
theorem RegL.put {xs : List Reg} {cs : List Value} {h : PH} (r : RegL xs cs h) {i : Nat} {b : Bool} {l : List Int} {v : Value} (hi : i < xs.length) (r1 : IntsR l v h) : RegL (xs.set i ⟨b, l⟩) (cs.take (i * 2) ++ [.bool b, v] ++ cs.drop (i * 2 + 2)) h := by
  have hl := r.1; have key : ∀ m, (m < i * 2 ∨ i * 2 + 2 ≤ m) → (cs.take (i * 2) ++ [.bool b, v] ++ cs.drop (i * 2 + 2))[m]? = cs[m]? := fun m hm => by
    rcases hm with hm | hm
    · rw [List.append_assoc, List.getElem?_append_left (by simp; omega), List.getElem?_take, if_pos hm]
    · rw [List.getElem?_append_right (by simp; omega)]; simp only [List.length_append, List.length_take, List.length_cons, List.length_nil, List.getElem?_drop]
      congr 1
      omega
  refine ⟨by simp [hl]; omega, fun j y e => ?_⟩
  by_cases hj : j = i
  · subst hj; rw [List.getElem?_set_self hi] at e
    cases e
    have e2 : ((cs.take (j * 2) ++ [.bool b, v] ++ cs.drop (j * 2 + 2)).drop (j * 2)).take 2 = [.bool b, v] := by
      have e3 : (cs.take (j * 2)).length = j * 2 := by simp; omega
      rw [List.append_assoc, List.drop_append, e3, Nat.sub_self, List.drop_of_length_le (by omega), List.nil_append, List.drop_zero]
      rfl
    rw [e2]; exact ⟨v, rfl, r1⟩
  · rw [List.getElem?_set_ne (Ne.symm hj)] at e; have e2 : ((cs.take (i * 2) ++ [.bool b, v] ++ cs.drop (i * 2 + 2)).drop (j * 2)).take 2 = (cs.drop (j * 2)).take 2 := by
      apply List.ext_getElem?
      intro m; rw [List.getElem?_take, List.getElem?_take]
      split
      · rw [List.getElem?_drop, List.getElem?_drop, key _ (by omega)]
      · rfl
    rw [e2]; exact r.2 j y e
end Go.Proofs.YtiefkcaplhnnmaaGreat
namespace Go.Proofs.YtiefkcaplhnnmaaGreat
set_option maxRecDepth 100000
open Go.RowKit
theorem OwnH.tensR {us : List Ten} {cs : List Value} {v : Value} {ha hl H : PH} (o : OwnH (flat us) cs hl) (rr : RowR cs us.length 3 v ha) (la : PLe ha H) (ll : PLe hl H) : TensR us v H :=
  ((tensL_of rr o.at).mono ll).tens (rr.mono la)
end Go.Proofs.YtiefkcaplhnnmaaGreat
namespace Go.Proofs.YtiefkcaplhnnmaaGreat
set_option maxRecDepth 100000
open Go.RowKit
def FillR (k p n : Int) (vb vp : Value) (u : Value) (h : PH) : Prop := ∃ hc ht t a b c, u = tenV a b c ∧ CurO vb vp hc ∧ TriO t a b c ht ∧ GenT k p n t ∧ Made h [hc, ht] ∧ IntsR t.l a h ∧ IntsR t.d b h ∧ IntsR t.x c h
theorem ct_s_l05DrawR (k p n : Int) (xs : List Int) (vb vp : Value) (w : World) (h : PH) (hle : PLe h (hp w)) (rc : CurO vb vp h) (rb : BytesR xs vb (restP w h)) (hr : ringL k p n) :
    Calls Tryz.prog 74 [vp, ringV k p n].toArray w (Ret w h (FillR k p n vb vp)) :=
  (ct_s_l05Draw k p n xs vb vp w h hle rc rb hr).mono fun e w' ⟨u, h', he, up, hc, ht, t, cu, ⟨a, b, c, hu, o⟩, hg, md⟩ =>
    ⟨u, h', he, up, hc, ht, t, a, b, c, hu, cu, o, hg, md, o.toR.1.mono (md.le ht (by simp)), o.toR.2.1.mono (md.le ht (by simp)), o.toR.2.2.mono (md.le ht (by simp))⟩
set_option maxHeartbeats 2000000 in
theorem ct_s_l12Net (k p n : Int) (xs : List Int) (vb vp : Value) (w : World) (h : PH) (hle : PLe h (hp w)) (rc : CurO vb vp h) (rb : BytesR xs vb (restP w h)) (hr : ringL k p n) :
    Calls Tryz.prog 35 [vp, ringV k p n, num 4].toArray w (Ret w h (NetGM k p n vb vp)) := by
  refine calls_in Tryz.func35 rfl Tryz.ntmps35 rfl (Sat.start2 hle) ?_; have hle1 := rb.le; refine wp_sc (wp_sq ?_); refine sq_x rfl (x_box rfl rfl) rfl ?_; rintro _ _ ⟨b4, rfl, rfl⟩; refine sq_x rfl (x_alloc ty_29 rfl) rfl ?_; rintro _ _ ⟨b6, rfl, rfl⟩; refine sq_end (qs_n (wp_sc (wp_sq (sq_v rfl (v_loadNB 1 ty_24 rfl rfl rfl rfl) rfl (sq_v rfl (v_build [num k, num p, num n, .slice none 0 0, .slice none 0 0] rfl (by kernel_rfl)) rfl ?_))))); refine sq_x rfl (x_alloc ty_29 rfl) rfl ?_; rintro _ _ ⟨b7, rfl, rfl⟩; refine sq_m 0 rfl rfl (m_store 0 ty_29 rfl rfl rfl rfl (by simp [one_int, one_sl]) rfl (Nat.le_of_ble_eq_true rfl)) rfl ?_; rintro _ _ ⟨rfl, rfl⟩; refine sq_end (qs_n (wp_sc (wp_sc (wp_sq (sq_v rfl (v_move rfl) rfl (sq_v rfl (v_move rfl) rfl ?_)))))); refine sq_v rfl (v_add rfl rfl ((by unfold I64; omega))) rfl ?_; refine sq_m 3 rfl rfl (x_call rfl en_71 (fun w s => ct_s_l01Below _ _ _ _ w _ (s.get 3 rfl) rc (rb.mono (s.getR 3 4 rfl rfl (by decide))) (by omega))) rfl ?_; rintro _ h16 ⟨x16, rfl, hx16, hy16, cu16⟩; refine sq_v rfl (v_assign rfl) rfl (sq_end (qs_n (wp_bl ?_))); refine wp_lp (σ := Int × PH × Value × PH × (List Value) × PH × (List Ten)) (fun z_ => [(0, vp), (4, .pointer (some ⟨b4, 0, none⟩)), (6, .pointer (some ⟨b6, 0, none⟩)), (7, .pointer (some ⟨b7, 0, none⟩)), (8, num z_.1)]) (fun z_ => [z_.2.2.2.1, z_.2.2.2.2.2.1, box b7 [num k, num p, num n, z_.2.2.1, .slice none 0 0] 29, box b6 [num 0, num 0, num 0, .slice none 0 0, .slice none 0 0] 29, box b4 [num k, num p, num n] 24, z_.2.1, (restP w h)]) (fun z_ => (0 ≤ z_.1 ∧ z_.1 + z_.2.2.2.2.2.2.length ≤ 4) ∧ OwnH (flat z_.2.2.2.2.2.2) z_.2.2.2.2.1 z_.2.2.2.2.2.1 ∧ (∀ t ∈ z_.2.2.2.2.2.2, GenT k p n t) ∧ CurO vb vp z_.2.1 ∧ RowO (55) z_.2.2.2.2.1 z_.2.2.2.2.2.2.length 3 z_.2.2.1 z_.2.2.2.1) (fun z_ => z_.1.toNat) (x16, h16, .slice none 0 0, emp, [], emp, []) (⟨by (try dsimp only); simp; omega, OwnH.nil, (fun t ht => (List.not_mem_nil ht).elim), cu16, RowO.nil⟩) ⟨rfl, rfl, rfl, rfl, (by first | rfl | exact ksub rfl (by first | omega | (simp; done) | (simp; omega))), trivial⟩ (fun _ s => (emp_sat (emp_sat s))) ?_; rintro ⟨e, hc, vt, ht, cs, ho, ts⟩ ⟨he, how, hts, cu, q⟩; dsimp only at he how hts cu q ⊢; refine wp_sc (wp_sc (wp_sq (sq_v rfl (v_move rfl) rfl (sq_v rfl (v_gtr rfl rfl) rfl (sq_end (qs_n ?_)))))); refine wp_cd rfl (fun c18 => ?_) (fun c18 => ?_)
  · refine wp_sk (qs_n (wp_sc (wp_bl (wp_rk [false, false, false, false, false, true, false] 6 [(0, true), (1, true), (2, true), (3, true), (4, false), (5, false), (6, false), (7, false), (8, false)] mixed_ok (by kernel_rfl) (rk_v rfl rfl (v_fieldAddr fd_29_1 ty_26 (by decide) rfl) rfl (rk_v rfl rfl (v_loadB 2 ty_26 rfl rfl rfl) rfl (rk_v rfl rfl (v_move rfl) rfl (rk_v rfl rfl (v_loadNB 4 ty_24 rfl rfl rfl rfl) rfl ?_)))))))); refine rk_m 5 rfl rfl rfl rfl (x_call rfl en_74 (fun w s => ct_s_l05DrawR k p n xs vb vp w _ (s.get 5 rfl) cu (rb.mono (s.getR 5 6 rfl rfl (by decide))) hr)) rfl ?_; rintro _ h25 ⟨hc25, ht25, t25, a25, b25, c25, rfl, cu25, o25, hg25, md25, ra25, rb25, rc25⟩; refine rk_x rfl rfl (x_buildS [.agg [a25, b25, c25].toArray] Tryz.underlying26 ty_55 (by decide) rfl rfl rfl (by decide) (by decide) (by intro v hv; simp at hv; subst hv; rfl)) rfl ?_; intro v26 h26 (r26 : RowO 55 [a25, b25, c25] 1 3 v26 h26); refine rk_mt 1 rfl rfl rfl rfl (m_append 1 0 Tryz.underlying26 ty_55 rfl rfl (by decide) rfl rfl rfl q rfl r26.toR (by simp [ra25.sl.one, rb25.sl.one, rc25.sl.one]) (by unfold maxLen; omega) (by omega)) rfl ?_; intro v27 h_r27 (r27 : RowO 55 (cs ++ [a25, b25, c25]) (ts.length + 1) 3 v27 h_r27); refine rk_fv rfl rfl (v_fieldAddr fd_29_1 ty_26 (by decide) rfl) rfl ?_; refine rk_mt 3 rfl rfl rfl rfl (m_store1 3 ty_26 rfl rfl r27.toR.sl.one rfl (Nat.le_of_ble_eq_true rfl)) rfl ?_; rintro _ _ ⟨rfl, rfl⟩; refine rk_end (qs_s [h26, h_r27, ho, box b7 [num k, num p, num n, v27, .slice none 0 0] 29, box b6 [num 0, num 0, num 0, .slice none 0 0, .slice none 0 0] 29, box b4 [num k, num p, num n] 24, (restP w h), hc25, ht25] (fun _ s => Sat.open (A := [h26, h_r27, ho, box b7 [num k, num p, num n, v27, .slice none 0 0] 29, box b6 [num 0, num 0, num 0, .slice none 0 0, .slice none 0 0] 29, box b4 [num k, num p, num n] 24, (restP w h)]) md25 (s.pick [6, 0, 1, 2, 3, 4, 5, 7] (by decide) rfl)) ?_); refine qs_dj 2 8 rfl rfl rfl (fun hd1 => ?_); refine qs_s [PUn ho ht25, _, _, _, _, _, _] (fun _ s => Sat.merge (s.pick [2, 8, 6, 7, 1, 3, 4, 5] (by decide) rfl)) (qs_bn (qs_n (wp_sq (sq_v rfl (v_move rfl) rfl ?_)))); refine sq_v rfl (v_sub rfl rfl ((by unfold I64; omega))) rfl ?_; refine sq_v rfl (v_assign rfl) rfl (sq_end ?_); exact qs_bk ((e - 1), hc25, v27, h_r27, (cs ++ [a25, b25, c25]), (PUn ho ht25), (ts ++ [t25])) ⟨by (try dsimp only); simp; omega, how.snoc o25 hd1, (fun t h9 => by rcases List.mem_append.1 h9 with h8 | h8; exact hts t h8; rw [List.mem_singleton.1 h8]; exact hg25), cu25, by (try dsimp only); rw [List.length_append]; exact r27⟩ (by simp only; omega) ⟨rfl, rfl, rfl, rfl, (by first | rfl | exact ksub rfl (by first | omega | (simp; done) | (simp; omega))), trivial⟩ (fun _ s => s.pick [3, 0, 4, 5, 6, 2, 1] (by decide) rfl)
  · refine wp_ex (qs_x (qs_x (qs_bx (qs_n (wp_sc (wp_sc (wp_sq (sq_v rfl (v_move rfl) rfl (sq_v rfl (v_fieldAddr fd_29_1 ty_26 (by decide) rfl) rfl (sq_v rfl (v_loadB 2 ty_26 rfl rfl rfl) rfl ?_)))))))))); refine sq_x rfl (x_call rfl en_76 (fun w s => ct_s_l12Labels ts _ w (OwnH.tensR how q.toR (s.get 0 rfl) (s.get 1 rfl)) (fun t h9 => axes_ok (tensor_axes (hts t h9).1)))) rfl ?_; rintro v32 h32 r32; have hlb : (labelsL ts).length ≤ 100 := labels_len ts 100; refine sq_m 6 rfl rfl (x_call rfl en_75 (fun w s => ct_s_l06Shuffle (fun x => x ∈ labelsL ts) xs (labelsL ts) vb vp v32 w _ (s.get 6 rfl) cu (rb.mono (s.getR 6 7 rfl rfl (by decide))) (r32.toR.mono (s.getR 6 0 rfl rfl (by decide))) (labels_nodup ts 100) (fun _ h9 => h9) (by omega))) rfl ?_; rintro v33 h33 ⟨hc33, hx33, ys33, cu33, r33, hl33, hn33, hs33, md33⟩; refine sq_v rfl (v_len Tryz.underlying27 rfl (r33.toR.mono (md33.le hx33 (by simp))).sl) rfl (sq_v rfl (v_move rfl) rfl (sq_end (qs_s [h32, ht, ho, box b7 [num k, num p, num n, vt, .slice none 0 0] 29, box b6 [num 0, num 0, num 0, .slice none 0 0, .slice none 0 0] 29, box b4 [num k, num p, num n] 24, (restP w h), hc33, hx33] (fun _ s => Sat.open (A := [h32, ht, ho, box b7 [num k, num p, num n, vt, .slice none 0 0] 29, box b6 [num 0, num 0, num 0, .slice none 0 0, .slice none 0 0] 29, box b4 [num k, num p, num n] 24, (restP w h)]) md33 (s.pick [6, 0, 1, 2, 3, 4, 5, 7] (by decide) rfl)) ?_)))
    skip
    refine qs_n (wp_bl ?_); refine wp_lp (σ := Nat × PH × Value × PH × (List Int)) (fun z_ => [(0, vp), (6, .pointer (some ⟨b6, 0, none⟩)), (7, .pointer (some ⟨b7, 0, none⟩)), (29, vp), (33, v33), (34, num ys33.length), (35, num z_.1)]) (fun z_ => [z_.2.2.2.1, h32, ht, ho, box b7 [num k, num p, num n, vt, z_.2.2.1] 29, box b6 [num 0, num 0, num 0, .slice none 0 0, .slice none 0 0] 29, box b4 [num k, num p, num n] 24, (restP w h), z_.2.1, hx33]) (fun z_ => z_.1 ≤ ys33.length ∧ z_.2.2.2.2.length ≤ z_.1 ∧ (z_.2.2.2.2.Nodup ∧ ∀ x ∈ z_.2.2.2.2, x ∈ ys33.take z_.1) ∧ CurO vb vp z_.2.1 ∧ IntsO z_.2.2.2.2 z_.2.2.1 z_.2.2.2.1) (fun z_ => ys33.length - z_.1) (0, hc33, .slice none 0 0, emp, []) (⟨by (try dsimp only); omega, Nat.le_refl _, ⟨List.nodup_nil, fun x hx => (List.not_mem_nil hx).elim⟩, cu33, IntsO.nil⟩) ⟨rfl, rfl, rfl, rfl, rfl, rfl, (by first | rfl | exact ksub rfl (by first | omega | (simp; done) | (simp; omega))), trivial⟩ (fun _ s => (emp_sat s)) ?_; rintro ⟨j, hc, vo, hop, op⟩ ⟨hj, hol, hon, cu2, qo⟩; dsimp only at hj hol hon cu2 qo ⊢; have hle_qo := qo.toR.le; refine wp_sc (wp_sq (sq_v rfl (v_lss rfl rfl) rfl (sq_end (qs_n (wp_sc ?_))))); refine wp_cd rfl (fun c36 => ?_) (fun c36 => ?_)
    · refine wp_sk (qs_n (wp_sc (wp_bl (wp_sc (wp_sq ?_))))); refine sq_v rfl (v_idxI Tryz.underlying27 ty_3 rfl rfl r33.toR (by first | omega | (simp; omega) | (simp only [List.length_append, List.length_cons, List.length_nil]; omega) | (rw [List.length_set]; omega)) (by first | omega | (simp; omega) | (simp only [List.length_append, List.length_cons, List.length_nil]; omega) | (rw [List.length_set]; omega))) rfl ?_; refine sq_v rfl (v_loadI (k := j) 9 ty_3 rfl rfl r33.toR (by first | omega | (simp; omega) | (simp only [List.length_append, List.length_cons, List.length_nil]; omega) | (rw [List.length_set]; omega))) rfl ?_; refine sq_v rfl (v_assign rfl) rfl (sq_end ?_); have htk : ys33.take (j + 1) = ys33.take j ++ [ys33.getD j 0] := take_succ (by omega); have hnt := nodup_not_take hn33 (show j < ys33.length by omega); refine qs_n (wp_sc (wp_sq (sq_v rfl (v_move rfl) rfl ?_))); refine sq_m 8 rfl rfl (x_call rfl en_77 (fun w s => ct_s_l01Once _ _ _ _ w _ (s.get 8 rfl) cu2 (rb.mono (s.getR 8 7 rfl rfl (by decide))) (by omega))) rfl ?_; rintro _ h40 ⟨y40, rfl, cu40⟩; refine sq_end (qs_n ?_); refine wp_cb _ rfl (fun c40 => ?_) (fun c40 => ?_)
      · refine wp_sq (sq_v rfl (v_fieldAddr fd_29_2 ty_27 (by decide) rfl) rfl (sq_v rfl (v_loadB 4 ty_27 rfl rfl rfl) rfl (sq_v rfl (v_move rfl) rfl ?_))); refine sq_x rfl (x_buildS [num (ys33.getD j 0)] Tryz.underlying27 ty_3 (by decide) rfl rfl rfl (by decide) (by decide) (by intro v hv; simp at hv; rcases hv with rfl <;> rfl)) rfl ?_; intro v44 h44 (r44 : IntsO [ys33.getD j 0] v44 h44); refine sq_m 1 rfl rfl (m_appI 1 0 Tryz.underlying27 ty_3 rfl rfl rfl rfl qo rfl r44.toR (by first | omega | (simp; omega) | (simp only [List.length_append, List.length_cons, List.length_nil]; omega) | (rw [List.length_set]; omega))) rfl ?_; intro v45 h_r45 r45; refine sq_v rfl (v_fieldAddr fd_29_2 ty_27 (by decide) rfl) rfl ?_; refine sq_m 5 rfl rfl (m_store1 5 ty_27 rfl rfl r45.toR.sl.one rfl (Nat.le_of_ble_eq_true rfl)) rfl ?_; rintro _ _ ⟨rfl, rfl⟩; refine sq_end (qs_bn (qs_n (wp_sq ?_))); refine sq_v rfl (v_add rfl rfl ((by unfold I64; omega))) rfl ?_; refine sq_v rfl (v_move rfl) rfl (sq_end ?_); exact qs_bk (j + 1, h40, v45, h_r45, (op ++ [ys33.getD j 0])) ⟨by (try dsimp only); omega, by (try dsimp only); simp; omega, ⟨List.nodup_append.2 ⟨hon.1, by simp, fun a ha b hb => by rw [List.mem_singleton.1 hb]; intro e9; exact hnt (e9 ▸ hon.2 a ha)⟩, fun x hx => by rw [htk]; rcases List.mem_append.1 hx with h9 | h9; exact List.mem_append_left _ (hon.2 x h9); exact List.mem_append_right _ h9⟩, cu40, r45⟩ (by simp only; omega) ⟨rfl, rfl, rfl, rfl, rfl, rfl, (by first | rfl | exact ksub rfl (by first | omega | (simp; done) | (simp; omega))), trivial⟩ (fun _ s => s.pick [1, 2, 3, 4, 5, 6, 7, 8, 9, 10] (by decide) rfl)
      · refine wp_sk (qs_bn (qs_n (wp_sq ?_))); refine sq_v rfl (v_add rfl rfl ((by unfold I64; omega))) rfl ?_; refine sq_v rfl (v_move rfl) rfl (sq_end ?_); exact qs_bk (j + 1, h40, vo, hop, op) ⟨by (try dsimp only); omega, by (try dsimp only); omega, ⟨hon.1, fun x hx => by rw [htk]; exact List.mem_append_left _ (hon.2 x hx)⟩, cu40, qo⟩ (by simp only; omega) ⟨rfl, rfl, rfl, rfl, rfl, rfl, (by first | rfl | exact ksub rfl (by first | omega | (simp; done) | (simp; omega))), trivial⟩ (fun _ s => s)
    · refine wp_ex (qs_x (qs_x (qs_bx (qs_n (wp_sc (wp_sq (sq_v rfl (v_loadNB 4 ty_29 rfl rfl rfl rfl) rfl ?_))))))); refine sq_m 5 rfl rfl (m_store 5 ty_29 rfl rfl rfl rfl (by simp [one_int, q.toR.sl.one, qo.toR.sl.one]) rfl (Nat.le_of_ble_eq_true rfl)) rfl ?_; rintro _ _ ⟨rfl, rfl⟩; refine sq_end (qs_n (wp_rt ?_)); refine qs_close [restP w h, hc, _] [ht, hop, ho] (fun _ s => s.pick [7, 8, 5, 2, 0, 3] (by decide) rfl) (fun md1 => ?_); refine qs_close [restP w h, _] [hc, joinP [ht, hop, ho]] (fun _ s => s.pick [1, 3, 2, 0] (by decide) rfl) (fun md2 => ?_); exact qs_retc 2 rfl ty_29 rfl rfl rfl (fin_m (i := 1) 0 rfl rfl rfl ⟨hc, _, ts, op, cu2, ⟨vt, vo, rfl, NetO.join q qo how md1⟩, ⟨hts, by omega, hon.1, fun x hx => hs33 x (List.mem_of_mem_take (hon.2 x hx))⟩, md2⟩)
end Go.Proofs.YtiefkcaplhnnmaaGreat
namespace Go.Proofs.YtiefkcaplhnnmaaGreat
set_option maxRecDepth 100000
open Go.RowKit
theorem ct_s_MakeSelective (m : Int) (xs : List Int) (vb : Value) (w : World) (rb : BytesR xs vb (hp w)) (hxl : xs.length ≤ 1048576) (hm : 0 ≤ m ∧ m ≤ 1000) : Calls Tryz.prog 16 [vb, num m].toArray w (Ret w emp (fun u h' => ∃ k p n ts op, (ringL k p n ∧ (k = 1 ∨ k = 4 ∨ k = 5)) ∧ NetT k p n ts op u h' ∧ GenN k p n ts op)) := by
  refine calls_in Tryz.func16 rfl Tryz.ntmps16 rfl (Sat.start w) ?_; have hle0 := rb.le; refine wp_sc (wp_sq ?_); refine sq_x rfl (x_alloc ty_29 rfl) rfl ?_; rintro _ _ ⟨b4, rfl, rfl⟩; refine sq_end (qs_n (wp_sc (wp_sq (sq_v rfl (v_move rfl) rfl (sq_v rfl (v_move rfl) rfl ?_))))); refine sq_x rfl (x_call rfl en_34 (fun w s => ct_s_l45At _ _ _ w (rb.mono (s.get 1 rfl)) (by first | assumption | omega) (by first | assumption | omega))) rfl ?_; rintro v8 h8 r8; refine sq_v rfl (v_assign rfl) rfl (sq_end (qs_n (wp_sc (wp_sq (sq_v rfl (v_move rfl) rfl (sq_v rfl (v_move rfl) rfl ?_)))))); refine sq_m 0 rfl rfl (x_call rfl en_52 (fun w s => ct_s_l29Ring xs vb v8 w _ (s.get 0 rfl) r8 (rb.mono (s.getR 0 2 rfl rfl (by decide))))) rfl ?_; rintro _ h11 ⟨k11, p11, n11, rfl, hr11, hk11, cu11⟩; refine sq_m 0 rfl rfl (x_call rfl en_35 (fun w s => ct_s_l12Net k11 p11 n11 xs vb v8 w _ (s.get 0 rfl) cu11 (rb.mono (s.getR 0 2 rfl rfl (by decide))) hr11)) rfl ?_; rintro _ h12 ⟨hc12, hn12, ts, op, cu12, ⟨vt, vo, rfl, o12⟩, hg12, md12⟩; refine sq_m 1 rfl rfl (m_store 1 ty_29 rfl rfl rfl rfl (by simp [one_int, o12.toR.1.sl.one, o12.toR.2.sl.one]) rfl (Nat.le_of_ble_eq_true rfl)) rfl ?_; rintro _ _ ⟨rfl, rfl⟩; refine sq_end (qs_s [box b4 [num k11, num p11, num n11, vt, vo] 29, hp w, hc12, hn12] (fun _ s => Sat.open (A := [box b4 [num k11, num p11, num n11, vt, vo] 29, hp w]) md12 (s.pick [0, 1, 2] (by decide) rfl)) (qs_n (wp_rt ?_))); exact qs_retc 0 rfl ty_29 rfl rfl rfl (fin_t 3 (i := 1) rfl rfl rfl ⟨k11, p11, n11, ts, op, ⟨hr11, hk11⟩, ⟨vt, vo, rfl, o12⟩, hg12⟩)
def ValsM (ds : List Int) (vb vp : Value) (u : Value) (h : PH) : Prop := ∃ hc hx ys, CurO vb vp hc ∧ IntsO ys u hx ∧ ys.length = ds.length ∧ (∀ j, j < ds.length → 0 ≤ ys.getD j 0 ∧ ys.getD j 0 < ds.getD j 0) ∧ Made h [hc, hx]
set_option maxHeartbeats 1000000 in
theorem ct_s_l12Values (k p n : Int) (xs : List Int) (ts : List Ten) (op : List Int) (vb vp vt vo : Value) (w : World) (h : PH) (hle : PLe h (hp w)) (rc : CurO vb vp h) (rb : BytesR xs vb (restP w h)) (r : TensR ts vt (restP w h)) (r' : IntsR op vo (restP w h)) (hs : op.length ≤ 1048576) (hok : ∀ t ∈ ts, AxOK t) (hd : ∀ j, j < (dimsFor ts (labelsOf k p n ts op)).length → 1 ≤ (dimsFor ts (labelsOf k p n ts op)).getD j 0) (hl : (labelsOf k p n ts op).length ≤ 1000) :
    Calls Tryz.prog 40 [vp, netV k p n vt vo].toArray w (Ret w h (ValsM (dimsFor ts (labelsOf k p n ts op)) vb vp)) := by
  have hdl : (dimsFor ts (labelsOf k p n ts op)).length = (labelsOf k p n ts op).length := by simp [dimsFor]
  refine calls_in Tryz.func40 rfl Tryz.ntmps40 rfl (Sat.start2 hle) ?_; have hle1 := rb.le; have hle2 := r.le; obtain ⟨cs_r, rr_r, hc_r⟩ := r.at; have hle3 := r'.le; refine wp_sc (wp_sq ?_); refine sq_x rfl (x_box rfl rfl) rfl ?_; rintro _ _ ⟨b3, rfl, rfl⟩; refine sq_v rfl (v_assign rfl) rfl (sq_end (qs_n (wp_sc (wp_sq ?_)))); refine sq_x rfl (x_build0 Tryz.underlying27 ty_3) rfl ?_; intro v8 h8 (r8 : IntsO [] v8 h8); refine sq_v rfl (v_assign rfl) rfl (sq_end (qs_n (wp_sc (wp_sc (wp_rj 7 [(0, true), (1, true), (2, true), (6, true), (3, false), (4, false), (5, true)] mixed_ok (by kernel_rfl) (rj_v rfl rfl (v_fieldAddr fd_29_1 ty_26 (by decide) rfl) rfl (rj_v rfl rfl (v_loadB 1 ty_26 rfl rfl rfl) rfl (rj_v rfl rfl (v_loadNB 1 ty_29 rfl rfl rfl rfl) rfl (rj_v rfl rfl (v_move rfl) rfl ?_))))))))); refine rj_x rfl rfl (x_call rfl en_84 (fun w s => ct_s_LabelsOf _ _ _ _ _ _ _ w (r.mono (s.get 3 rfl)) (r'.mono (s.get 3 rfl)) (by first | assumption | omega))) rfl ?_; rintro v12 h12 r12; refine rj_x rfl rfl (x_call rfl en_83 (fun w s => ct_s_l12Dims _ _ _ _ w (r.mono (s.get 4 rfl)) (r12.toR.mono (s.get 0 rfl)) (by first | assumption | omega) (by first | assumption | omega))) rfl ?_; rintro v13 h13 r13; refine rj_v rfl rfl (v_len Tryz.underlying27 rfl r13.toR.sl) rfl (rj_end (qs_n (wp_bl ?_))); refine wp_lp (σ := Nat × PH × Value × PH × (List Int)) (fun z_ => [(0, vp), (4, .slice none 0 0), (5, z_.2.2.1), (13, v13), (14, num (dimsFor ts (labelsOf k p n ts op)).length), (15, num z_.1)]) (fun z_ => [z_.2.2.2.1, h13, h12, box b3 [num k, num p, num n, vt, vo] 29, z_.2.1, (restP w h)]) (fun z_ => z_.1 ≤ (dimsFor ts (labelsOf k p n ts op)).length ∧ z_.2.2.2.2.length = z_.1 ∧ (∀ i, i < z_.1 → 0 ≤ z_.2.2.2.2.getD i 0 ∧ z_.2.2.2.2.getD i 0 < (dimsFor ts (labelsOf k p n ts op)).getD i 0) ∧ CurO vb vp z_.2.1 ∧ IntsO z_.2.2.2.2 z_.2.2.1 z_.2.2.2.1) (fun z_ => (dimsFor ts (labelsOf k p n ts op)).length - z_.1) (0, h, v8, h8, []) (⟨by (try dsimp only); omega, rfl, (fun i hi => by omega), rc, r8⟩) ⟨rfl, rfl, (by first | rfl | exact ksub rfl (by first | omega | (simp; done) | (simp; omega))), rfl, rfl, (by first | rfl | exact ksub rfl (by first | omega | (simp; done) | (simp; omega))), trivial⟩ (fun _ s => s.pick [2, 0, 1, 3, 4, 5] (by decide) rfl) ?_; rintro ⟨j, hc, vx, hx, ys⟩ ⟨hj, hyl, hyr, cu, q⟩; dsimp only at hj hyl hyr cu q ⊢; have hle_q := q.toR.le; refine wp_sc (wp_sq (sq_v rfl (v_lss rfl rfl) rfl (sq_end (qs_n (wp_sc ?_))))); refine wp_cd rfl (fun c16 => ?_) (fun c16 => ?_)
  · refine wp_sk (qs_n (wp_sc (wp_bl (wp_sc (wp_sq ?_))))); refine sq_v rfl (v_idxI Tryz.underlying27 ty_3 rfl rfl r13.toR (by first | omega | (simp; omega) | (simp only [List.length_append, List.length_cons, List.length_nil]; omega) | (rw [List.length_set]; omega)) (by first | omega | (simp; omega) | (simp only [List.length_append, List.length_cons, List.length_nil]; omega) | (rw [List.length_set]; omega))) rfl ?_; refine sq_v rfl (v_loadI (k := j) 1 ty_3 rfl rfl r13.toR (by first | omega | (simp; omega) | (simp only [List.length_append, List.length_cons, List.length_nil]; omega) | (rw [List.length_set]; omega))) rfl ?_; refine sq_v rfl (v_assign rfl) rfl (sq_end (qs_n (wp_sq (sq_v rfl (v_move rfl) rfl (sq_v rfl (v_move rfl) rfl (sq_v rfl (v_move rfl) rfl (sq_v rfl (v_min rfl rfl) rfl ?_))))))); have hd9 := hd j (by omega); refine sq_m 4 rfl rfl (x_call rfl en_71 (fun w s => ct_s_l01Below _ _ _ _ w _ (s.get 4 rfl) cu (rb.mono (s.getR 4 5 rfl rfl (by decide))) (by omega))) rfl ?_; rintro _ h23 ⟨x23, rfl, hx23, hy23, cu23⟩; refine sq_x rfl (x_buildS [num (x23)] Tryz.underlying27 ty_3 (by decide) rfl rfl rfl (by decide) (by decide) (by intro v hv; simp at hv; rcases hv with rfl <;> rfl)) rfl ?_; intro v24 h24 (r24 : IntsO [x23] v24 h24); refine sq_m 1 rfl rfl (m_appI 1 0 Tryz.underlying27 ty_3 rfl rfl rfl rfl q rfl r24.toR (by first | omega | (simp; omega) | (simp only [List.length_append, List.length_cons, List.length_nil]; omega) | (rw [List.length_set]; omega))) rfl ?_; intro v25 h_r25 r25; refine sq_v rfl (v_assign rfl) rfl (sq_end (qs_bn (qs_n (wp_sq ?_)))); refine sq_v rfl (v_add rfl rfl ((by unfold I64; omega))) rfl ?_; refine sq_v rfl (v_move rfl) rfl (sq_end ?_); exact qs_bk (j + 1, h23, v25, h_r25, (ys ++ [x23])) ⟨by (try dsimp only); omega, by (try dsimp only); simp [hyl], (fun i hi => by rcases Nat.lt_or_ge i j with h9 | h9; rw [List.getD, List.getElem?_append_left (by omega)]; exact hyr i h9; rw [show i = j by omega, List.getD, List.getElem?_append_right (by omega), hyl, Nat.sub_self]; simp only [List.getElem?_cons_zero, Option.getD_some]; omega), cu23, r25⟩ (by simp only; omega) ⟨rfl, rfl, (by first | rfl | exact ksub rfl (by first | omega | (simp; done) | (simp; omega))), rfl, rfl, (by first | rfl | exact ksub rfl (by first | omega | (simp; done) | (simp; omega))), trivial⟩ (fun _ s => s.pick [1, 2, 3, 4, 5, 6] (by decide) rfl)
  · refine wp_ex (qs_x (qs_x (qs_bx (qs_n (wp_sc (wp_sq (sq_v rfl (v_move rfl) rfl (sq_v rfl (v_assign rfl) rfl (sq_end (qs_n (wp_rt ?_))))))))))); have ej : j = (dimsFor ts (labelsOf k p n ts op)).length := by omega
    refine qs_close [restP w h] [hc, hx] (fun _ s => s.pick [5, 4, 0] (by decide) rfl) (fun md => ?_); exact qs_ret1 rfl rfl (fin_m (i := 1) 0 rfl rfl rfl ⟨hc, hx, ys, cu, q, by omega, fun i hi => hyr i (by omega), md⟩)
theorem ct_s_MakeValues (k p n m : Int) (xs : List Int) (ts : List Ten) (op : List Int) (vb vt vo : Value) (w : World) (rb : BytesR xs vb (hp w)) (hxl : xs.length ≤ 1048576) (hm : 0 ≤ m ∧ m ≤ 1000) (r : TensR ts vt (hp w)) (r' : IntsR op vo (hp w)) (hs : op.length ≤ 1048576) (hok : ∀ t ∈ ts, AxOK t) (hd : ∀ j, j < (dimsFor ts (labelsOf k p n ts op)).length → 1 ≤ (dimsFor ts (labelsOf k p n ts op)).getD j 0) (hl : (labelsOf k p n ts op).length ≤ 1000) :
    Calls Tryz.prog 13 [vb, num m, netV k p n vt vo].toArray w (Ret w emp (fun u h' => ∃ ys, IntsO ys u h' ∧ ys.length = (dimsFor ts (labelsOf k p n ts op)).length ∧ ∀ j, j < (dimsFor ts (labelsOf k p n ts op)).length → 0 ≤ ys.getD j 0 ∧ ys.getD j 0 < (dimsFor ts (labelsOf k p n ts op)).getD j 0)) := by
  refine calls_in Tryz.func13 rfl Tryz.ntmps13 rfl (Sat.start w) ?_; have hle0 := rb.le; have hle1 := r.le; obtain ⟨cs_r, rr_r, hc_r⟩ := r.at; have hle2 := r'.le; refine wp_sc (wp_sq ?_); refine sq_x rfl (x_box rfl rfl) rfl ?_; rintro _ _ ⟨b5, rfl, rfl⟩; refine sq_v rfl (v_assign rfl) rfl (sq_end (qs_n (wp_sc (wp_rj 4 [(0, true), (1, true), (3, true), (2, false), (4, false), (5, false)] mixed_ok (by kernel_rfl) (rj_v rfl rfl (v_move rfl) rfl (rj_v rfl rfl (v_move rfl) rfl (rj_v rfl rfl (v_loadNB 0 ty_29 rfl rfl rfl rfl) rfl ?_))))))); refine rj_x rfl rfl (x_call rfl en_34 (fun w s => ct_s_l45At _ _ _ w (rb.mono (s.get 1 rfl)) (by first | assumption | omega) (by first | assumption | omega))) rfl ?_; rintro v9 h9 r9; refine rj_m 0 rfl rfl rfl rfl (x_call rfl en_40 (fun w s => ct_s_l12Values k p n xs ts op vb v9 vt vo w _ (s.get 0 rfl) r9 (rb.mono (s.getR 0 2 rfl rfl (by decide))) (r.mono (s.getR 0 2 rfl rfl (by decide))) (r'.mono (s.getR 0 2 rfl rfl (by decide))) hs hok hd hl)) rfl ?_; rintro v11 h11 ⟨hc11, hx11, ys11, cu11, r11, hl11, hr11, md11⟩; refine rj_fv rfl rfl (v_assign rfl) rfl (rj_end (qs_s [box b5 [num k, num p, num n, vt, vo] 29, hp w, hc11, hx11] (fun _ s => Sat.open (A := [box b5 [num k, num p, num n, vt, vo] 29, hp w]) md11 (s.pick [0, 1, 2] (by decide) rfl)) (qs_n (wp_rt ?_)))); exact qs_ret1 rfl rfl (fin_t 3 (i := 1) rfl rfl rfl ⟨ys11, r11, hl11, hr11⟩)
end Go.Proofs.YtiefkcaplhnnmaaGreat
namespace Go.Proofs.YtiefkcaplhnnmaaGreat
set_option maxRecDepth 100000
open Go.RowKit
theorem prod3 : ∀ (ds : List Int) (a : Int), 1 ≤ a → (∀ d ∈ ds, 1 ≤ d ∧ d ≤ 3) → 1 ≤ ds.foldl (· * ·) a ∧ ds.foldl (· * ·) a ≤ a * 3 ^ ds.length
  | [], a, ha, _ => by simp; exact ha
  | d :: r, a, ha, h => by
    have hd := h d (by simp); have h1 : 1 * 1 ≤ a * d := Int.mul_le_mul ha hd.1 (by omega) (by omega); have ih := prod3 r (a * d) (by omega) (fun x hx => h x (List.mem_cons_of_mem _ hx)); refine ⟨ih.1, Int.le_trans ih.2 ?_⟩; rw [List.length_cons, Int.pow_succ]; have h2 : a * d ≤ a * 3 := Int.mul_le_mul_of_nonneg_left hd.2 (by omega); have h3 : (0 : Int) ≤ 3 ^ r.length := Int.le_of_lt (Int.pow_pos (by decide)); have h4 := Int.mul_le_mul_of_nonneg_right h2 h3; rw [Int.mul_assoc a 3, Int.mul_comm 3] at h4; exact h4
section
variable {k p n : Int} {ts : List Ten} {op : List Int}
theorem GenN.dim (h : GenN k p n ts op) {x : Int} (hx : x ∈ labelsL ts) : (∃ t ∈ ts, x ∈ t.l) ∧ (0 ≤ x ∧ x ≤ 5) ∧ dimOf ts x = dimG x := by
  have h1 := (mem_labels.1 hx).2; have h2 := dimOf_mem (show dimOf ts x ≠ 0 by omega); refine ⟨h2, ?_, dimOf_map (fun t ht => (h.1 t ht).2.2.1) h2⟩; obtain ⟨t, ht, hxt⟩ := h2; exact (h.1 t ht).2.1.2 x hxt
theorem GenN.few (h : GenN k p n ts op) {l : List Int} (hn : l.Nodup) (hl : ∀ x ∈ l, x ∈ labelsL ts) : l.length ≤ 6 := by
  have := pigeon (m := [0, 1, 2, 3, 4, 5]) hn fun x hx => by
    have := (h.dim (hl x hx)).2.1; simp only [List.mem_cons, List.not_mem_nil, or_false]
    omega
  simpa using this
theorem pow3 {m : Nat} (h : m ≤ 6) : (3 : Int) ^ m ≤ 729 := by
  have : m = 0 ∨ m = 1 ∨ m = 2 ∨ m = 3 ∨ m = 4 ∨ m = 5 ∨ m = 6 := by omega
  rcases this with rfl | rfl | rfl | rfl | rfl | rfl | rfl <;> decide
theorem GenN.prod (h : GenN k p n ts op) {l : List Int} (hn : l.Nodup) (hl : ∀ x ∈ l, x ∈ labelsL ts) : 1 ≤ prodI (l.map (dimOf ts)) ∧ prodI (l.map (dimOf ts)) ≤ 729 := by
  have h1 := prod3 (l.map (dimOf ts)) 1 (by omega) fun d hd => by
    obtain ⟨x, hx, rfl⟩ := List.mem_map.1 hd; obtain ⟨_, h2, h3⟩ := h.dim (hl x hx); rw [h3]; exact dimG_in h2
  have h2 := pow3 (h.few hn hl); rw [List.length_map, Int.one_mul] at h1; exact ⟨h1.1, Int.le_trans h1.2 h2⟩
theorem gen_net (hr : ringL k p n) (h : GenN k p n ts op) : netL k p n ts op := by
  have h4 := h.2.1; have hf := h.few h.2.2.1 h.2.2.2; have hp := h.prod h.2.2.1 h.2.2.2; refine ⟨hr, by omega, fun t ht => (h.1 t ht).1, cons_of_map fun t ht => (h.1 t ht).2.2.1, sizeI_ge.2 ⟨⟨by omega, by simp [dimsFor], fun j hj => ⟨?_, ?_, nodup_not_take h.2.2.1 hj⟩⟩, by unfold dimsFor; omega⟩⟩
  · have := (h.dim (h.2.2.2 _ (mem_getD hj))).2.1; omega
  · obtain ⟨_, h2, h3⟩ := h.dim (h.2.2.2 _ (mem_getD hj)); have h5 := dimG_in h2
    unfold dimsFor
    rw [map_getD hj, h3]
    omega
theorem gen_labels (hr : ringL k p n) (h : GenN k p n ts op) : labelsOf k p n ts op = labelsL ts := if_pos (gen_net hr h)
theorem gen_vals (hr : ringL k p n) (h : GenN k p n ts op) : ∀ j, j < (dimsFor ts (labelsOf k p n ts op)).length → 1 ≤ (dimsFor ts (labelsOf k p n ts op)).getD j 0 := fun j hj => by
  rw [gen_labels hr h] at hj ⊢
  unfold dimsFor at hj ⊢
  rw [List.length_map] at hj; rw [map_getD hj]; obtain ⟨_, h2, h3⟩ := h.dim (mem_getD hj); have := dimG_in h2
  omega
end
end Go.Proofs.YtiefkcaplhnnmaaGreat
namespace Go.Proofs.YtiefkcaplhnnmaaGreat
set_option maxRecDepth 100000
open Go.RowKit
section
variable {k p n : Int} {ts : List Ten}
/-- Any distinct labels of the network make up a small tensor. -/
def SmallN (ts : List Ten) : Prop := ∀ l : List Int, l.Nodup → (∀ x ∈ l, x ∈ labelsL ts) → l.length ≤ 12 ∧ prodI (l.map (dimOf ts)) ≤ 4096
theorem small_lab {t : Ten} (ht : tensorL k p n t.l t.d t.x) (hd : t.d = t.l.map (dimOf ts)) : ∀ x ∈ t.l, x ∈ labelsL ts ∧ (0 ≤ x ∧ x ≤ 99) ∧ 1 ≤ dimOf ts x ∧ dimOf ts x ≤ 8 := fun x hx => by
  have h1 := dims_mem (axes_dims (ten_axes ht)) (dimOf ts x) (by rw [hd]; exact List.mem_map_of_mem hx); obtain ⟨j, hj, e⟩ := getD_of_mem hx; have h2 := ((ten_axes ht).2.2 j hj).1; rw [e] at h2; exact ⟨mem_labels.2 ⟨⟨h2.1, by omega⟩, by omega⟩, h2, h1⟩
theorem fit_small {op : List Int} {ss : List Stp} (h : orderL k p n ts op ss) (hf : SmallN ts) : ∀ i, i ≤ ss.length → ∀ j, j < i → runFit k p n ts op ss j
  | 0, _, j, hj => by omega
  | i + 1, hi, j, hj => by
    have ih := fit_small h hf i (by omega)
    by_cases c : j < i
    · exact ih j c
    · have e : j = i := by omega
      subst e; have r := run_ok h j (by omega) ih; obtain ⟨⟨ta, la, da⟩, ⟨tb, lb, db⟩⟩ := r.two h (by omega); have hk := r.kept h (by omega); have hjn : (joinI (runA k p n ts op ss j).l (runB k p n ts op ss j).l).Nodup := joinI_nodup (axes_nodup (ten_axes ta)) (axes_nodup (ten_axes tb)); have hjm : ∀ x ∈ joinI (runA k p n ts op ss j).l (runB k p n ts op ss j).l, x ∈ labelsL ts ∧ (0 ≤ x ∧ x ≤ 99) ∧ 1 ≤ dimOf ts x ∧ dimOf ts x ≤ 8 := fun x hx => (mem_joinI.1 hx).elim (small_lab ta da x) (small_lab tb db x); refine (pairP_iff ta tb da db).2 ⟨Int.le_trans (hf _ hjn fun x hx => (hjm x hx).1).2 (by decide), ?_⟩; have hkm : ∀ x ∈ keepL (runA k p n ts op ss j) (runB k p n ts op ss j) (runK ts op ss j), x ∈ joinI (runA k p n ts op ss j).l (runB k p n ts op ss j).l := fun x hx => (List.mem_filter.1 hx).1; have hkn : (keepL (runA k p n ts op ss j) (runB k p n ts op ss j) (runK ts op ss j)).Nodup := hjn.filter _; have hs := hf _ hkn fun x hx => (hjm x (hkm x hx)).1; refine sizeI_ge.2 ⟨⟨hs.1, by simp, fun q hq => ⟨(hjm _ (hkm _ (mem_getD hq))).2.1, by rw [map_getD hq]; exact (hjm _ (hkm _ (mem_getD hq))).2.2, nodup_not_take hkn hq⟩⟩, hs.2⟩
theorem plain_get {m i : Nat} (h : i < m - 1) : (plainL m)[i]? = some (plainAt m i) := by simp [plainL, plainTo, h]
theorem plain_ixs {op : List Int} (h : netL k p n ts op) : ∀ i, i ≤ ts.length - 1 → ∀ j, j ∈ (runS ts op (plainL ts.length) i).ixs ↔ (i = 0 ∧ j < ts.length) ∨ (0 < i ∧ ((i + 1 ≤ j ∧ j < ts.length) ∨ j = ts.length + i - 1))
  | 0, _, j => by
    show j ∈ (sh0 ts).ixs ↔ _
    rw [sh0_ixs, List.mem_range]
    omega
  | i + 1, hi, j => by
    have ih := plain_ixs h i (by omega) j; have hx := plain_get (m := ts.length) (i := i) (by omega); have ha := run_all (ts := ts) (op := op) (ss := plainL ts.length) (i := i) (by rw [plain_len']; omega); have hs : runS ts op (plainL ts.length) (i + 1) = (runS ts op (plainL ts.length) i).step op (plainAt ts.length i).a.toNat (plainAt ts.length i).b.toNat := shTo_step hx; rw [hs, step_ixs (run_fine (ss := plainL ts.length) h i).1, List.mem_append, List.mem_filter, ih, List.mem_singleton, ha, decide_eq_true_eq]
    unfold plainAt
    by_cases c : i = 0
    · rw [if_pos c]
      simp only
      omega
    · rw [if_neg c]
      simp only
      omega
theorem plain_order {op : List Int} (h : netL k p n ts op) : orderL k p n ts op (plainL ts.length) := by
  refine ⟨h, plain_len' _, fun i hi x hx => ?_⟩; rw [plain_len'] at hi; rw [plain_get hi] at hx
  cases hx
  have hl : ∀ a : Int, 0 ≤ a → a.toNat ∈ (runS ts op (plainL ts.length) i).ixs → (runS ts op (plainL ts.length) i).live a := fun a h0 hm => live_ixs.2 ⟨h0, hm⟩; have hp := plain_ixs h i (by omega)
  show (runS ts op (plainL ts.length) i).live _ ∧ (runS ts op (plainL ts.length) i).live _ ∧ _
  unfold plainAt
  by_cases c : i = 0
  · rw [if_pos c]; exact ⟨hl _ (by simp) ((hp _).2 (by simp only; omega)), hl _ (by simp) ((hp _).2 (by simp only; omega)), by simp⟩
  · rw [if_neg c]; exact ⟨hl _ (by simp only; omega) ((hp _).2 (by simp only; omega)), hl _ (by simp only; omega) ((hp _).2 (by simp only; omega)), by simp only; omega⟩
theorem tot_small {op : List Int} (h : netL k p n ts op) (hf : SmallN ts) : totP k p n ts op :=
  ⟨h, plain_order (net_nil h), fit_small (plain_order (net_nil h)) hf _ (Nat.le_refl _)⟩
theorem gen_small {op : List Int} (h : GenN k p n ts op) : SmallN ts := fun l hn hl => by
  have h1 := h.few hn hl; have h2 := h.prod hn hl; exact ⟨by omega, by omega⟩
theorem gen_tot {op op' : List Int} (h : GenN k p n ts op) (hn : netL k p n ts op') : totP k p n ts op' := tot_small hn (gen_small h)
end
end Go.Proofs.YtiefkcaplhnnmaaGreat
namespace Go.Proofs.YtiefkcaplhnnmaaGreat
set_option maxRecDepth 100000
open Go.RowKit
section
variable {k p n : Int} (hr : ringL k p n) (hR : RLaw k p n)
variable {ts : List Ten} {op : List Int} {x : Int}
theorem rem_op {ks : List Int} (ts : List Ten) (ss : List Stp) : remL ts ks ss 0 = (labelsL ts).filter fun y => decide (y ∉ ks) := by
  unfold remL
  refine List.filter_congr fun y hy => ?_; rw [decide_eq_decide]; refine ⟨fun h => h.1, fun hk => ⟨hk, ?_⟩⟩; obtain ⟨t, ht, hxt⟩ := dimOf_mem (ts := ts) (x := y) (by have := (mem_labels.1 hy).2; omega); obtain ⟨m, hm⟩ := List.getElem?_of_mem ht; have hml := (List.getElem?_eq_some_iff.1 hm).1; have e0 : runS ts ks ss 0 = sh0 ts := rfl; refine ⟨m, by rw [e0, sh0_ixs]; simpa using hml, ?_⟩; rw [e0]
  simpa [Sh.lab, sh0, List.getD, hm] using hxt
/-- What is left of a tensor when all labels but some are summed. -/
theorem sum_keep {t : Ten} {ks : List Int} (ht : tensorL k p n t.l t.d t.x) {a : Int → Int} (ha : ∀ y ∈ keepL t (oneT k p n) ks, 0 ≤ a y ∧ a y < dimJ t (oneT k p n) y) :
    val hr (sumR k p n t ks) a = sumO (smL hr hR) (dimJ t (oneT k p n)) ((joinI t.l []).filter fun y => decide (y ∉ keepL t (oneT k p n) ks)) (val hr t) a := by
  have hp := sum_pair ht ks; have hok := pair_ok hp.1 hp.2.1 hp.2.2.1 hp.2.2.2.1; have hkk := keep_ok hok hp.2.2.2.2; rw [sumR, if_pos ht, pair_val hr hR hok hkk ha]; exact sumO_congr _ _ fun b _ _ => by rw [val_one hr hR, (smL hr hR).mulC, (smL hr hR).mul1]
theorem perm_dims {t : Ten} {ls : List Int} {f : Int → Int} (h : PermOK k p n t ls) (hd : t.d = t.l.map f) : permD t ls = ls.map f := by
  rw [permD, hd, idxAt_of fun l hl => h.perm.mem_iff.1 hl]
/-- A tensor with its axes in another order holds the same. -/
theorem val_permT {t : Ten} {ls : List Int} {f a : Int → Int} (h : PermOK k p n t ls) (hd : t.d = t.l.map f) (ha : ∀ y ∈ ls, 0 ≤ a y ∧ a y < f y) : val hr (permT k n t ls) a = val hr t a := by
  have e := perm_dims h hd; have hdm : ∀ d ∈ ls.map f, 1 ≤ d := fun d hd => by
    obtain ⟨y, hy, rfl⟩ := List.mem_map.1 hd; have := ha y hy; omega
  have hin := idx_map (f := f) (a := a) (K := ls) ha; have ho := offL_in hdm hin; have hw := width_range hr
  show toA hr (elt (permX (widthI k n) t ls (permD t ls) (prodI (permD t ls)).toNat) (widthI k n) (offL (permD t ls) (ls.map a))) = toA hr (elt t.x (widthI k n) (offL t.d (t.l.map a)))
  rw [e]; have hlen : (offL (ls.map f) (ls.map a)).toNat < (List.range (prodI (ls.map f)).toNat).length := by rw [List.length_range]; omega
  have he := elt_flat (W := (widthI k n).toNat) (e := fun (i : Nat) => elt t.x (widthI k n) (offL t.d (idxAt ls (idxL (ls.map f) i) t.l))) (l := List.range (prodI (ls.map f)).toNat) (fun m hm => by
    have hoff := h.off m; rw [e] at hoff; exact (elt_inR h.ten hoff.1 hoff.2).1) hlen
  rw [show (((widthI k n).toNat : Nat) : Int) = widthI k n by omega, show (((offL (ls.map f) (ls.map a)).toNat : Nat) : Int) = offL (ls.map f) (ls.map a) by omega] at he; rw [permX, he, List.getElem_range, show (((offL (ls.map f) (ls.map a)).toNat : Nat) : Int) = offL (ls.map f) (ls.map a) by omega, idx_off hdm hin, idxAt_of fun l hl => h.perm.mem_iff.2 hl]
/-- What a contraction holds: the sum over all labels that are not open of the product of the tensors. -/
theorem con_val {ss : List Stp} (h : conP k p n ts op ss) {a : Int → Int} (ha : ∀ y ∈ op, 0 ≤ a y ∧ a y < dimOf ts y) :
    val hr (conT k p n ts op ss) a = sumO (smL hr hR) (dimOf ts) ((labelsL ts).filter fun y => decide (y ∉ op)) (prodV hr hR ts) a := by
  by_cases h0 : ts.length = 0
  · have e := List.eq_nil_of_length_eq_zero h0; subst e; have el : labelsL ([] : List Ten) = [] := List.eq_nil_iff_forall_not_mem.2 fun x hx => by
      have := (mem_labels.1 hx).2
      simp [dimOf] at this
    rw [el, conT, if_pos (show ([] : List Ten).length = 0 from rfl), val_one hr hR]
    rfl
  · obtain ⟨hfin, hout⟩ := h.last h0; have hrun := run_sum hr hR h.1 ha ss.length (Nat.le_refl _) h.2; rw [rem_op, hout] at hrun; rw [hrun, conT, if_neg h0]; have ht := hfin.2.1; have r := run_ok h.1 ss.length (Nat.le_refl _) h.2; have hl := run_left h.1 (fun e => h0 (by rw [e]; rfl)); have hg := r.get (j := ts.length + ss.length - 1) (by omega); obtain ⟨s1, s2, s3⟩ := sum_ten ht op; have hdj : ∀ y ∈ joinI (lastT k p n ts op ss).l [], dimJ (lastT k p n ts op ss) (oneT k p n) y = dimOf ts y := fun y hy => dimJ_f (t := lastT k p n ts op ss) (u := oneT k p n) (f := dimOf ts) hg.2.2 rfl hy; have hkj : ∀ y ∈ keepL (lastT k p n ts op ss) (oneT k p n) op, y ∈ joinI (lastT k p n ts op ss).l [] := fun y hy => (List.mem_filter.1 hy).1; have hd : (sumR k p n (lastT k p n ts op ss) op).d = (sumR k p n (lastT k p n ts op ss) op).l.map (dimOf ts) := by
      rw [s2, s3]; exact List.map_congr_left fun y hy => hdj y (hkj y hy)
    show val hr (permT k n (sumR k p n (lastT k p n ts op ss) op) op) a = _
    rw [val_permT hr hfin.perm hd ha, sum_keep hr hR ht fun y hy => by rw [hdj y (hkj y hy)]; exact ha y (mem_keep.1 hy).2]; have hnd := axes_nodup (ten_axes ht); have hperm : ((joinI (lastT k p n ts op ss).l []).filter fun y => decide (y ∉ keepL (lastT k p n ts op ss) (oneT k p n) op)).Perm (remL ts op ss ss.length) := by
      refine (List.perm_ext_iff_of_nodup ((joinI_nodup hnd List.nodup_nil).filter _) (rem_nodup _ _ _ _)).2 fun y => ?_; rw [List.mem_filter, mem_joinI, mem_rem, hl, decide_eq_true_eq, mem_keep]
      constructor
      · rintro ⟨hx | hx, hk⟩
        · have hx' : y ∈ (runS ts op ss ss.length).lab (ts.length + ss.length - 1) := by rw [← hg.2.1]; exact hx
          exact ⟨r.labs (by omega) hx', fun ho => hk ⟨.inl hx, ho⟩, _, List.mem_singleton.2 rfl, hx'⟩
        · simp at hx
      · rintro ⟨_, ho, j, hj, hx⟩; rw [List.mem_singleton.1 hj, ← hg.2.1] at hx; exact ⟨.inl hx, fun e => ho e.2⟩
    rw [sumO_dim (g := dimOf ts) fun y hy => hdj y (List.mem_filter.1 hy).1, sumO_perm _ _ hperm]; refine sumO_congr _ _ fun b _ _ => ?_
    show _ = (smL hr hR).mul _ (smL hr hR).one
    rw [(smL hr hR).mulC, (smL hr hR).mul1]
theorem mar_small_net (hnet : netL k p n ts op) (hf : SmallN ts) (hx : dimOf ts x ≠ 0) : marP k p n ts op x := by
  have h1 := (net_one hnet x).2 hx; exact ⟨hnet, plain_order h1, fit_small (plain_order h1) hf _ (Nat.le_refl _)⟩
theorem marR_d (h : marP k p n ts op x) : (marR k p n ts op x).l = [x] ∧ tensorL k p n (marR k p n ts op x).l (marR k p n ts op x).d (marR k p n ts op x).x ∧ (marR k p n ts op x).d = [dimOf ts x] := by
  have e : marR k p n ts op x = conT k p n ts [x] (plainL ts.length) := by rw [marR, marB_true.2 h]; rfl
  rw [e]; obtain ⟨h1, h2⟩ := h.2.ten; refine ⟨h2, h1, ?_⟩; have hx0 := (net_one h.1 x).1 h.2.1.1; have h0 : ts.length ≠ 0 := fun e0 => by
    rw [List.eq_nil_of_length_eq_zero e0] at hx0; exact hx0 rfl
  obtain ⟨hfin, _⟩ := h.2.last h0; have r := run_ok h.2.1 (plainL ts.length).length (Nat.le_refl _) h.2.2; have hg := r.get (j := ts.length + (plainL ts.length).length - 1) (by omega); obtain ⟨s1, s2, s3⟩ := sum_ten hfin.2.1 [x]; have hd : (sumR k p n (lastT k p n ts [x] (plainL ts.length)) [x]).d = (sumR k p n (lastT k p n ts [x] (plainL ts.length)) [x]).l.map (dimOf ts) := by
    rw [s2, s3]; exact List.map_congr_left fun y hy => dimJ_f (t := lastT k p n ts [x] (plainL ts.length)) (u := oneT k p n) (f := dimOf ts) hg.2.2 rfl (List.mem_filter.1 hy).1
  rw [conT, if_neg h0]
  show permD _ _ = _
  rw [perm_dims hfin.perm hd]; rfl
/-- A marginal's entry is a sum over all other labels. -/
theorem mar_val (h : marP k p n ts op x) {v : Int} (hv : 0 ≤ v ∧ v < dimOf ts x) (a : Int → Int) :
    toA hr (elt (marR k p n ts op x).x (widthI k n) v) = sumO (smL hr hR) (dimOf ts) ((labelsL ts).filter fun y => decide (y ∉ [x])) (prodV hr hR ts) (upd a x v) := by
  have e : marR k p n ts op x = conT k p n ts [x] (plainL ts.length) := by rw [marR, marB_true.2 h]; rfl
  obtain ⟨h1, _, h3⟩ := marR_d h; have hc := con_val hr hR h.2 (a := upd a x v) fun y hy => by
    rw [List.mem_singleton.1 hy, upd_at]; exact hv
  rw [← hc, ← e]
  unfold val
  rw [h1, h3]
  congr 2
  show _ = offL [dimOf ts x] [upd a x v x]
  rw [upd_at]
  simp [offL, prodI]
end
end Go.Proofs.YtiefkcaplhnnmaaGreat
namespace Go.Proofs.YtiefkcaplhnnmaaGreat
set_option maxRecDepth 100000
open Go.RowKit
theorem sumN_sel {A : Type} {R : Sm A} (h : ∀ a b, R.add a b = a ∨ R.add a b = b) (F : Nat → A) : ∀ {D : Nat}, 1 ≤ D → ∃ j, j < D ∧ sumN R F D = F j
  | 0, h0 => by omega
  | 1, _ => ⟨0, by omega, by show R.add R.zero (F 0) = F 0; rw [R.add0]⟩
  | D + 2, _ => by
    rcases h (sumN R F (D + 1)) (F (D + 1)) with e | e
    · obtain ⟨j, hj, e2⟩ := sumN_sel h F (D := D + 1) (by omega); exact ⟨j, by omega, by rw [sumN, e, e2]⟩
    · exact ⟨D + 1, by omega, by rw [sumN, e]⟩
theorem sel_kind {k p n : Int} (h : selB k p n = true) : ringL k p n ∧ (k = 1 ∨ k = 4 ∨ k = 5) := by
  refine ⟨sel_ring h, ?_⟩; simp only [selB, Bool.and_eq_true, Bool.or_eq_true, decide_eq_true_eq] at h
  omega
theorem sel_law {k p n : Int} (h : selB k p n = true) : RLaw k p n := by
  obtain ⟨hr, hk | hk | hk⟩ := sel_kind h
  · exact law_lat (.inl hk) fun e => by rw [topI, if_pos e]
  · subst hk; refine law_min ?_ n
    unfold ringL at hr
    omega
  · exact law_lat (.inr hk) fun e => by omega
theorem sel_add {k p n : Int} (h : selB k p n = true) {a b : List Int} (ha : InR k p n a) (hb : InR k p n b) : addL k p a b = a ∨ addL k p a b = b := by
  obtain ⟨hr, hk⟩ := sel_kind h; obtain ⟨a, rfl, _⟩ := in_one (by omega) (by omega) ha; obtain ⟨b, rfl, _⟩ := in_one (by omega) (by omega) hb; rw [addL_one, add1]
  by_cases c : k = 1 ∨ k = 5
  · rw [if_pos c]
    rcases Int.le_total a b with e | e
    · rw [Int.max_eq_right e]; exact .inr rfl
    · rw [Int.max_eq_left e]; exact .inl rfl
  · rw [if_neg c, if_neg (by omega), if_pos (by omega)]
    rcases Int.le_total a b with e | e
    · rw [Int.min_eq_left e]; exact .inl rfl
    · rw [Int.min_eq_right e]; exact .inr rfl
/-- Some slice has the total. -/
theorem sel_some {k p n : Int} {ts : List Ten} {op op' : List Int} {x : Int} (hs : selB k p n = true) (h : totP k p n ts op) (hx : x ∈ labelsL ts) (hsl : ∀ v : Nat, (v : Int) < dimOf ts x → totP k p n (ts.map fun t => fix1 k n t x v) op') :
    ∃ v : Nat, (v : Int) < dimOf ts x ∧ totX k p n (ts.map fun t => fix1 k n t x v) op' = totX k p n ts op := by
  have hr := sel_ring hs; have hR := sel_law hs; have hd := (mem_labels.1 hx).2; obtain ⟨j, hj, e⟩ := sumN_sel (R := smL hr hR) (fun a b => by
    rcases sel_add hs a.2 b.2 with e | e
    · exact .inl (Subtype.ext e)
    · exact .inr (Subtype.ext e)) (fun (v : Nat) => toA hr (totX k p n (ts.map fun t => fix1 k n t x v) op')) (D := (dimOf ts x).toNat) (by omega)
  rw [← tot_split hr hR h hx hsl] at e; have hj' : (j : Int) < dimOf ts x := by omega
  have e2 := congrArg Subtype.val e; rw [toA_val hr h.inR, toA_val hr (hsl j hj').inR] at e2; exact ⟨j, hj', e2.symm⟩
def baP (k p n : Int) (ts : List Ten) (op vs : List Int) (i : Nat) (v : Int) : Prop := totP k p n (cuT k n ts vs i v) (opI op (labelsL ts) (i + 1))
noncomputable def baX (k p n : Int) (ts : List Ten) (op vs : List Int) (i : Nat) (v : Int) : List Int := totX k p n (cuT k n ts vs i v) (opI op (labelsL ts) (i + 1))
open Classical in
noncomputable def baIn (k p n : Int) (ts : List Ten) (op vs : List Int) (i : Nat) : Nat → Int → Option (List Int)
  | 0, _ => none
  | f + 1, v => if baP k p n ts op vs i v then if baX k p n ts op vs i v = totX k p n ts op then some (vs ++ [v]) else baIn k p n ts op vs i f (v + 1) else none
noncomputable def baTo (k p n : Int) (ts : List Ten) (op : List Int) : Nat → Option (List Int)
  | 0 => some []
  | i + 1 => (baTo k p n ts op i).bind fun vs => baIn k p n ts op vs i (dimOf ts ((labelsL ts).getD i 0)).toNat 0
section
variable {k p n : Int} {ts : List Ten} {op vs : List Int} {i : Nat} {v : Int}
theorem ba_no {f : Nat} (h : ¬ baP k p n ts op vs i v) : baIn k p n ts op vs i f v = none := by
  cases f with
  | zero => rfl
  | succ f => rw [baIn, if_neg h]
theorem ba_hit {D : Int} (hv : 0 ≤ v ∧ v < D) (h : baP k p n ts op vs i v) (hq : baX k p n ts op vs i v = totX k p n ts op) : baIn k p n ts op vs i (D - v).toNat v = some (vs ++ [v]) := by
  rw [show (D - v).toNat = (D - (v + 1)).toNat + 1 by omega, baIn, if_pos h, if_pos hq]
theorem ba_next {D : Int} (hv : 0 ≤ v ∧ v < D) (h : baP k p n ts op vs i v) (hq : ¬ baX k p n ts op vs i v = totX k p n ts op) : baIn k p n ts op vs i (D - v).toNat v = baIn k p n ts op vs i (D - (v + 1)).toNat (v + 1) := by
  rw [show (D - v).toNat = (D - (v + 1)).toNat + 1 by omega, baIn, if_pos h, if_neg hq]
theorem ba_end {D : Int} (h : D ≤ v) : baIn k p n ts op vs i (D - v).toNat v = none := by
  rw [show (D - v).toNat = 0 by omega]; rfl
theorem baTo_step (h : baTo k p n ts op i = some vs) : baTo k p n ts op (i + 1) = baIn k p n ts op vs i (dimOf ts ((labelsL ts).getD i 0) - 0).toNat 0 := by
  rw [baTo, h]
  show baIn _ _ _ _ _ _ _ _ _ = _
  rw [Int.sub_zero]
theorem baTo_none (h : baTo k p n ts op i = none) : ∀ {m : Nat}, i ≤ m → baTo k p n ts op m = none
  | 0, hm => by rw [show i = 0 by omega] at h; exact h
  | m + 1, hm => by
    by_cases c : i = m + 1
    · rw [← c]; exact h
    · rw [baTo, baTo_none h (m := m) (by omega)]; rfl
/-- Where every slice was looked at, one had the total. -/
theorem ba_found (hs : selB k p n = true) (hnet : netL k p n ts op) (hi : i < (labelsL ts).length) (hvl : vs.length = i) (hf : fitI ts (labelsL ts) vs i) (ht : totP k p n (tsI k n ts (labelsL ts) vs i) (opI op (labelsL ts) i))
    (he : totX k p n (tsI k n ts (labelsL ts) vs i) (opI op (labelsL ts) i) = totX k p n ts op) (hall : ∀ u : Nat, (u : Int) < dimOf ts ((labelsL ts).getD i 0) → baP k p n ts op vs i u ∧ baX k p n ts op vs i u ≠ totX k p n ts op) : False := by
  obtain ⟨hn, hd⟩ := netI hnet (labL_nodup ts) i (by omega) hf; have hdi := hd i (Nat.le_refl _) hi; have hm := mem_labels.1 (mem_getD hi); have hx : (labelsL ts).getD i 0 ∈ labelsL (tsI k n ts (labelsL ts) vs i) := mem_labels.2 ⟨hm.1, by rw [hdi]; exact hm.2⟩; have hc : ∀ u : Int, cuT k n ts vs i u = (tsI k n ts (labelsL ts) vs i).map fun t => fix1 k n t ((labelsL ts).getD i 0) u := fun u => cu_step (by omega); obtain ⟨u, hu, e⟩ := sel_some (op' := opI op (labelsL ts) (i + 1)) hs ht hx fun u hu => by
    rw [hdi] at hu; rw [← hc]; exact (hall u hu).1
  rw [hdi] at hu; rw [← hc, he] at e; exact (hall u hu).2 e
end
def bsP (k p n : Int) (ts : List Ten) (op : List Int) : Prop := totP k p n ts op ∧ selB k p n = true
open Classical in
noncomputable def bsO (k p n : Int) (ts : List Ten) (op : List Int) : Option (List Int) := if bsP k p n ts op then baTo k p n ts op (labelsL ts).length else none
noncomputable def bsB (k p n : Int) (ts : List Ten) (op : List Int) : Bool := (bsO k p n ts op).isSome
noncomputable def bsX (k p n : Int) (ts : List Ten) (op : List Int) : List Int := (bsO k p n ts op).getD []
section
variable {k p n : Int} {ts : List Ten} {op : List Int}
theorem bsO_none (h : ¬ bsP k p n ts op) : bsO k p n ts op = none := if_neg h
theorem bsO_at {i : Nat} (h : baTo k p n ts op i = none) (hi : i ≤ (labelsL ts).length) : bsO k p n ts op = none := by
  unfold bsO
  split
  · exact baTo_none h hi
  · rfl
theorem BsNo (h : bsO k p n ts op = none) : IntsB (bsX k p n ts op) (bsB k p n ts op) (.tuple [.slice none 0 0, .bool false].toArray) emp :=
  ⟨.slice none 0 0, by rw [bsB, h]; rfl, by rw [bsX, h]; exact IntsO.nil⟩
theorem BsYes {vs : List Int} {i : Nat} {v : Value} {g : PH} (hp : bsP k p n ts op) (h : baTo k p n ts op i = some vs) (hi : i = (labelsL ts).length) (r : IntsO vs v g) : IntsB (bsX k p n ts op) (bsB k p n ts op) (.tuple [v, .bool true].toArray) g := by
  subst hi; have e : bsO k p n ts op = some vs := by rw [bsO, if_pos hp, h]
  exact ⟨v, by rw [bsB, e]; rfl, by rw [bsX, e]; exact r⟩
end
end Go.Proofs.YtiefkcaplhnnmaaGreat
namespace Go.Proofs.YtiefkcaplhnnmaaGreat
set_option maxRecDepth 100000
open Go.RowKit
def Sm.le {A : Type} (R : Sm A) (a b : A) : Prop := R.add a b = b
section
variable {A : Type} {R : Sm A}
theorem sm_trans {a b c : A} (h1 : R.le a b) (h2 : R.le b c) : R.le a c := by
  unfold Sm.le at *
  rw [← h2, ← R.addA, h1]
theorem sm_anti {a b : A} (h1 : R.le a b) (h2 : R.le b a) : a = b := by
  unfold Sm.le at *
  rw [← h2, R.addC, h1]
variable (hsel : ∀ a b, R.add a b = a ∨ R.add a b = b)
include hsel
theorem sm_idem (a : A) : R.add a a = a := (hsel a a).elim id id
theorem le_sumN (F : Nat → A) {j : Nat} : ∀ {n : Nat}, j < n → R.le (F j) (sumN R F n)
  | 0, hj => by omega
  | n + 1, hj => by
    show R.add (F j) (R.add (sumN R F n) (F n)) = R.add (sumN R F n) (F n)
    by_cases c : j = n
    · subst c; rw [R.addC (sumN R F j), ← R.addA, sm_idem hsel]
    · have ih := le_sumN F (j := j) (n := n) (by omega)
      unfold Sm.le at ih
      rw [← R.addA, ih]
theorem le_sumO {f : Int → Int} {F : (Int → Int) → A} {b : Int → Int} : ∀ {xs : List Int} {a : Int → Int}, (∀ y, y ∉ xs → b y = a y) → (∀ y ∈ xs, 0 ≤ b y ∧ b y < f y) → R.le (F b) (sumO R f xs F a)
  | [], a, h1, _ => by
    have e : b = a := funext fun y => h1 y (by simp); subst e; exact sm_idem hsel _
  | x :: xs, a, h1, h2 => by
    have hx := h2 x (by simp); have ih := le_sumO (F := F) (xs := xs) (a := upd a x (b x)) (fun y hy => by
      by_cases c : y = x
      · subst c; rw [upd_at]
      · rw [upd_ne c]; exact h1 y (by simp [c, hy])) fun y hy => h2 y (by simp [hy])
    have h3 := le_sumN hsel (fun (v : Nat) => sumO R f xs F (upd a x v)) (j := (b x).toNat) (n := (f x).toNat) (by omega); simp only [show (((b x).toNat : Nat) : Int) = b x by omega] at h3; exact sm_trans ih h3
theorem le_drop {f : Int → Int} {F : (Int → Int) → A} {a : Int → Int} {ls : List Int} (ha : ∀ y ∈ ls, 0 ≤ a y ∧ a y < f y) : ∀ i, i ≤ ls.length → R.le (sumO R f (ls.drop i) F a) (sumO R f ls F a)
  | 0, _ => sm_idem hsel _
  | i + 1, hi => by
    have ih := le_drop (F := F) ha i (by omega); have e : ls.drop i = ls.getD i 0 :: ls.drop (i + 1) := by rw [List.drop_eq_getElem_cons (by omega)]; simp [List.getD, show i < ls.length by omega]
    rw [e, sumO] at ih; have hx := ha (ls.getD i 0) (mem_getD (by omega)); have h3 := le_sumN hsel (fun (v : Nat) => sumO R f (ls.drop (i + 1)) F (upd a (ls.getD i 0) v)) (j := (a (ls.getD i 0)).toNat) (n := (f (ls.getD i 0)).toNat) (by omega); simp only [show (((a (ls.getD i 0)).toNat : Nat) : Int) = a (ls.getD i 0) by omega, upd_self] at h3; exact sm_trans h3 ih
end
section
variable {k p n : Int} {ts : List Ten} {op vs : List Int}
/-- The total of the network sliced at the first labels. -/
noncomputable def slcX (k p n : Int) (ts : List Ten) (op vs : List Int) (i : Nat) : List Int := totX k p n (tsI k n ts (labelsL ts) vs i) (opI op (labelsL ts) i)
theorem slcX_congr {us : List Int} {i : Nat} (h : ∀ j, j < i → vs.getD j 0 = us.getD j 0) : slcX k p n ts op vs i = slcX k p n ts op us i := by
  unfold slcX tsI
  rw [List.map_congr_left fun t _ => fixTo_congr fun j hj => ⟨rfl, h j hj⟩]
theorem baIn_first {i : Nat} {D : Int} (hall : ∀ u : Int, 0 ≤ u → u < D → baP k p n ts op vs i u) : ∀ (f : Nat) (v : Int), 0 ≤ v → v + f = D → (∃ u, v ≤ u ∧ u < D ∧ baX k p n ts op vs i u = totX k p n ts op) →
    ∃ u, v ≤ u ∧ u < D ∧ baX k p n ts op vs i u = totX k p n ts op ∧ (∀ z, v ≤ z → z < u → baX k p n ts op vs i z ≠ totX k p n ts op) ∧ baIn k p n ts op vs i f v = some (vs ++ [u])
  | 0, v, h0, hv, ⟨u, h1, h2, _⟩ => by omega
  | f + 1, v, h0, hv, ⟨u, h1, h2, h3⟩ => by
    by_cases c : baX k p n ts op vs i v = totX k p n ts op
    · exact ⟨v, Int.le_refl _, by omega, c, fun z h4 h5 => by omega, by rw [baIn, if_pos (hall v h0 (by omega)), if_pos c]⟩
    · have hne : u ≠ v := fun e => c (e ▸ h3); obtain ⟨x, h4, h5, h6, h7, h8⟩ := baIn_first hall f (v + 1) (by omega) (by omega) ⟨u, by omega, h2, h3⟩; refine ⟨x, by omega, h5, h6, fun z h9 h10 => ?_, by rw [baIn, if_pos (hall v h0 (by omega)), if_neg c]; exact h8⟩
      by_cases c2 : z = v
      · rw [c2]; exact c
      · exact h7 z (by omega) h10
theorem baTo_some (hs : selB k p n = true) (hnet : netL k p n ts op) (ht : totP k p n ts op) : ∀ i, i ≤ (labelsL ts).length → ∃ vs, baTo k p n ts op i = some vs ∧ vs.length = i ∧ fitI ts (labelsL ts) vs i ∧ slcX k p n ts op vs i = totX k p n ts op ∧
    ∀ j, j < i → ∀ u : Int, 0 ≤ u → u < vs.getD j 0 → slcX k p n ts op (vs.take j ++ [u]) (j + 1) ≠ totX k p n ts op
  | 0, _ => ⟨[], rfl, rfl, fun j hj => by omega, by rw [slcX, tsI_zero, opI_zero], fun j hj => by omega⟩
  | i + 1, hi => by
    obtain ⟨vs, e1, hl, hf, hX, hmin⟩ := baTo_some hs hnet ht i (by omega); subst hl; have hi' : vs.length < (labelsL ts).length := by omega
    have hm := (mem_labels.1 (mem_getD hi')).2; have hP : ∀ u : Int, 0 ≤ u → u < dimOf ts ((labelsL ts).getD vs.length 0) → baP k p n ts op vs vs.length u := fun u h0 hu =>
      (pre_tot (vs := vs.take vs.length ++ [u]) hnet ht hi (cu_fit (Nat.le_refl _) hf ⟨h0, hu⟩)).2.1
    have htk : vs.take vs.length = vs := List.take_length; have hex : ∃ u : Int, 0 ≤ u ∧ u < dimOf ts ((labelsL ts).getD vs.length 0) ∧ baX k p n ts op vs vs.length u = totX k p n ts op := Classical.byContradiction fun hno =>
      ba_found hs hnet hi' rfl hf (pre_tot hnet ht (by omega) hf).2.1 hX fun u hu => ⟨hP u (by omega) hu, fun e => hno ⟨u, by omega, hu, e⟩⟩
    obtain ⟨u, h1, h2, h3, h4, h5⟩ := baIn_first (D := dimOf ts ((labelsL ts).getD vs.length 0)) hP (dimOf ts ((labelsL ts).getD vs.length 0)).toNat 0 (by omega) (by omega) hex; have hbx : ∀ z : Int, baX k p n ts op vs vs.length z = slcX k p n ts op (vs ++ [z]) (vs.length + 1) := fun z => by
      rw [baX, cuT, htk]; rfl
    have hgt : ∀ j, j < vs.length → (vs ++ [u]).getD j 0 = vs.getD j 0 := fun j hj => by simp only [List.getD]; rw [List.getElem?_append_left hj]
    have hge : (vs ++ [u]).getD vs.length 0 = u := by simp [List.getD]
    refine ⟨vs ++ [u], by rw [baTo, e1]; exact h5, by simp, ?_, by rw [← hbx]; exact h3, fun j hj z h6 h7 => ?_⟩
    · have := cu_fit (Nat.le_refl _) hf ⟨h1, h2⟩
      rwa [htk] at this
    · by_cases c : j < vs.length
      · rw [hgt j c] at h7; rw [List.take_append_of_le_length (by omega)]; exact hmin j c z h6 h7
      · have e : j = vs.length := by omega
        subst e; rw [hge] at h7; rw [List.take_left, ← hbx]; exact h4 z h6 h7
theorem asg_of (hnet : netL k p n ts op) (hl : vs.length = (labelsL ts).length) (hf : fitI ts (labelsL ts) vs (labelsL ts).length) : assignL k p n ts op vs := by
  refine ⟨hnet, by simp [dimsFor, hl], fun j hj => ?_⟩
  unfold dimsFor
  rw [map_getD (by omega)]; exact hf j (by omega)
theorem asg_range (hl : vs.length = (labelsL ts).length) (hf : fitI ts (labelsL ts) vs (labelsL ts).length) : ∀ y ∈ labelsL ts, 0 ≤ asgn (labelsL ts) vs y ∧ asgn (labelsL ts) vs y < dimOf ts y := fun y hy => by
  obtain ⟨j, hj, rfl⟩ := getD_of_mem hy; rw [asgn_at (labL_nodup ts) hj]; exact hf j hj
end
section
variable {k p n : Int} {ts : List Ten} {op vs : List Int}
theorem sel_El (hs : selB k p n = true) (hr : ringL k p n) (hR : RLaw k p n) (a b : El k p n) : (smL hr hR).add a b = a ∨ (smL hr hR).add a b = b := by
  rcases sel_add hs a.2 b.2 with e | e
  · exact .inl (Subtype.ext e)
  · exact .inr (Subtype.ext e)
structure BestOK (k p n : Int) (ts : List Ten) (op B : List Int) : Prop where
  some : bsB k p n ts op = true ∧ bsX k p n ts op = B
  len : B.length = (labelsL ts).length
  fit : fitI ts (labelsL ts) B (labelsL ts).length
  weight : weightL k p n ts op B = totX k p n ts op
  first : ∀ j, j < (labelsL ts).length → ∀ u : Int, 0 ≤ u → u < B.getD j 0 → slcX k p n ts op (B.take j ++ [u]) (j + 1) ≠ totX k p n ts op
theorem toA_inj (hr : ringL k p n) {a b : List Int} (ha : InR k p n a) (hb : InR k p n b) (h : toA hr a = toA hr b) : a = b := by
  have := congrArg Subtype.val h
  rwa [toA_val hr ha, toA_val hr hb] at this
theorem best_ok (hs : selB k p n = true) (hnet : netL k p n ts op) (ht : totP k p n ts op) : BestOK k p n ts op (bsX k p n ts op) := by
  have hr := sel_ring hs; have hR := sel_law hs; obtain ⟨vs, e1, hl, hf, hX, hmin⟩ := baTo_some hs hnet ht (labelsL ts).length (Nat.le_refl _); have eO : bsO k p n ts op = some vs := by rw [bsO, if_pos (show bsP k p n ts op from ⟨ht, hs⟩)]; exact e1
  have eX : bsX k p n ts op = vs := by rw [bsX, eO]; rfl
  have eB : bsB k p n ts op = true := by rw [bsB, eO]; rfl
  rw [eX]; refine ⟨⟨eB, eX⟩, hl, hf, ?_, hmin⟩; have ha := asg_of hnet hl hf; obtain ⟨hw, hwv⟩ := weight_val hr hR ha; have hsum := pre_sum hr hR hnet ht (Nat.le_refl _) hf (a := asgn (labelsL ts) vs) fun j hj => asgn_at (labL_nodup ts) hj; rw [List.drop_length] at hsum; refine toA_inj hr hw ht.inR ?_; rw [← hX, hwv]; exact hsum.symm
theorem tot_le (hs : selB k p n = true) (hnet : netL k p n ts op) (ht : totP k p n ts op) (hl : vs.length = (labelsL ts).length) (hf : fitI ts (labelsL ts) vs (labelsL ts).length) :
    InR k p n (weightL k p n ts op vs) ∧ addL k p (weightL k p n ts op vs) (totX k p n ts op) = totX k p n ts op := by
  have hr := sel_ring hs; have hR := sel_law hs; obtain ⟨hw, hwv⟩ := weight_val hr hR (asg_of hnet hl hf); refine ⟨hw, ?_⟩; have h1 := le_sumO (sel_El hs hr hR) (f := dimOf ts) (F := prodV hr hR ts) (b := asgn (labelsL ts) vs) (xs := labelsL ts) (a := asgn (labelsL ts) vs) (fun _ _ => rfl) (asg_range hl hf); rw [← tot_sum hr hR ht, ← hwv] at h1; have h2 := congrArg Subtype.val h1; have h3 : ((smL hr hR).add (toA hr (weightL k p n ts op vs)) (toA hr (totX k p n ts op))).1 = addL k p (toA hr (weightL k p n ts op vs)).1 (toA hr (totX k p n ts op)).1 := rfl; rw [h3, toA_val hr hw, toA_val hr ht.inR] at h2; exact h2
theorem take_getD {xs : List Int} {i j : Nat} (h : j < i) : (xs.take i).getD j 0 = xs.getD j 0 := by
  simp only [List.getD]; rw [List.getElem?_take, if_pos h]
/-- A lesser assignment does not have the total. -/
theorem best_least (hs : selB k p n = true) (hnet : netL k p n ts op) (ht : totP k p n ts op) {B : List Int} (h : BestOK k p n ts op B) (hl : vs.length = (labelsL ts).length) (hf : fitI ts (labelsL ts) vs (labelsL ts).length) {i : Nat} (hi : i < (labelsL ts).length)
    (he : ∀ j, j < i → vs.getD j 0 = B.getD j 0) (hlt : vs.getD i 0 < B.getD i 0) : weightL k p n ts op vs ≠ totX k p n ts op := fun hw => by
  have hr := sel_ring hs; have hR := sel_law hs; have hsel := sel_El hs hr hR; obtain ⟨hwi, hwv⟩ := weight_val hr hR (asg_of hnet hl hf); have hB := h.len; have hfit1 : fitI ts (labelsL ts) vs (i + 1) := fun j hj => hf j (by omega); have hsum := pre_sum hr hR hnet ht (i := i + 1) hi hfit1 (a := asgn (labelsL ts) vs) fun j hj => asgn_at (labL_nodup ts) (by omega); have hrg := asg_range hl hf; have h1 := le_sumO hsel (f := dimOf ts) (F := prodV hr hR ts) (b := asgn (labelsL ts) vs) (xs := (labelsL ts).drop (i + 1)) (a := asgn (labelsL ts) vs) (fun _ _ => rfl) fun y hy => hrg y (List.mem_of_mem_drop hy); have h2 := le_drop hsel (F := prodV hr hR ts) hrg (i + 1) hi; rw [← tot_sum hr hR ht] at h2; rw [← hwv, hw] at h1; rw [← hsum] at h1 h2; have hin := (pre_tot hnet ht (i := i + 1) hi hfit1).2.1.inR; have h3 := toA_inj hr hin ht.inR (sm_anti h2 h1); refine h.first i hi (vs.getD i 0) (hf i hi).1 hlt ?_; rw [← h3]; refine slcX_congr fun j hj => ?_
  by_cases c : j < i
  · rw [he j c]; have : ((B.take i) ++ [vs.getD i 0]).getD j 0 = (B.take i).getD j 0 := by simp only [List.getD]; rw [List.getElem?_append_left (by rw [List.length_take]; omega)]
    rw [this, take_getD c]
  · have e : j = i := by omega
    subst e; simp only [List.getD]; rw [List.getElem?_append_right (by rw [List.length_take]; omega), List.length_take, show j - min j B.length = 0 by omega]
    rfl
theorem prodI_sole (d : Int) : prodI [d] = d := by simp [prodI]
theorem bof_true {x : Int} (h : bofP k p n ts op x) : bofB k p n ts op x = true := by simp [bofB, h]
theorem elt_unit {xs : List Int} {i : Int} (h0 : 0 ≤ i) (h : i < xs.length) : elt xs 1 i = [xs.getD i.toNat 0] := by
  unfold elt
  rw [Int.mul_one]; have hlt : i.toNat < xs.length := by omega
  show (xs.drop i.toNat).take 1 = _
  rw [List.drop_eq_getElem_cons hlt, List.take_succ_cons, List.take_zero]
  simp [List.getD, hlt]
theorem findI_min {xs : List Int} {z v : Int} (h : 0 ≤ v ∧ v < findI xs z) : xs.getD v.toNat 0 ≠ z := fun e => by
  have hm : z ∈ xs := findI_ge.1 (by omega); have hl := (findI_get hm).1
  unfold findI at h
  rw [if_pos hm] at h; have h2 : v.toNat < xs.idxOf z := by omega
  have h3 := List.not_of_lt_findIdx (xs := xs) (p := fun a => a == z) (i := v.toNat) h2; have hlt : v.toNat < xs.length := by have := List.idxOf_lt_length_iff.2 hm; omega
  simp [List.getD, hlt] at e
  simp [e] at h3
theorem sel_width {k p n : Int} (hs : selB k p n = true) : widthI k n = 1 := by
  have := (sel_kind hs).2; exact width_1 (by omega) (by omega)
/-- The marginals know the values of the best assignment. -/
theorem best_mar (hs : selB k p n = true) (hnet : netL k p n ts op) (ht : totP k p n ts op) (hsm : SmallN ts) {B : List Int} (h : BestOK k p n ts op B) {i : Nat} (hi : i < (labelsL ts).length) :
    bofB k p n ts op ((labelsL ts).getD i 0) = true ∧ bofV k p n ts op ((labelsL ts).getD i 0) ≤ B.getD i 0 ∧ (i = 0 → bofV k p n ts op ((labelsL ts).getD i 0) = B.getD 0 0) := by
  have hr := sel_ring hs; have hR := sel_law hs; have hsel := sel_El hs hr hR; have hw1 := sel_width hs; have hx := mem_getD hi; have hdm := (mem_labels.1 hx).2; have hmp : marP k p n ts op ((labelsL ts).getD i 0) := mar_small_net hnet hsm (by omega); obtain ⟨hml, hmt, hmd⟩ := marR_d hmp; have hlenx : ((marR k p n ts op ((labelsL ts).getD i 0)).x.length : Int) = dimOf ts ((labelsL ts).getD i 0) := by
    rw [hmt.2.2.1, hw1, Int.mul_one]; have := sizeI_ge.1 hmt.2.1; rw [sizeI_yes this.1 this.2, hmd, prodI_sole]
  have hBl := h.len; have hrg := asg_range h.len h.fit; have hfi := h.fit i hi; have hat := asgn_at (vs := B) (labL_nodup ts) hi; obtain ⟨hwi, hwv⟩ := weight_val hr hR (asg_of hnet h.len h.fit); have hperm : (labelsL ts).Perm ((labelsL ts).getD i 0 :: (labelsL ts).filter fun y => decide (y ∉ [(labelsL ts).getD i 0])) := by
    refine (List.perm_ext_iff_of_nodup (labL_nodup ts) (List.nodup_cons.2 ⟨by simp, (labL_nodup ts).filter _⟩)).2 fun y => ?_; rw [List.mem_cons, List.mem_filter, decide_eq_true_eq, List.mem_singleton]
    by_cases c : y = (labelsL ts).getD i 0
    · exact ⟨fun _ => .inl c, fun _ => c ▸ hx⟩
    · exact ⟨fun h => .inr ⟨h, c⟩, fun h => (h.resolve_left c).1⟩
  have hval := fun (v : Int) (hv : 0 ≤ v ∧ v < dimOf ts ((labelsL ts).getD i 0)) => mar_val hr hR hmp hv (asgn (labelsL ts) B); have hel := fun (v : Int) (hv : 0 ≤ v ∧ v < dimOf ts ((labelsL ts).getD i 0)) => elt_inR (i := v) hmt hv.1 (by rw [hmd, prodI_sole]; exact hv.2); have hele : ∀ v : Int, 0 ≤ v ∧ v < dimOf ts ((labelsL ts).getD i 0) → elt (marR k p n ts op ((labelsL ts).getD i 0)).x (widthI k n) v = [(marR k p n ts op ((labelsL ts).getD i 0)).x.getD v.toNat 0] := fun v hv => by
    rw [hw1]; exact elt_unit hv.1 (by omega)
  have htl := ht.inR.1; rw [hw1] at htl; obtain ⟨z, hz⟩ : ∃ z, totX k p n ts op = [z] := by
    match hX : totX k p n ts op, htl with
    | [z], _ => exact ⟨z, rfl⟩
  have hB1 : (marR k p n ts op ((labelsL ts).getD i 0)).x.getD (B.getD i 0).toNat 0 = z := by
    have e := hval (B.getD i 0) hfi; rw [← hat, upd_self] at e; have h1 := le_sumO hsel (f := dimOf ts) (F := prodV hr hR ts) (b := asgn (labelsL ts) B) (xs := (labelsL ts).filter fun y => decide (y ∉ [(labelsL ts).getD i 0])) (a := asgn (labelsL ts) B) (fun _ _ => rfl) fun y hy => hrg y (List.mem_filter.1 hy).1; rw [← e, ← hwv, h.weight] at h1; have h2 := le_sumN hsel (fun (v : Nat) => sumO (smL hr hR) (dimOf ts) ((labelsL ts).filter fun y => decide (y ∉ [(labelsL ts).getD i 0])) (prodV hr hR ts) (upd (asgn (labelsL ts) B) ((labelsL ts).getD i 0) v)) (j := (B.getD i 0).toNat) (n := (dimOf ts ((labelsL ts).getD i 0)).toNat) (by omega); simp only [show (((B.getD i 0).toNat : Nat) : Int) = B.getD i 0 by omega] at h2; have h4 : sumN (smL hr hR) (fun (v : Nat) => sumO (smL hr hR) (dimOf ts) ((labelsL ts).filter fun y => decide (y ∉ [(labelsL ts).getD i 0])) (prodV hr hR ts) (upd (asgn (labelsL ts) B) ((labelsL ts).getD i 0) v)) (dimOf ts ((labelsL ts).getD i 0)).toNat = toA hr (totX k p n ts op) := by
      rw [tot_sum hr hR ht (asgn (labelsL ts) B), sumO_perm _ _ hperm, sumO]
    rw [h4, ← hat, upd_self, ← e] at h2; have h3 := toA_inj hr (hel _ (by rw [hat]; exact hfi)) ht.inR (sm_anti h2 h1); rw [hat, hele _ hfi, hz] at h3
    simpa using h3
  have hmem : z ∈ (marR k p n ts op ((labelsL ts).getD i 0)).x := by rw [← hB1]; exact mem_getD (by omega)
  have hbp : bofP k p n ts op ((labelsL ts).getD i 0) := ⟨hmp, ht, hs, by rw [hz]; exact hmem⟩
  have hbb : bofB k p n ts op ((labelsL ts).getD i 0) = true := bof_true hbp; have hbv : bofV k p n ts op ((labelsL ts).getD i 0) = findI (marR k p n ts op ((labelsL ts).getD i 0)).x z := by rw [bofV, hbb, hz]; rfl
  have hge := findI_ge.2 hmem; have hgt := findI_get hmem; have hle : findI (marR k p n ts op ((labelsL ts).getD i 0)).x z ≤ B.getD i 0 := by
    rcases Int.lt_or_le (B.getD i 0) (findI (marR k p n ts op ((labelsL ts).getD i 0)).x z) with c | c
    · exact absurd hB1 (findI_min (by omega))
    · exact c
  refine ⟨hbb, by rw [hbv]; exact hle, fun e0 => ?_⟩; subst e0; rw [hbv]
  rcases Int.lt_or_le (findI (marR k p n ts op ((labelsL ts).getD 0 0)).x z) (B.getD 0 0) with c | c
  · exfalso
    have hv : 0 ≤ findI (marR k p n ts op ((labelsL ts).getD 0 0)).x z ∧ findI (marR k p n ts op ((labelsL ts).getD 0 0)).x z < dimOf ts ((labelsL ts).getD 0 0) := by omega
    refine h.first 0 hi _ hv.1 c ?_; have hfit1 : fitI ts (labelsL ts) ([findI (marR k p n ts op ((labelsL ts).getD 0 0)).x z] : List Int) 1 := fun j hj => by
      have e : j = 0 := by omega
      subst e; exact hv
    have hsum := pre_sum hr hR hnet ht (i := 1) hi hfit1 (a := upd (asgn (labelsL ts) B) ((labelsL ts).getD 0 0) (findI (marR k p n ts op ((labelsL ts).getD 0 0)).x z)) fun j hj => by
      have e : j = 0 := by omega
      subst e; rw [upd_at]; rfl
    have e := hval _ hv; have hp1 : ((labelsL ts).drop 1).Perm ((labelsL ts).filter fun y => decide (y ∉ [(labelsL ts).getD 0 0])) := by
      have e2 : labelsL ts = (labelsL ts).getD 0 0 :: (labelsL ts).drop 1 := by
        have := List.drop_eq_getElem_cons hi; rw [List.drop_zero] at this; rw [this]; simp [List.getD]
      have h5 := hperm; rw [e2] at h5; have h6 := h5; rw [← e2] at h6; have h7 : ((labelsL ts).getD 0 0 :: (labelsL ts).drop 1).Perm ((labelsL ts).getD 0 0 :: (labelsL ts).filter fun y => decide (y ∉ [(labelsL ts).getD 0 0])) := by
        rw [← e2]; exact hperm
      exact h7.cons_inv
    rw [sumO_perm _ _ hp1, ← e, hele _ hv, hgt.2] at hsum; have hin := (pre_tot hnet ht (i := 1) hi hfit1).2.1.inR; have hz1 : InR k p n [z] := by rw [← hz]; exact ht.inR
    have h8 := toA_inj hr hin hz1 hsum; rw [hz]; exact h8
  · omega
end
end Go.Proofs.YtiefkcaplhnnmaaGreat
namespace Go.Proofs.YtiefkcaplhnnmaaGreat
set_option maxRecDepth 100000
open Go.RowKit
set_option maxHeartbeats 4000000 in
theorem ct_i_BestAssignment (k p n : Int) (ts : List Ten) (op : List Int) (vt vo : Value) (w : World) (r : TensR ts vt (hp w)) (r' : IntsR op vo (hp w)) (hs : op.length ≤ 1048576) :
    Calls Tryz.prog 18 [netV k p n vt vo].toArray w (Ret w emp (IntsB (bsX k p n ts op) (bsB k p n ts op))) := by
  refine calls_in Tryz.func18 rfl Tryz.ntmps18 rfl (Sat.start w) ?_; have hle0 := r.le; obtain ⟨cs_r, rr_r, hc_r⟩ := r.at; have hle1 := r'.le; refine wp_sc (wp_sq ?_); refine sq_x rfl (x_box rfl rfl) rfl ?_; rintro _ _ ⟨b1, rfl, rfl⟩; refine sq_v rfl (v_assign rfl) rfl (sq_v rfl (v_assign rfl) rfl (sq_end (qs_n (wp_sc (wp_sc (wp_sq (sq_v rfl (v_loadNB 0 ty_29 rfl rfl rfl rfl) rfl (sq_u rfl (x_callv rfl en_14 (fun w s => ct_i_NetworkOk _ _ _ _ _ _ _ w (r.mono (s.get 1 rfl)) (r'.mono (s.get 1 rfl)) (by first | assumption | omega))) rfl ?_)))))))); refine sq_bb 17 rfl (fun c17 => ?_) (fun c17 => ?_)
  · refine sq_v rfl (v_not rfl) rfl (sq_v rfl (v_move rfl) rfl (sq_v rfl (v_fieldAddr fd_29_0 ty_24 (by decide) rfl) rfl (sq_v rfl (v_loadNB 0 ty_24 rfl rfl rfl rfl) rfl (sq_u rfl (x_callv rfl en_19 (fun w s => ct_i_IsSelective _ _ _ w)) rfl (sq_v rfl (v_not rfl) rfl (sq_v rfl (v_pickf rfl rfl) rfl (sq_end (qs_n ?_)))))))); refine wp_cn _ rfl (fun c24 => ?_) (fun c24 => ?_)
    · refine wp_sc (wp_sq (sq_v rfl (v_assign rfl) rfl (sq_v rfl (v_assign rfl) rfl (sq_end (qs_n (wp_rt (qs_r ?_))))))); exact qs_ret2 rfl rfl rfl (fin_e (i := 1) rfl (BsNo (bsO_none fun h => by rw [h.2] at c24; cases c24)))
    · refine wp_sk (qs_n (wp_sc (wp_sq (sq_v rfl (v_loadNB 0 ty_29 rfl rfl rfl rfl) rfl ?_)))); refine sq_x rfl (x_call rfl en_17 (fun w s => ct_i_TotalOf _ _ _ _ _ _ _ w (r.mono (s.get 1 rfl)) (r'.mono (s.get 1 rfl)) (by first | assumption | omega))) rfl ?_; rintro _ h27 ⟨v27, rfl, r27⟩; refine sq_v rfl (v_move rfl) rfl (sq_v rfl (v_extract rfl rfl) rfl (sq_v rfl (v_extract rfl rfl) rfl (sq_v rfl (v_assign rfl) rfl (sq_v rfl (v_assign rfl) rfl (sq_end (qs_n (wp_sc (wp_sc (wp_sq (sq_v rfl (v_move rfl) rfl (sq_v rfl (v_not rfl) rfl (sq_end (qs_n ?_))))))))))))); refine wp_cn _ rfl (fun c31 => ?_) (fun c31 => ?_)
      · refine wp_sc (wp_sq (sq_v rfl (v_assign rfl) rfl (sq_v rfl (v_assign rfl) rfl (sq_end (qs_n (wp_rt (qs_r ?_))))))); exact qs_ret2 rfl rfl rfl (fin_e (i := 2) rfl (BsNo (bsO_none fun h => totB_false.1 c31 h.1)))
      · refine wp_sk (qs_n (wp_sc (wp_sq (sq_v rfl (v_assign rfl) rfl (sq_end (qs_n (wp_sc (wp_sq (sq_v rfl (v_loadNB 1 ty_29 rfl rfl rfl rfl) rfl ?_))))))))); refine sq_x rfl (x_alloc ty_29 rfl) rfl ?_; rintro _ _ ⟨b7, rfl, rfl⟩; refine sq_m 0 rfl rfl (m_store 0 ty_29 rfl rfl rfl rfl (by simp [one_int, r.sl.one, r'.sl.one]) rfl (Nat.le_of_ble_eq_true rfl)) rfl ?_; rintro _ _ ⟨rfl, rfl⟩; refine sq_end (qs_n (wp_sc (wp_sc (wp_sq (sq_v rfl (v_loadNB 2 ty_29 rfl rfl rfl rfl) rfl ?_))))); refine sq_x rfl (x_call rfl en_23 (fun w s => ct_i_LabelsOf _ _ _ _ _ _ _ w (r.mono (s.get 3 rfl)) (r'.mono (s.get 3 rfl)) (by first | assumption | omega))) rfl ?_; rintro v34 h34 r34; refine sq_v rfl (v_len Tryz.underlying27 rfl r34.toR.sl) rfl (sq_v rfl (v_move rfl) rfl (sq_end ?_)); have htot := totB_true.1 c31; have hnet := htot.1; have hsel : selB k p n = true := c24; have hbs : bsP k p n ts op := ⟨htot, hsel⟩
        have hB := netB_true.2 hnet; have hlo : labelsOf k p n ts op = labelsL ts := if_pos hnet; rw [hlo] at r34 ⊢; refine qs_s [PUn emp (hp w), h34, h27, box b7 [num k, num p, num n, vt, vo] 29, box b1 [num k, num p, num n, vt, vo] 29] (fun _ s => Sat.merge (emp_sat (s.pick (HS' := [hp w, h34, h27, box b7 [num k, num p, num n, vt, vo] 29, box b1 [num k, num p, num n, vt, vo] 29]) [4, 0, 2, 1, 3] (by decide) rfl))) (qs_n (wp_bl ?_)); refine wp_lp (σ := Nat × (List Int) × Value × PH × Value × Value × PH) (fun z_ => [(1, .pointer (some ⟨b1, 0, none⟩)), (2, .slice none 0 0), (3, .bool false), (4, v27), (6, z_.2.2.1), (7, .pointer (some ⟨b7, 0, none⟩)), (34, v34), (35, num (labelsL ts).length), (36, num z_.1)]) (fun z_ => [z_.2.2.2.1, (PUn z_.2.2.2.2.2.2 (hp w)), h34, h27, box b7 [num k, num p, num n, z_.2.2.2.2.1, z_.2.2.2.2.2.1] 29, box b1 [num k, num p, num n, vt, vo] 29]) (fun z_ => z_.1 ≤ (labelsL ts).length ∧ z_.2.1.length = z_.1 ∧ fitI ts (labelsL ts) z_.2.1 z_.1 ∧ baTo k p n ts op z_.1 = some z_.2.1 ∧ PDj z_.2.2.2.2.2.2 (hp w) ∧ TensR (tsI k n ts (labelsL ts) z_.2.1 z_.1) z_.2.2.2.2.1 (PUn z_.2.2.2.2.2.2 (hp w)) ∧ IntsR (opI op (labelsL ts) z_.1) z_.2.2.2.2.2.1 (PUn z_.2.2.2.2.2.2 (hp w)) ∧ IntsO z_.2.1 z_.2.2.1 z_.2.2.2.1) (fun z_ => (labelsL ts).length - z_.1) (0, [], .slice none 0 0, emp, vt, vo, emp) (⟨by (try dsimp only); omega, rfl, fun j hj => by omega, rfl, PDj.emp _, by (try dsimp only); rw [tsI_zero]; exact r.mono (PLe.un_r (PDj.emp _)), by (try dsimp only); rw [opI_zero]; exact r'.mono (PLe.un_r (PDj.emp _)), IntsO.nil⟩) ⟨rfl, rfl, rfl, rfl, (by first | rfl | exact ksub rfl (by first | omega | (simp; done) | (simp; omega))), rfl, rfl, rfl, (by first | rfl | exact ksub rfl (by first | omega | (simp; done) | (simp; omega))), trivial⟩ (fun _ s => (emp_sat s)) ?_; rintro ⟨i, vs, lv, lh, lx, lo, hl⟩ ⟨hi, hvl, hfi, has, hdj, rT, rO, qv⟩; dsimp only at hi hvl hfi has hdj rT rO qv ⊢; have hle_qv := qv.toR.le; have hll : (labelsL ts).length ≤ 100 := labels_len ts 100; have htk : vs.take i = vs := List.take_of_length_le (by omega); have hni := netI hnet (labL_nodup ts) i hi hfi; have hol := opI_len op (labelsL ts) i; refine wp_sc (wp_sq (sq_v rfl (v_lss rfl rfl) rfl (sq_end (qs_n (wp_sc ?_))))); refine wp_cd rfl (fun c37 => ?_) (fun c37 => ?_)
        · refine wp_sk (qs_n (wp_sc (wp_bl (wp_sc (wp_sq ?_))))); refine sq_v rfl (v_idxI Tryz.underlying27 ty_3 rfl rfl r34.toR (by first | omega | (simp; omega) | (simp only [List.length_append, List.length_cons, List.length_nil]; omega) | (rw [List.length_set]; omega)) (by first | omega | (simp; omega) | (simp only [List.length_append, List.length_cons, List.length_nil]; omega) | (rw [List.length_set]; omega))) rfl ?_; refine sq_v rfl (v_loadI (k := i) 2 ty_3 rfl rfl r34.toR (by first | omega | (simp; omega) | (simp only [List.length_append, List.length_cons, List.length_nil]; omega) | (rw [List.length_set]; omega))) rfl ?_; refine sq_v rfl (v_assign rfl) rfl (sq_end (qs_n (wp_sc (wp_sq (sq_v rfl (v_assign rfl) rfl (sq_end (qs_n (wp_sc (wp_sc (wp_sq (sq_v rfl (v_assign rfl) rfl (sq_end (qs_n (wp_bl ?_)))))))))))))); refine wp_lp (σ := Int × Bool × (List Int) × Nat × Value × PH × Value × Value × PH) (fun z_ => [(1, .pointer (some ⟨b1, 0, none⟩)), (2, .slice none 0 0), (3, .bool false), (4, v27), (6, z_.2.2.2.2.1), (7, .pointer (some ⟨b7, 0, none⟩)), (9, num ((labelsL ts).getD i 0)), (10, .bool z_.2.1), (11, num z_.1), (34, v34), (35, num (labelsL ts).length), (36, num i), (37, .bool (decide ((i : Int) < (labelsL ts).length))), (39, num ((labelsL ts).getD i 0))]) (fun z_ => [z_.2.2.2.2.2.1, (PUn z_.2.2.2.2.2.2.2.2 (hp w)), h34, h27, box b7 [num k, num p, num n, z_.2.2.2.2.2.2.1, z_.2.2.2.2.2.2.2.1] 29, box b1 [num k, num p, num n, vt, vo] 29]) (fun z_ => (0 ≤ z_.1 ∧ z_.1 ≤ dimOf ts ((labelsL ts).getD i 0)) ∧ ((z_.2.1 = false → i = z_.2.2.2.1 ∧ vs = z_.2.2.1 ∧ baTo k p n ts op (i + 1) = baIn k p n ts op vs i (dimOf ts ((labelsL ts).getD i 0) - z_.1).toNat z_.1)) ∧ ((z_.2.1 = true → z_.2.2.2.1 = i + 1 ∧ z_.2.2.1.length = i + 1 ∧ fitI ts (labelsL ts) z_.2.2.1 (i + 1) ∧ baTo k p n ts op (i + 1) = some z_.2.2.1)) ∧ PDj z_.2.2.2.2.2.2.2.2 (hp w) ∧ TensR (tsI k n ts (labelsL ts) z_.2.2.1 z_.2.2.2.1) z_.2.2.2.2.2.2.1 (PUn z_.2.2.2.2.2.2.2.2 (hp w)) ∧ IntsR (opI op (labelsL ts) z_.2.2.2.1) z_.2.2.2.2.2.2.2.1 (PUn z_.2.2.2.2.2.2.2.2 (hp w)) ∧ IntsO z_.2.2.1 z_.2.2.2.2.1 z_.2.2.2.2.2.1) (fun z_ => (dimOf ts ((labelsL ts).getD i 0) - z_.1).toNat) (0, false, vs, i, lv, lh, lx, lo, hl) (⟨by (try dsimp only); have := (dimOf_range (ts := ts) (fun t ht => axes_ok (net_axes hnet t ht)) ((labelsL ts).getD i 0)); omega, fun _ => ⟨rfl, rfl, baTo_step has⟩, (fun h => by cases h), hdj, rT, rO, qv⟩) ⟨rfl, rfl, rfl, rfl, (by first | rfl | exact ksub rfl (by first | omega | (simp; done) | (simp; omega))), rfl, rfl, (by first | rfl | exact ksub rfl (by first | omega | (simp; done) | (simp; omega))), (by first | rfl | exact ksub rfl (by first | omega | (simp; done) | (simp; omega))), rfl, rfl, rfl, rfl, rfl, trivial⟩ (fun _ s => s) ?_; rintro ⟨v, fd, cs2, m2, cv, ch, mx, mo, hm⟩ ⟨hv, hf0, hf1, hdm, sT, sO, qw⟩; dsimp only at hv hf0 hf1 hdm sT sO qw ⊢; have hle_qw := qw.toR.le; have hd8 := (dimOf_range (ts := ts) (fun t ht => axes_ok (net_axes hnet t ht)) ((labelsL ts).getD i 0))
          have hx8 : ifB (netB k p n ts op) (dimOf ts ((labelsL ts).getD i 0)) 0 = dimOf ts ((labelsL ts).getD i 0) := by rw [hB]; rfl
          refine wp_sc (wp_sc (wp_sq (sq_v rfl (v_move rfl) rfl (sq_v rfl (v_loadNB 5 ty_29 rfl rfl rfl rfl) rfl (sq_v rfl (v_move rfl) rfl (sq_u rfl (x_callv rfl en_37 (fun w s => ct_i_DimOf _ _ _ _ _ _ _ _ w ((r.mono (PLe.un_r hdm)).mono (s.get 1 rfl)) ((r'.mono (PLe.un_r hdm)).mono (s.get 1 rfl)) (by first | assumption | omega))) rfl (sq_v rfl (v_lss rfl rfl) rfl ?_))))))); refine sq_bd 44 rfl (fun c44 => ?_) (fun c44 => ?_)
          · refine sq_v rfl (v_move rfl) rfl (sq_v rfl (v_move rfl) rfl (sq_v rfl (v_not rfl) rfl (sq_v rfl (v_pickt rfl rfl) rfl (sq_end (qs_n ?_))))); refine wp_cn _ rfl (fun c48 => ?_) (fun c48 => ?_)
            · refine wp_sk (qs_n (wp_sc (wp_bl (wp_sc (wp_sq ?_))))); subst c48; obtain ⟨rfl, rfl, hin⟩ := hf0 rfl; have hlt : v < dimOf ts ((labelsL ts).getD i 0) := (by rw [hx8] at c44; exact c44); have hni2 := hni.2 i (Nat.le_refl _) (by omega); have hofl := List.length_filter_le (fun y => decide (y ≠ (labelsL ts).getD i 0)) (opI op (labelsL ts) i); have ecu := cu_step (k := k) (n := n) (ts := ts) (v := v) (show i ≤ vs.length by omega); have eop := opI_step op (show i < (labelsL ts).length by omega); refine sq_v rfl (v_loadNB 4 ty_29 rfl rfl rfl rfl) rfl (sq_v rfl (v_move rfl) rfl (sq_v rfl (v_move rfl) rfl ?_)); refine sq_x rfl (x_call rfl en_38 (fun w s => ct_i_SliceNetwork _ _ _ _ _ _ _ _ _ w (sT.mono (s.get 1 rfl)) (sO.mono (s.get 1 rfl)) (by omega) hni.1 ⟨hv.1, by rw [hni2]; exact hlt⟩)) rfl ?_; rintro _ h55 ⟨vt55, vo55, rfl, o55⟩; obtain ⟨cs_T_55, rr_T_55, hc_T_55⟩ := o55.toR.1.at; refine sq_v rfl (v_move rfl) rfl (sq_v rfl (v_extract rfl rfl) rfl (sq_v rfl (v_extract rfl rfl) rfl ?_)); refine sq_x rfl (x_alloc ty_29 rfl) rfl ?_; rintro _ _ ⟨b12, rfl, rfl⟩; refine sq_m 0 rfl rfl (m_store 0 ty_29 rfl rfl rfl rfl (by simp [one_int, o55.toR.1.sl.one, o55.toR.2.sl.one]) rfl (Nat.le_of_ble_eq_true rfl)) rfl ?_; rintro _ _ ⟨rfl, rfl⟩; refine sq_v rfl (v_assign rfl) rfl (sq_end (qs_n (wp_sc (wp_sq (sq_v rfl (v_loadNB 0 ty_29 rfl rfl rfl rfl) rfl ?_))))); refine sq_x rfl (x_call rfl en_17 (fun w s => ct_i_TotalOf _ _ _ _ _ _ _ w (o55.toR.1.mono (s.get 1 rfl)) (o55.toR.2.mono (s.get 1 rfl)) (by omega))) rfl ?_; rintro _ h60 ⟨v60, rfl, r60⟩; refine sq_v rfl (v_move rfl) rfl (sq_v rfl (v_extract rfl rfl) rfl (sq_v rfl (v_extract rfl rfl) rfl (sq_v rfl (v_assign rfl) rfl (sq_v rfl (v_assign rfl) rfl (sq_end (qs_n (wp_sc (wp_sc (wp_sq (sq_v rfl (v_move rfl) rfl (sq_v rfl (v_not rfl) rfl (sq_end (qs_n ?_))))))))))))); refine wp_cn _ rfl (fun c64 => ?_) (fun c64 => ?_)
              · refine wp_sc (wp_sq (sq_v rfl (v_assign rfl) rfl (sq_v rfl (v_assign rfl) rfl (sq_end (qs_n (wp_rt (qs_r (qs_br (qs_r (qs_r (qs_br (qs_r (qs_br (qs_r (qs_r (qs_br (qs_r (qs_s [hm, hp w] (fun _ s => Sat.part hdm (s.pick [4] (by decide) rfl)) ?_)))))))))))))))))); exact qs_ret2 rfl rfl rfl (fin_e (i := 1) rfl (BsNo (bsO_at (i := i + 1) (hin.trans (ba_no (fun h => by unfold baP at h; rw [ecu, eop] at h; exact totB_false.1 c64 h))) (by omega))))
              · refine wp_sk (qs_n (wp_sc (wp_sq ?_))); have hba : baP k p n ts op vs i v := (by unfold baP; rw [ecu, eop]; exact totB_true.1 c64); have hbx : baX k p n ts op vs i v = totX k p n ((tsI k n ts (labelsL ts) vs i).map fun t => fix1 k n t ((labelsL ts).getD i 0) v) ((opI op (labelsL ts) i).filter fun y => decide (y ≠ (labelsL ts).getD i 0)) := (by unfold baX; rw [ecu, eop])
                refine sq_v rfl (v_move rfl) rfl (sq_v rfl (v_move rfl) rfl (sq_u rfl (x_callv rfl en_50 (fun w s => ct_i_equalInts _ _ _ _ w (r60.toR.mono (s.get 0 rfl)) (r27.toR.mono (s.get 6 rfl)))) rfl (sq_end (qs_n ?_)))); refine wp_cd rfl (fun c67 => ?_) (fun c67 => ?_)
                · refine wp_sc (wp_sq (sq_v rfl (v_assign rfl) rfl (sq_end (qs_n (wp_sc (wp_sq (sq_v rfl (v_move rfl) rfl (sq_v rfl (v_move rfl) rfl ?_)))))))); refine sq_x rfl (x_buildS [num (v)] Tryz.underlying27 ty_3 (by decide) rfl rfl rfl (by decide) (by decide) (by intro v hv; simp at hv; rcases hv with rfl <;> rfl)) rfl ?_; intro v70 h70 (r70 : IntsO [v] v70 h70); refine sq_m 4 rfl rfl (m_appI 4 0 Tryz.underlying27 ty_3 rfl rfl rfl rfl qw rfl r70.toR (by first | omega | (simp; omega) | (simp only [List.length_append, List.length_cons, List.length_nil]; omega) | (rw [List.length_set]; omega))) rfl ?_; intro v71 h_r71 r71; refine sq_v rfl (v_assign rfl) rfl (sq_end (qs_n (wp_sq (sq_v rfl (v_loadNB 2 ty_29 rfl rfl rfl rfl) rfl ?_)))); refine sq_m 8 rfl rfl (m_store 8 ty_29 rfl rfl rfl rfl (by simp [one_int, o55.toR.1.sl.one, o55.toR.2.sl.one]) rfl (Nat.le_of_ble_eq_true rfl)) rfl ?_; rintro _ _ ⟨rfl, rfl⟩; refine sq_end (qs_bn (qs_n (wp_sq (sq_v rfl (v_move rfl) rfl ?_)))); refine sq_v rfl (v_add rfl rfl ((by unfold I64; omega))) rfl ?_; refine sq_v rfl (v_assign rfl) rfl (sq_end ?_); refine qs_dj 5 3 rfl rfl rfl (fun hdm2 => ?_); exact qs_bk (v + 1, true, vs ++ [v], i + 1, v71, h_r71, vt55, vo55, h55) ⟨by (try dsimp only); omega, (fun h => by cases h), (fun _ => ⟨rfl, by rw [List.length_append, hvl]; rfl, by have := cu_fit (show i ≤ vs.length by omega) hfi ⟨hv.1, hlt⟩; rwa [htk] at this, hin.trans (ba_hit ⟨hv.1, hlt⟩ hba (hbx.trans c67))⟩), (hdm2.mono (PLe.un_r hdm)).symm, by (try dsimp only); have e := ecu; rw [cuT, htk] at e; rw [e]; exact o55.toR.1.mono (PLe.un_l _ _), by (try dsimp only); rw [opI_step op (by omega)]; exact o55.toR.2.mono (PLe.un_l _ _), r71⟩ (by simp only; omega) ⟨rfl, rfl, rfl, rfl, (by first | rfl | exact ksub rfl (by first | omega | (simp; done) | (simp; omega))), rfl, rfl, (by first | rfl | exact ksub rfl (by first | omega | (simp; done) | (simp; omega))), (by first | rfl | exact ksub rfl (by first | omega | (simp; done) | (simp; omega))), rfl, rfl, rfl, rfl, rfl, trivial⟩ (fun _ s => (Sat.merge ((Sat.part hdm (s.pick (HS' := [PUn hm (hp w), h55, h_r71, h34, h27, box b7 [num k, num p, num n, vt55, vo55] 29, box b1 [num k, num p, num n, vt, vo] 29]) [5, 3, 4, 6, 7, 8, 9] (by decide) rfl)).pick (HS' := [h55, hp w, h_r71, h34, h27, box b7 [num k, num p, num n, vt55, vo55] 29, box b1 [num k, num p, num n, vt, vo] 29]) [2, 1, 3, 4, 5, 6, 7] (by decide) rfl)).pick (HS' := [h_r71, PUn h55 (hp w), h34, h27, box b7 [num k, num p, num n, vt55, vo55] 29, box b1 [num k, num p, num n, vt, vo] 29]) [1, 0, 2, 3, 4, 5] (by decide) rfl)
                · refine wp_sk (qs_bn (qs_n (wp_sq (sq_v rfl (v_move rfl) rfl ?_)))); refine sq_v rfl (v_add rfl rfl ((by unfold I64; omega))) rfl ?_; refine sq_v rfl (v_assign rfl) rfl (sq_end ?_); exact qs_bk (v + 1, false, vs, i, cv, ch, mx, mo, hm) ⟨by (try dsimp only); omega, (fun _ => ⟨rfl, rfl, hin.trans (ba_next ⟨hv.1, hlt⟩ hba (fun e => c67 (hbx.symm.trans e)))⟩), (fun h => by cases h), hdm, sT, sO, qw⟩ (by simp only; omega) ⟨rfl, rfl, rfl, rfl, (by first | rfl | exact ksub rfl (by first | omega | (simp; done) | (simp; omega))), rfl, rfl, (by first | rfl | exact ksub rfl (by first | omega | (simp; done) | (simp; omega))), (by first | rfl | exact ksub rfl (by first | omega | (simp; done) | (simp; omega))), rfl, rfl, rfl, rfl, rfl, trivial⟩ (fun _ s => s.pick [3, 4, 5, 6, 7, 8] (by decide) rfl)
            · refine wp_ex (qs_x (qs_x (qs_bx (qs_n (wp_sc (wp_sq (sq_v rfl (v_move rfl) rfl (sq_v rfl (v_not rfl) rfl (sq_end (qs_n ?_)))))))))); refine wp_cn _ rfl (fun c74 => ?_) (fun c74 => ?_)
              · refine wp_sc (wp_sq (sq_v rfl (v_assign rfl) rfl (sq_v rfl (v_assign rfl) rfl (sq_end (qs_n (wp_rt (qs_br (qs_r (qs_r (qs_br (qs_r ?_))))))))))); exact absurd (c48.symm.trans c74) (by decide)
              · refine wp_sk (qs_bn (qs_n (wp_sq ?_))); refine sq_v rfl (v_add rfl rfl ((by unfold I64; omega))) rfl ?_; refine sq_v rfl (v_move rfl) rfl (sq_end ?_); exact qs_bk (i + 1, cs2, cv, ch, mx, mo, hm) ⟨by (try dsimp only); omega, (hf1 c74).2.1, (hf1 c74).2.2.1, (hf1 c74).2.2.2, hdm, by (try dsimp only); have e := (hf1 c74).1; subst e; exact sT, by (try dsimp only); have e := (hf1 c74).1; subst e; exact sO, qw⟩ (by simp only; omega) ⟨rfl, rfl, rfl, rfl, (by first | rfl | exact ksub rfl (by first | omega | (simp; done) | (simp; omega))), rfl, rfl, rfl, (by first | rfl | exact ksub rfl (by first | omega | (simp; done) | (simp; omega))), trivial⟩ (fun _ s => s)
          · refine sq_v rfl (v_move rfl) rfl (sq_s rfl rfl (sq_s rfl rfl (sq_v rfl (v_pickf rfl rfl) rfl (sq_end (qs_n (wp_cf rfl (wp_ex (qs_x (qs_x (qs_bx (qs_n (wp_sc (wp_sq (sq_v rfl (v_move rfl) rfl (sq_v rfl (v_not rfl) rfl (sq_end (qs_n ?_))))))))))))))))); refine wp_cn _ rfl (fun c74 => ?_) (fun c74 => ?_)
            · refine wp_sc (wp_sq (sq_v rfl (v_assign rfl) rfl (sq_v rfl (v_assign rfl) rfl (sq_end (qs_n (wp_rt (qs_br (qs_r (qs_r (qs_br (qs_r (qs_s [hm, hp w] (fun _ s => Sat.part hdm (s.pick [1] (by decide) rfl)) ?_)))))))))))); exact qs_ret2 rfl rfl rfl (fin_e (i := 1) rfl (BsNo (bsO_at (i := i + 1) ((hf0 c74).2.2.trans (ba_end (by rw [hx8] at c44; omega))) (by omega))))
            · refine wp_sk (qs_bn (qs_n (wp_sq ?_))); refine sq_v rfl (v_add rfl rfl ((by unfold I64; omega))) rfl ?_; refine sq_v rfl (v_move rfl) rfl (sq_end ?_); exact qs_bk (i + 1, cs2, cv, ch, mx, mo, hm) ⟨by (try dsimp only); omega, (hf1 c74).2.1, (hf1 c74).2.2.1, (hf1 c74).2.2.2, hdm, by (try dsimp only); have e := (hf1 c74).1; subst e; exact sT, by (try dsimp only); have e := (hf1 c74).1; subst e; exact sO, qw⟩ (by simp only; omega) ⟨rfl, rfl, rfl, rfl, (by first | rfl | exact ksub rfl (by first | omega | (simp; done) | (simp; omega))), rfl, rfl, rfl, (by first | rfl | exact ksub rfl (by first | omega | (simp; done) | (simp; omega))), trivial⟩ (fun _ s => s)
        · refine wp_ex (qs_x (qs_x (qs_bx (qs_n (wp_sc (wp_sq (sq_v rfl (v_move rfl) rfl (sq_v rfl (v_assign rfl) rfl (sq_v rfl (v_assign rfl) rfl (sq_end (qs_n (wp_rt (qs_s [hl, hp w, lh] (fun _ s => Sat.part hdj (s.pick [1, 0] (by decide) rfl)) ?_))))))))))))); exact qs_ret2 rfl rfl rfl (fin_t 2 (i := 1) rfl rfl rfl (BsYes hbs has (by omega) qv))
  · refine sq_v rfl (v_not rfl) rfl (sq_v rfl (v_move rfl) rfl (sq_s rfl rfl (sq_s rfl rfl (sq_s rfl rfl (sq_s rfl rfl (sq_v rfl (v_pickt rfl rfl) rfl (sq_end (qs_n (wp_ct rfl (wp_sc (wp_sq (sq_v rfl (v_assign rfl) rfl (sq_v rfl (v_assign rfl) rfl (sq_end (qs_n (wp_rt (qs_r ?_))))))))))))))))); exact qs_ret2 rfl rfl rfl (fin_e (i := 1) rfl (BsNo (bsO_none fun h => by have := netB_true.2 h.1.1; rw [this] at c17; cases c17)))
end Go.Proofs.YtiefkcaplhnnmaaGreat
namespace Go.Proofs.YtiefkcaplhnnmaaGreat
set_option maxRecDepth 100000
open Go.ChangeShapes Go.WideShapes Go.ChangeAt Go.RowKit
theorem sel_of {k p n : Int} (hr : ringL k p n) (hk : k = 1 ∨ k = 4 ∨ k = 5) : selB k p n = true := by
  rw [selB, ringB_true.2 hr]
  rcases hk with rfl | rfl | rfl <;> rfl
theorem gen_vs {k p n : Int} {ts : List Ten} {op : List Int} (hr : ringL k p n) (h : GenN k p n ts op) {ys : List Int} (hl : ys.length = (dimsFor ts (labelsOf k p n ts op)).length) (hf : ∀ j, j < (dimsFor ts (labelsOf k p n ts op)).length → 0 ≤ ys.getD j 0 ∧ ys.getD j 0 < (dimsFor ts (labelsOf k p n ts op)).getD j 0) :
    ys.length = (labelsL ts).length ∧ fitI ts (labelsL ts) ys (labelsL ts).length := by
  rw [gen_labels hr h] at hl hf; have e : (dimsFor ts (labelsL ts)).length = (labelsL ts).length := by simp [dimsFor]
  rw [e] at hl hf; refine ⟨hl, fun j hj => ?_⟩; have := hf j hj
  unfold dimsFor at this
  rwa [map_getD hj] at this
theorem isb_dec {k p n : Int} {ts : List Ten} {op vs : List Int} (hs : selB k p n = true) (ht : totP k p n ts op) (ha : assignL k p n ts op vs) : isbB k p n ts op vs = decide (weightL k p n ts op vs = totX k p n ts op) := by
  rw [Bool.eq_iff_iff, decide_eq_true_eq]; have : isbB k p n ts op vs = true ↔ isbP k p n ts op vs := by simp [isbB]
  rw [this]; exact ⟨fun h => h.2.2.2.symm, fun h => ⟨ha, hs, ht, h.symm⟩⟩
set_option maxHeartbeats 8000000 in
theorem ct_l_FnBest (xs : List Int) (vb : Value) (w : World) (rb : BytesR xs vb (hp w)) : Calls Tryz.prog 4 [vb].toArray w (RetV w (.bool true)) := by
  refine calls_in Tryz.func4 rfl Tryz.ntmps4 rfl (Sat.start w) ?_; have hle0 := rb.le; refine wp_sc (wp_sq (sq_v rfl (v_assign rfl) rfl (sq_end (qs_n (wp_sc (wp_sc (wp_sq (sq_v rfl (v_move rfl) rfl (sq_v rfl (v_len Tryz.underlying22 rfl rb.1.sl) rfl (sq_v rfl (v_gtr rfl rfl) rfl (sq_end (qs_n ?_)))))))))))); refine wp_cd rfl (fun c18 => ?_) (fun c18 => ?_)
  · refine wp_sc (wp_sq (sq_v rfl (v_assign rfl) rfl (sq_end (qs_n (wp_rt (qs_r ?_)))))); exact qs_ret1 rfl rfl (fin_v (i := 0) rfl)
  · refine wp_sk (qs_n (wp_sc (wp_sq (sq_v rfl (v_move rfl) rfl ?_)))); refine sq_x rfl (x_call rfl en_16 (fun w s => ct_s_MakeSelective 0 xs vb w (rb.mono (s.get 0 rfl)) (by omega) (by omega))) rfl ?_; rintro _ h20 ⟨k, p, n, ts, op, ⟨hr, hk⟩, ⟨vt, vo, rfl, o20⟩, hg⟩; obtain ⟨cs_T_20, rr_T_20, hc_T_20⟩ := o20.toR.1.at; refine sq_x rfl (x_alloc ty_29 rfl) rfl ?_; rintro _ _ ⟨b3, rfl, rfl⟩; refine sq_m 0 rfl rfl (m_store 0 ty_29 rfl rfl rfl rfl (by simp [one_int, o20.toR.1.sl.one, o20.toR.2.sl.one]) rfl (Nat.le_of_ble_eq_true rfl)) rfl ?_; rintro _ _ ⟨rfl, rfl⟩; refine sq_end ?_; have hnet := gen_net hr hg; have hs := sel_of hr hk; have ht : totP k p n ts op := gen_tot hg hnet; have hsm := gen_small hg; have hB := best_ok hs hnet ht; have hBl := hB.len; have hBa := asg_of hnet hB.len hB.fit; have hBi : isbB k p n ts op (bsX k p n ts op) = true := by rw [isb_dec hs ht hBa, hB.weight]; exact decide_eq_true rfl
    have hof := hg.few hg.2.2.1 hg.2.2.2; have hll : (labelsL ts).length ≤ 100 := labels_len ts 100; refine qs_n (wp_sc (wp_sq (sq_v rfl (v_loadNB 0 ty_29 rfl rfl rfl rfl) rfl ?_))); refine sq_x rfl (x_call rfl en_17 (fun w s => ct_i_TotalOf _ _ _ _ _ _ _ w (o20.toR.1.mono (s.get 1 rfl)) (o20.toR.2.mono (s.get 1 rfl)) (by first | assumption | exact iota_held _ _ | omega | rfl))) rfl ?_; rintro _ h23 ⟨v23, rfl, r23⟩; refine sq_v rfl (v_move rfl) rfl (sq_v rfl (v_extract rfl rfl) rfl (sq_v rfl (v_extract rfl rfl) rfl (sq_v rfl (v_assign rfl) rfl (sq_v rfl (v_assign rfl) rfl (sq_end ?_))))); rw [totB_true.2 ht]; refine qs_n (wp_sc (wp_sq (sq_v rfl (v_loadNB 1 ty_29 rfl rfl rfl rfl) rfl ?_))); refine sq_x rfl (x_call rfl en_18 (fun w s => ct_i_BestAssignment _ _ _ _ _ _ _ w (o20.toR.1.mono (s.get 2 rfl)) (o20.toR.2.mono (s.get 2 rfl)) (by first | assumption | exact iota_held _ _ | omega | rfl))) rfl ?_; rintro _ h28 ⟨v28, rfl, r28⟩; refine sq_v rfl (v_move rfl) rfl (sq_v rfl (v_extract rfl rfl) rfl (sq_v rfl (v_extract rfl rfl) rfl (sq_v rfl (v_assign rfl) rfl (sq_v rfl (v_assign rfl) rfl (sq_end ?_))))); rw [hB.some.1]; refine qs_n (wp_sc (wp_sc (wp_sq (sq_v rfl (v_move rfl) rfl (sq_v rfl (v_not rfl) rfl (sq_v rfl (v_move rfl) rfl (sq_v rfl (v_move rfl) rfl (sq_v rfl (v_not rfl) rfl (sq_v rfl (v_pickf rfl rfl) rfl (sq_v rfl (v_move rfl) rfl (sq_v rfl (v_fieldAddr fd_29_0 ty_24 (by decide) rfl) rfl (sq_v rfl (v_loadNB 2 ty_24 rfl rfl rfl rfl) rfl (sq_u rfl (x_callv rfl en_19 (fun w s => ct_i_IsSelective _ _ _ w)) rfl ?_))))))))))))); rw [hs]; refine sq_v rfl (v_not rfl) rfl (sq_v rfl (v_pickf rfl rfl) rfl (sq_v rfl (v_move rfl) rfl (sq_v rfl (v_loadNB 2 ty_29 rfl rfl rfl rfl) rfl (sq_v rfl (v_move rfl) rfl (sq_u rfl (x_callv rfl en_20 (fun w s => ct_i_IsBest _ _ _ _ _ _ _ _ _ w (o20.toR.1.mono (s.get 3 rfl)) (o20.toR.2.mono (s.get 3 rfl)) (r28.toR.mono (s.get 0 rfl)) (by first | assumption | exact iota_held _ _ | omega | rfl))) rfl ?_))))); rw [hBi]; refine sq_v rfl (v_not rfl) rfl (sq_v rfl (v_pickf rfl rfl) rfl (sq_v rfl (v_move rfl) rfl (sq_v rfl (v_loadNB 2 ty_29 rfl rfl rfl rfl) rfl (sq_v rfl (v_move rfl) rfl ?_)))); refine sq_x rfl (x_call rfl en_21 (fun w s => ct_i_WeightOf _ _ _ _ _ _ _ _ _ w (o20.toR.1.mono (s.get 3 rfl)) (o20.toR.2.mono (s.get 3 rfl)) (r28.toR.mono (s.get 0 rfl)) (by first | assumption | exact iota_held _ _ | omega | rfl))) rfl ?_; rintro v52 h52 r52; refine sq_v rfl (v_move rfl) rfl ?_; rw [hB.weight] at r52; refine sq_u rfl (x_callv rfl en_12 (fun w s => ct_l_ints _ _ _ w (r52.toR.mono (s.get 0 rfl)) (r23.toR.mono (s.get 2 rfl)))) rfl (sq_v rfl (v_not rfl) rfl (sq_v rfl (v_pickf rfl rfl) rfl (sq_end (qs_n (wp_cf rfl (wp_sk (qs_n (wp_sc (wp_sq (sq_v rfl (v_move rfl) rfl (sq_v rfl (v_loadNB 3 ty_29 rfl rfl rfl rfl) rfl ?_))))))))))); refine sq_x rfl (x_call rfl en_13 (fun w s => ct_s_MakeValues _ _ _ _ _ _ _ _ _ _ w (rb.mono (s.get 5 rfl)) (by first | assumption | exact iota_held _ _ | omega | rfl) (by first | assumption | exact iota_held _ _ | omega | rfl) (o20.toR.1.mono (s.get 4 rfl)) (o20.toR.2.mono (s.get 4 rfl)) (by first | assumption | exact iota_held _ _ | omega | rfl) (fun t ht => axes_ok (net_axes hnet t ht)) (gen_vals hr hg) (by rw [gen_labels hr hg]; omega))) rfl ?_; rintro v59 h59 ⟨ys, ry, hyl, hyr⟩; refine sq_v rfl (v_assign rfl) rfl (sq_end ?_); have hys := gen_vs hr hg hyl hyr; have hya := asg_of hnet hys.1 hys.2; have hle := tot_le hs hnet ht hys.1 hys.2; refine qs_n (wp_sc (wp_sc (wp_sq (sq_v rfl (v_move rfl) rfl (sq_v rfl (v_len Tryz.underlying27 rfl ry.toR.sl) rfl (sq_v rfl (v_move rfl) rfl (sq_v rfl (v_len Tryz.underlying27 rfl r28.toR.sl) rfl (sq_v rfl (v_neq rfl rfl) rfl (sq_end (qs_n ?_)))))))))); refine wp_cd rfl (fun c64 => ?_) (fun c64 => ?_)
    · refine wp_sc (wp_sq (sq_v rfl (v_assign rfl) rfl (sq_end (qs_n (wp_rt (qs_r ?_))))))
      exfalso; first | omega | contradiction
    · refine wp_sk (qs_n (wp_sc (wp_sq (sq_v rfl (v_loadNB 4 ty_29 rfl rfl rfl rfl) rfl (sq_v rfl (v_move rfl) rfl ?_))))); refine sq_x rfl (x_call rfl en_21 (fun w s => ct_i_WeightOf _ _ _ _ _ _ _ _ _ w (o20.toR.1.mono (s.get 5 rfl)) (o20.toR.2.mono (s.get 5 rfl)) (ry.toR.mono (s.get 0 rfl)) (by first | assumption | exact iota_held _ _ | omega | rfl))) rfl ?_; rintro v67 h67 r67; refine sq_v rfl (v_assign rfl) rfl (sq_end (qs_n (wp_sc (wp_sc (wp_sq (sq_v rfl (v_fieldAddr fd_29_0 ty_24 (by decide) rfl) rfl (sq_v rfl (v_loadNB 5 ty_24 rfl rfl rfl rfl) rfl (sq_v rfl (v_move rfl) rfl (sq_v rfl (v_move rfl) rfl ?_))))))))); refine sq_x rfl (x_call rfl en_22 (fun w s => ct_i_AddElemIn _ _ _ _ _ _ _ w (r67.toR.mono (s.get 0 rfl)) (r23.toR.mono (s.get 4 rfl)) hr hle.1 ht.inR)) rfl ?_; rintro v72 h72 r72; refine sq_v rfl (v_move rfl) rfl ?_; rw [hle.2] at r72; refine sq_u rfl (x_callv rfl en_12 (fun w s => ct_l_ints _ _ _ w (r72.toR.mono (s.get 0 rfl)) (r23.toR.mono (s.get 5 rfl)))) rfl (sq_v rfl (v_not rfl) rfl (sq_v rfl (v_move rfl) rfl (sq_v rfl (v_loadNB 6 ty_29 rfl rfl rfl rfl) rfl (sq_v rfl (v_move rfl) rfl (sq_u rfl (x_callv rfl en_20 (fun w s => ct_i_IsBest _ _ _ _ _ _ _ _ _ w (o20.toR.1.mono (s.get 7 rfl)) (o20.toR.2.mono (s.get 7 rfl)) (ry.toR.mono (s.get 2 rfl)) (by first | assumption | exact iota_held _ _ | omega | rfl))) rfl ?_))))); rw [isb_dec hs ht hya]; refine sq_v rfl (v_move rfl) rfl (sq_v rfl (v_move rfl) rfl (sq_u rfl (x_callv rfl en_12 (fun w s => ct_l_intsD _ _ _ _ w (r67.toR.mono (s.get 1 rfl)) (r23.toR.mono (s.get 5 rfl)))) rfl (sq_v rfl (v_neqsb Tryz.underlying4 rfl rfl) rfl (sq_v rfl (v_pickf rfl rfl) rfl (sq_end (qs_n (wp_cf rfl (wp_sk (qs_n (wp_sc (wp_sc (wp_sq (sq_v rfl (v_move rfl) rfl (sq_v rfl (v_len Tryz.underlying27 rfl ry.toR.sl) rfl (sq_v rfl (v_move rfl) rfl (sq_end (qs_n (wp_bl ?_)))))))))))))))))); refine wp_lp (σ := Nat) (fun z_ => [(2, .bool false), (3, .pointer (some ⟨b3, 0, none⟩)), (4, v23), (6, v28), (9, v67), (85, v59), (86, num ys.length), (87, num z_)]) (fun z_ => [h72, h67, h59, h52, h28, h23, box b3 [num k, num p, num n, vt, vo] 29, h20, hp w]) (fun z_ => z_ ≤ ys.length ∧ (∀ j, j < z_ → ys.getD j 0 = (bsX k p n ts op).getD j 0)) (fun z_ => ys.length - z_) 0 (⟨by omega, fun j hj => by omega⟩) ⟨rfl, rfl, rfl, rfl, rfl, rfl, rfl, (by first | rfl | exact ksub rfl (by first | omega | (simp; done) | (simp; omega))), trivial⟩ (fun _ s => s) ?_; rintro i ⟨hi, he⟩; refine wp_sc (wp_sq (sq_v rfl (v_lss rfl rfl) rfl (sq_end (qs_n (wp_sc ?_))))); refine wp_cd rfl (fun c88 => ?_) (fun c88 => ?_)
      · refine wp_sk (qs_n (wp_sc (wp_bl (wp_sc (wp_sq (sq_v rfl (v_move rfl) rfl ?_)))))); refine sq_v rfl (v_idxI Tryz.underlying27 ty_3 rfl rfl ry.toR (by first | omega | (simp; omega) | (simp only [List.length_append, List.length_cons, List.length_nil]; omega) | (rw [List.length_set]; omega)) (by first | omega | (simp; omega) | (simp only [List.length_append, List.length_cons, List.length_nil]; omega) | (rw [List.length_set]; omega))) rfl ?_; refine sq_v rfl (v_loadI (k := i) 2 ty_3 rfl rfl ry.toR (by first | omega | (simp; omega) | (simp only [List.length_append, List.length_cons, List.length_nil]; omega) | (rw [List.length_set]; omega))) rfl ?_; refine sq_v rfl (v_assign rfl) rfl (sq_v rfl (v_assign rfl) rfl (sq_end (qs_n (wp_sc (wp_sq (sq_v rfl (v_move rfl) rfl (sq_v rfl (v_move rfl) rfl (sq_v rfl (v_move rfl) rfl ?_)))))))); refine sq_v rfl (v_idxI Tryz.underlying27 ty_3 rfl rfl r28.toR (by first | omega | (simp; omega) | (simp only [List.length_append, List.length_cons, List.length_nil]; omega) | (rw [List.length_set]; omega)) (by first | omega | (simp; omega) | (simp only [List.length_append, List.length_cons, List.length_nil]; omega) | (rw [List.length_set]; omega))) rfl ?_; refine sq_v rfl (v_loadI (k := i) 4 ty_3 rfl rfl r28.toR (by first | omega | (simp; omega) | (simp only [List.length_append, List.length_cons, List.length_nil]; omega) | (rw [List.length_set]; omega))) rfl ?_; refine sq_v rfl (v_neq rfl rfl) rfl (sq_end (qs_n ?_)); refine wp_cd rfl (fun c97 => ?_) (fun c97 => ?_)
        · refine wp_sc (wp_sc (wp_sq (sq_v rfl (v_move rfl) rfl (sq_v rfl (v_move rfl) rfl (sq_v rfl (v_move rfl) rfl ?_))))); refine sq_v rfl (v_idxI Tryz.underlying27 ty_3 rfl rfl r28.toR (by first | omega | (simp; omega) | (simp only [List.length_append, List.length_cons, List.length_nil]; omega) | (rw [List.length_set]; omega)) (by first | omega | (simp; omega) | (simp only [List.length_append, List.length_cons, List.length_nil]; omega) | (rw [List.length_set]; omega))) rfl ?_; refine sq_v rfl (v_loadI (k := i) 4 ty_3 rfl rfl r28.toR (by first | omega | (simp; omega) | (simp only [List.length_append, List.length_cons, List.length_nil]; omega) | (rw [List.length_set]; omega))) rfl ?_; refine sq_v rfl (v_lss rfl rfl) rfl ?_; refine sq_bd 103 rfl (fun c103 => ?_) (fun c103 => ?_)
          · refine sq_v rfl (v_move rfl) rfl (sq_v rfl (v_move rfl) rfl (sq_v rfl (v_move rfl) rfl (sq_u rfl (x_callv rfl en_12 (fun w s => ct_l_intsD _ _ _ _ w (r67.toR.mono (s.get 1 rfl)) (r23.toR.mono (s.get 5 rfl)))) rfl (sq_v rfl (v_pickt rfl rfl) rfl (sq_end (qs_n ?_)))))); refine wp_cd rfl (fun c108 => ?_) (fun c108 => ?_)
            · refine wp_sc (wp_sq (sq_v rfl (v_assign rfl) rfl (sq_end (qs_n (wp_rt (qs_r (qs_br (qs_r (qs_r (qs_br (qs_r ?_)))))))))))
              exfalso; exact best_least hs hnet ht hB hys.1 hys.2 (i := i) (by omega) he (by omega) (by assumption)
            · refine wp_sk (qs_n (wp_ex (qs_by rfl (qs_x (qs_x (qs_bx (qs_n (wp_sc (wp_sc (wp_sq (sq_v rfl (v_loadNB 6 ty_29 rfl rfl rfl rfl) rfl ?_))))))))))); refine sq_x rfl (x_call rfl en_23 (fun w s => ct_i_LabelsOf _ _ _ _ _ _ _ w (o20.toR.1.mono (s.get 7 rfl)) (o20.toR.2.mono (s.get 7 rfl)) (by first | assumption | exact iota_held _ _ | omega | rfl))) rfl ?_; rintro v111 h111 r111; refine sq_v rfl (v_len Tryz.underlying27 rfl r111.toR.sl) rfl (sq_v rfl (v_move rfl) rfl (sq_end ?_)); rw [gen_labels hr hg] at r111 ⊢; refine qs_n (wp_bl ?_); refine wp_lp (σ := Nat) (fun z_ => [(2, .bool false), (3, .pointer (some ⟨b3, 0, none⟩)), (6, v28), (111, v111), (112, num (labelsL ts).length), (113, num z_)]) (fun z_ => [h111, h72, h67, h59, h52, h28, h23, box b3 [num k, num p, num n, vt, vo] 29, h20, hp w]) (fun z_ => z_ ≤ (labelsL ts).length) (fun z_ => (labelsL ts).length - z_) 0 (by omega) ⟨rfl, rfl, rfl, rfl, rfl, (by first | rfl | exact ksub rfl (by first | omega | (simp; done) | (simp; omega))), trivial⟩ (fun _ s => s) ?_; rintro i hi; refine wp_sc (wp_sq (sq_v rfl (v_lss rfl rfl) rfl (sq_end (qs_n (wp_sc ?_))))); refine wp_cd rfl (fun c114 => ?_) (fun c114 => ?_)
              · refine wp_sk (qs_n (wp_sc (wp_bl (wp_sc (wp_sq (sq_v rfl (v_move rfl) rfl ?_)))))); refine sq_v rfl (v_idxI Tryz.underlying27 ty_3 rfl rfl r111.toR (by first | omega | (simp; omega) | (simp only [List.length_append, List.length_cons, List.length_nil]; omega) | (rw [List.length_set]; omega)) (by first | omega | (simp; omega) | (simp only [List.length_append, List.length_cons, List.length_nil]; omega) | (rw [List.length_set]; omega))) rfl ?_; refine sq_v rfl (v_loadI (k := i) 0 ty_3 rfl rfl r111.toR (by first | omega | (simp; omega) | (simp only [List.length_append, List.length_cons, List.length_nil]; omega) | (rw [List.length_set]; omega))) rfl ?_; refine sq_v rfl (v_assign rfl) rfl (sq_v rfl (v_assign rfl) rfl (sq_end (qs_n (wp_sc (wp_sq (sq_v rfl (v_loadNB 7 ty_29 rfl rfl rfl rfl) rfl (sq_v rfl (v_move rfl) rfl (sq_u rfl (x_callv rfl en_24 (fun w s => ct_i_BestOf _ _ _ _ _ _ _ _ w (o20.toR.1.mono (s.get 8 rfl)) (o20.toR.2.mono (s.get 8 rfl)) (by first | assumption | exact iota_held _ _ | omega | rfl))) rfl (sq_v rfl (v_move rfl) rfl (sq_v rfl (v_extract rfl rfl) rfl (sq_v rfl (v_extract rfl rfl) rfl (sq_v rfl (v_assign rfl) rfl (sq_v rfl (v_assign rfl) rfl (sq_end ?_)))))))))))))); have hbm := best_mar hs hnet ht hsm hB (i := i) (by omega); rw [hbm.1]; refine qs_n (wp_sc (wp_sc (wp_sq (sq_v rfl (v_move rfl) rfl (sq_v rfl (v_not rfl) rfl (sq_v rfl (v_move rfl) rfl (sq_v rfl (v_move rfl) rfl (sq_v rfl (v_move rfl) rfl (sq_v rfl (v_move rfl) rfl ?_))))))))); refine sq_v rfl (v_idxI Tryz.underlying27 ty_3 rfl rfl r28.toR (by first | omega | (simp; omega) | (simp only [List.length_append, List.length_cons, List.length_nil]; omega) | (rw [List.length_set]; omega)) (by first | omega | (simp; omega) | (simp only [List.length_append, List.length_cons, List.length_nil]; omega) | (rw [List.length_set]; omega))) rfl ?_; refine sq_v rfl (v_loadI (k := i) 5 ty_3 rfl rfl r28.toR (by first | omega | (simp; omega) | (simp only [List.length_append, List.length_cons, List.length_nil]; omega) | (rw [List.length_set]; omega))) rfl ?_; refine sq_v rfl (v_gtr rfl rfl) rfl (sq_v rfl (v_pickf rfl rfl) rfl (sq_end (qs_n ?_))); refine wp_cd rfl (fun c133 => ?_) (fun c133 => ?_)
                · refine wp_sc (wp_sq (sq_v rfl (v_assign rfl) rfl (sq_end (qs_n (wp_rt (qs_r (qs_br (qs_r (qs_r (qs_br (qs_r ?_)))))))))))
                  exfalso; first | omega | contradiction
                · refine wp_sk (qs_n (wp_sc (wp_sq (sq_v rfl (v_move rfl) rfl (sq_v rfl (v_eql rfl rfl) rfl ?_))))); refine sq_bd 135 rfl (fun c135 => ?_) (fun c135 => ?_)
                  · refine sq_v rfl (v_move rfl) rfl (sq_v rfl (v_move rfl) rfl (sq_v rfl (v_move rfl) rfl ?_)); refine sq_v rfl (v_idxI Tryz.underlying27 ty_3 rfl rfl r28.toR (by first | omega | (simp; omega) | (simp only [List.length_append, List.length_cons, List.length_nil]; omega) | (rw [List.length_set]; omega)) (by first | omega | (simp; omega) | (simp only [List.length_append, List.length_cons, List.length_nil]; omega) | (rw [List.length_set]; omega))) rfl ?_; refine sq_v rfl (v_loadI (k := 0) 5 ty_3 rfl rfl r28.toR (by first | omega | (simp; omega) | (simp only [List.length_append, List.length_cons, List.length_nil]; omega) | (rw [List.length_set]; omega))) rfl ?_; refine sq_v rfl (v_neq rfl rfl) rfl (sq_v rfl (v_pickt rfl rfl) rfl (sq_end (qs_n ?_))); refine wp_cd rfl (fun c142 => ?_) (fun c142 => ?_)
                    · refine wp_sc (wp_sq (sq_v rfl (v_assign rfl) rfl (sq_end (qs_n (wp_rt (qs_br (qs_r (qs_r (qs_br (qs_r ?_))))))))))
                      exfalso; have h9 := hbm.2.2 (by omega); omega
                    · refine wp_sk (qs_bn (qs_n (wp_sq ?_))); refine sq_v rfl (v_add rfl rfl ((by unfold I64; omega))) rfl ?_; refine sq_v rfl (v_move rfl) rfl (sq_end ?_); exact qs_bk (i + 1) (by omega) (by omega) ⟨rfl, rfl, rfl, rfl, rfl, (by first | rfl | exact ksub rfl (by first | omega | (simp; done) | (simp; omega))), trivial⟩ (fun _ s => s)
                  · refine sq_v rfl (v_move rfl) rfl (sq_s rfl rfl (sq_s rfl rfl (sq_s rfl rfl (sq_s rfl rfl (sq_s rfl rfl (sq_v rfl (v_pickf rfl rfl) rfl (sq_end (qs_n (wp_cf rfl (wp_sk (qs_bn (qs_n (wp_sq ?_))))))))))))); refine sq_v rfl (v_add rfl rfl ((by unfold I64; omega))) rfl ?_; refine sq_v rfl (v_move rfl) rfl (sq_end ?_); exact qs_bk (i + 1) (by omega) (by omega) ⟨rfl, rfl, rfl, rfl, rfl, (by first | rfl | exact ksub rfl (by first | omega | (simp; done) | (simp; omega))), trivial⟩ (fun _ s => s)
              · refine wp_ex (qs_x (qs_x (qs_bx (qs_n (wp_sc (wp_sq (sq_v rfl (v_assign rfl) rfl (sq_end (qs_n (wp_rt ?_)))))))))); exact qs_ret1 rfl rfl (fin_v (i := 9) rfl)
          · refine sq_v rfl (v_move rfl) rfl (sq_s rfl rfl (sq_s rfl rfl (sq_s rfl rfl (sq_v rfl (v_pickf rfl rfl) rfl (sq_end (qs_n (wp_cf rfl (wp_sk (qs_n (wp_ex (qs_by rfl (qs_x (qs_x (qs_bx (qs_n (wp_sc (wp_sc (wp_sq (sq_v rfl (v_loadNB 6 ty_29 rfl rfl rfl rfl) rfl ?_))))))))))))))))))); refine sq_x rfl (x_call rfl en_23 (fun w s => ct_i_LabelsOf _ _ _ _ _ _ _ w (o20.toR.1.mono (s.get 7 rfl)) (o20.toR.2.mono (s.get 7 rfl)) (by first | assumption | exact iota_held _ _ | omega | rfl))) rfl ?_; rintro v111 h111 r111; refine sq_v rfl (v_len Tryz.underlying27 rfl r111.toR.sl) rfl (sq_v rfl (v_move rfl) rfl (sq_end ?_)); rw [gen_labels hr hg] at r111 ⊢; refine qs_n (wp_bl ?_); refine wp_lp (σ := Nat) (fun z_ => [(2, .bool false), (3, .pointer (some ⟨b3, 0, none⟩)), (6, v28), (111, v111), (112, num (labelsL ts).length), (113, num z_)]) (fun z_ => [h111, h72, h67, h59, h52, h28, h23, box b3 [num k, num p, num n, vt, vo] 29, h20, hp w]) (fun z_ => z_ ≤ (labelsL ts).length) (fun z_ => (labelsL ts).length - z_) 0 (by omega) ⟨rfl, rfl, rfl, rfl, rfl, (by first | rfl | exact ksub rfl (by first | omega | (simp; done) | (simp; omega))), trivial⟩ (fun _ s => s) ?_; rintro i hi; refine wp_sc (wp_sq (sq_v rfl (v_lss rfl rfl) rfl (sq_end (qs_n (wp_sc ?_))))); refine wp_cd rfl (fun c114 => ?_) (fun c114 => ?_)
            · refine wp_sk (qs_n (wp_sc (wp_bl (wp_sc (wp_sq (sq_v rfl (v_move rfl) rfl ?_)))))); refine sq_v rfl (v_idxI Tryz.underlying27 ty_3 rfl rfl r111.toR (by first | omega | (simp; omega) | (simp only [List.length_append, List.length_cons, List.length_nil]; omega) | (rw [List.length_set]; omega)) (by first | omega | (simp; omega) | (simp only [List.length_append, List.length_cons, List.length_nil]; omega) | (rw [List.length_set]; omega))) rfl ?_; refine sq_v rfl (v_loadI (k := i) 0 ty_3 rfl rfl r111.toR (by first | omega | (simp; omega) | (simp only [List.length_append, List.length_cons, List.length_nil]; omega) | (rw [List.length_set]; omega))) rfl ?_; refine sq_v rfl (v_assign rfl) rfl (sq_v rfl (v_assign rfl) rfl (sq_end (qs_n (wp_sc (wp_sq (sq_v rfl (v_loadNB 7 ty_29 rfl rfl rfl rfl) rfl (sq_v rfl (v_move rfl) rfl (sq_u rfl (x_callv rfl en_24 (fun w s => ct_i_BestOf _ _ _ _ _ _ _ _ w (o20.toR.1.mono (s.get 8 rfl)) (o20.toR.2.mono (s.get 8 rfl)) (by first | assumption | exact iota_held _ _ | omega | rfl))) rfl (sq_v rfl (v_move rfl) rfl (sq_v rfl (v_extract rfl rfl) rfl (sq_v rfl (v_extract rfl rfl) rfl (sq_v rfl (v_assign rfl) rfl (sq_v rfl (v_assign rfl) rfl (sq_end ?_)))))))))))))); have hbm := best_mar hs hnet ht hsm hB (i := i) (by omega); rw [hbm.1]; refine qs_n (wp_sc (wp_sc (wp_sq (sq_v rfl (v_move rfl) rfl (sq_v rfl (v_not rfl) rfl (sq_v rfl (v_move rfl) rfl (sq_v rfl (v_move rfl) rfl (sq_v rfl (v_move rfl) rfl (sq_v rfl (v_move rfl) rfl ?_))))))))); refine sq_v rfl (v_idxI Tryz.underlying27 ty_3 rfl rfl r28.toR (by first | omega | (simp; omega) | (simp only [List.length_append, List.length_cons, List.length_nil]; omega) | (rw [List.length_set]; omega)) (by first | omega | (simp; omega) | (simp only [List.length_append, List.length_cons, List.length_nil]; omega) | (rw [List.length_set]; omega))) rfl ?_; refine sq_v rfl (v_loadI (k := i) 5 ty_3 rfl rfl r28.toR (by first | omega | (simp; omega) | (simp only [List.length_append, List.length_cons, List.length_nil]; omega) | (rw [List.length_set]; omega))) rfl ?_; refine sq_v rfl (v_gtr rfl rfl) rfl (sq_v rfl (v_pickf rfl rfl) rfl (sq_end (qs_n ?_))); refine wp_cd rfl (fun c133 => ?_) (fun c133 => ?_)
              · refine wp_sc (wp_sq (sq_v rfl (v_assign rfl) rfl (sq_end (qs_n (wp_rt (qs_r (qs_br (qs_r (qs_r (qs_br (qs_r ?_)))))))))))
                exfalso; first | omega | contradiction
              · refine wp_sk (qs_n (wp_sc (wp_sq (sq_v rfl (v_move rfl) rfl (sq_v rfl (v_eql rfl rfl) rfl ?_))))); refine sq_bd 135 rfl (fun c135 => ?_) (fun c135 => ?_)
                · refine sq_v rfl (v_move rfl) rfl (sq_v rfl (v_move rfl) rfl (sq_v rfl (v_move rfl) rfl ?_)); refine sq_v rfl (v_idxI Tryz.underlying27 ty_3 rfl rfl r28.toR (by first | omega | (simp; omega) | (simp only [List.length_append, List.length_cons, List.length_nil]; omega) | (rw [List.length_set]; omega)) (by first | omega | (simp; omega) | (simp only [List.length_append, List.length_cons, List.length_nil]; omega) | (rw [List.length_set]; omega))) rfl ?_; refine sq_v rfl (v_loadI (k := 0) 5 ty_3 rfl rfl r28.toR (by first | omega | (simp; omega) | (simp only [List.length_append, List.length_cons, List.length_nil]; omega) | (rw [List.length_set]; omega))) rfl ?_; refine sq_v rfl (v_neq rfl rfl) rfl (sq_v rfl (v_pickt rfl rfl) rfl (sq_end (qs_n ?_))); refine wp_cd rfl (fun c142 => ?_) (fun c142 => ?_)
                  · refine wp_sc (wp_sq (sq_v rfl (v_assign rfl) rfl (sq_end (qs_n (wp_rt (qs_br (qs_r (qs_r (qs_br (qs_r ?_))))))))))
                    exfalso; have h9 := hbm.2.2 (by omega); omega
                  · refine wp_sk (qs_bn (qs_n (wp_sq ?_))); refine sq_v rfl (v_add rfl rfl ((by unfold I64; omega))) rfl ?_; refine sq_v rfl (v_move rfl) rfl (sq_end ?_); exact qs_bk (i + 1) (by omega) (by omega) ⟨rfl, rfl, rfl, rfl, rfl, (by first | rfl | exact ksub rfl (by first | omega | (simp; done) | (simp; omega))), trivial⟩ (fun _ s => s)
                · refine sq_v rfl (v_move rfl) rfl (sq_s rfl rfl (sq_s rfl rfl (sq_s rfl rfl (sq_s rfl rfl (sq_s rfl rfl (sq_v rfl (v_pickf rfl rfl) rfl (sq_end (qs_n (wp_cf rfl (wp_sk (qs_bn (qs_n (wp_sq ?_))))))))))))); refine sq_v rfl (v_add rfl rfl ((by unfold I64; omega))) rfl ?_; refine sq_v rfl (v_move rfl) rfl (sq_end ?_); exact qs_bk (i + 1) (by omega) (by omega) ⟨rfl, rfl, rfl, rfl, rfl, (by first | rfl | exact ksub rfl (by first | omega | (simp; done) | (simp; omega))), trivial⟩ (fun _ s => s)
            · refine wp_ex (qs_x (qs_x (qs_bx (qs_n (wp_sc (wp_sq (sq_v rfl (v_assign rfl) rfl (sq_end (qs_n (wp_rt ?_)))))))))); exact qs_ret1 rfl rfl (fin_v (i := 9) rfl)
        · refine wp_sk (qs_bn (qs_n (wp_sq ?_))); refine sq_v rfl (v_add rfl rfl ((by unfold I64; omega))) rfl ?_; refine sq_v rfl (v_move rfl) rfl (sq_end ?_); exact qs_bk (i + 1) ⟨by omega, step_all he (by simpa using c97)⟩ (by omega) ⟨rfl, rfl, rfl, rfl, rfl, rfl, rfl, (by first | rfl | exact ksub rfl (by first | omega | (simp; done) | (simp; omega))), trivial⟩ (fun _ s => s)
      · refine wp_ex (qs_x (qs_x (qs_bx (qs_n (wp_sc (wp_sc (wp_sq (sq_v rfl (v_loadNB 6 ty_29 rfl rfl rfl rfl) rfl ?_)))))))); refine sq_x rfl (x_call rfl en_23 (fun w s => ct_i_LabelsOf _ _ _ _ _ _ _ w (o20.toR.1.mono (s.get 7 rfl)) (o20.toR.2.mono (s.get 7 rfl)) (by first | assumption | exact iota_held _ _ | omega | rfl))) rfl ?_; rintro v111 h111 r111; refine sq_v rfl (v_len Tryz.underlying27 rfl r111.toR.sl) rfl (sq_v rfl (v_move rfl) rfl (sq_end ?_)); rw [gen_labels hr hg] at r111 ⊢; refine qs_n (wp_bl ?_); refine wp_lp (σ := Nat) (fun z_ => [(2, .bool false), (3, .pointer (some ⟨b3, 0, none⟩)), (6, v28), (111, v111), (112, num (labelsL ts).length), (113, num z_)]) (fun z_ => [h111, h72, h67, h59, h52, h28, h23, box b3 [num k, num p, num n, vt, vo] 29, h20, hp w]) (fun z_ => z_ ≤ (labelsL ts).length) (fun z_ => (labelsL ts).length - z_) 0 (by omega) ⟨rfl, rfl, rfl, rfl, rfl, (by first | rfl | exact ksub rfl (by first | omega | (simp; done) | (simp; omega))), trivial⟩ (fun _ s => s) ?_; rintro i hi; refine wp_sc (wp_sq (sq_v rfl (v_lss rfl rfl) rfl (sq_end (qs_n (wp_sc ?_))))); refine wp_cd rfl (fun c114 => ?_) (fun c114 => ?_)
        · refine wp_sk (qs_n (wp_sc (wp_bl (wp_sc (wp_sq (sq_v rfl (v_move rfl) rfl ?_)))))); refine sq_v rfl (v_idxI Tryz.underlying27 ty_3 rfl rfl r111.toR (by first | omega | (simp; omega) | (simp only [List.length_append, List.length_cons, List.length_nil]; omega) | (rw [List.length_set]; omega)) (by first | omega | (simp; omega) | (simp only [List.length_append, List.length_cons, List.length_nil]; omega) | (rw [List.length_set]; omega))) rfl ?_; refine sq_v rfl (v_loadI (k := i) 0 ty_3 rfl rfl r111.toR (by first | omega | (simp; omega) | (simp only [List.length_append, List.length_cons, List.length_nil]; omega) | (rw [List.length_set]; omega))) rfl ?_; refine sq_v rfl (v_assign rfl) rfl (sq_v rfl (v_assign rfl) rfl (sq_end (qs_n (wp_sc (wp_sq (sq_v rfl (v_loadNB 7 ty_29 rfl rfl rfl rfl) rfl (sq_v rfl (v_move rfl) rfl (sq_u rfl (x_callv rfl en_24 (fun w s => ct_i_BestOf _ _ _ _ _ _ _ _ w (o20.toR.1.mono (s.get 8 rfl)) (o20.toR.2.mono (s.get 8 rfl)) (by first | assumption | exact iota_held _ _ | omega | rfl))) rfl (sq_v rfl (v_move rfl) rfl (sq_v rfl (v_extract rfl rfl) rfl (sq_v rfl (v_extract rfl rfl) rfl (sq_v rfl (v_assign rfl) rfl (sq_v rfl (v_assign rfl) rfl (sq_end ?_)))))))))))))); have hbm := best_mar hs hnet ht hsm hB (i := i) (by omega); rw [hbm.1]; refine qs_n (wp_sc (wp_sc (wp_sq (sq_v rfl (v_move rfl) rfl (sq_v rfl (v_not rfl) rfl (sq_v rfl (v_move rfl) rfl (sq_v rfl (v_move rfl) rfl (sq_v rfl (v_move rfl) rfl (sq_v rfl (v_move rfl) rfl ?_))))))))); refine sq_v rfl (v_idxI Tryz.underlying27 ty_3 rfl rfl r28.toR (by first | omega | (simp; omega) | (simp only [List.length_append, List.length_cons, List.length_nil]; omega) | (rw [List.length_set]; omega)) (by first | omega | (simp; omega) | (simp only [List.length_append, List.length_cons, List.length_nil]; omega) | (rw [List.length_set]; omega))) rfl ?_; refine sq_v rfl (v_loadI (k := i) 5 ty_3 rfl rfl r28.toR (by first | omega | (simp; omega) | (simp only [List.length_append, List.length_cons, List.length_nil]; omega) | (rw [List.length_set]; omega))) rfl ?_; refine sq_v rfl (v_gtr rfl rfl) rfl (sq_v rfl (v_pickf rfl rfl) rfl (sq_end (qs_n ?_))); refine wp_cd rfl (fun c133 => ?_) (fun c133 => ?_)
          · refine wp_sc (wp_sq (sq_v rfl (v_assign rfl) rfl (sq_end (qs_n (wp_rt (qs_r (qs_br (qs_r (qs_r (qs_br (qs_r ?_)))))))))))
            exfalso; first | omega | contradiction
          · refine wp_sk (qs_n (wp_sc (wp_sq (sq_v rfl (v_move rfl) rfl (sq_v rfl (v_eql rfl rfl) rfl ?_))))); refine sq_bd 135 rfl (fun c135 => ?_) (fun c135 => ?_)
            · refine sq_v rfl (v_move rfl) rfl (sq_v rfl (v_move rfl) rfl (sq_v rfl (v_move rfl) rfl ?_)); refine sq_v rfl (v_idxI Tryz.underlying27 ty_3 rfl rfl r28.toR (by first | omega | (simp; omega) | (simp only [List.length_append, List.length_cons, List.length_nil]; omega) | (rw [List.length_set]; omega)) (by first | omega | (simp; omega) | (simp only [List.length_append, List.length_cons, List.length_nil]; omega) | (rw [List.length_set]; omega))) rfl ?_; refine sq_v rfl (v_loadI (k := 0) 5 ty_3 rfl rfl r28.toR (by first | omega | (simp; omega) | (simp only [List.length_append, List.length_cons, List.length_nil]; omega) | (rw [List.length_set]; omega))) rfl ?_; refine sq_v rfl (v_neq rfl rfl) rfl (sq_v rfl (v_pickt rfl rfl) rfl (sq_end (qs_n ?_))); refine wp_cd rfl (fun c142 => ?_) (fun c142 => ?_)
              · refine wp_sc (wp_sq (sq_v rfl (v_assign rfl) rfl (sq_end (qs_n (wp_rt (qs_br (qs_r (qs_r (qs_br (qs_r ?_))))))))))
                exfalso; have h9 := hbm.2.2 (by omega); omega
              · refine wp_sk (qs_bn (qs_n (wp_sq ?_))); refine sq_v rfl (v_add rfl rfl ((by unfold I64; omega))) rfl ?_; refine sq_v rfl (v_move rfl) rfl (sq_end ?_); exact qs_bk (i + 1) (by omega) (by omega) ⟨rfl, rfl, rfl, rfl, rfl, (by first | rfl | exact ksub rfl (by first | omega | (simp; done) | (simp; omega))), trivial⟩ (fun _ s => s)
            · refine sq_v rfl (v_move rfl) rfl (sq_s rfl rfl (sq_s rfl rfl (sq_s rfl rfl (sq_s rfl rfl (sq_s rfl rfl (sq_v rfl (v_pickf rfl rfl) rfl (sq_end (qs_n (wp_cf rfl (wp_sk (qs_bn (qs_n (wp_sq ?_))))))))))))); refine sq_v rfl (v_add rfl rfl ((by unfold I64; omega))) rfl ?_; refine sq_v rfl (v_move rfl) rfl (sq_end ?_); exact qs_bk (i + 1) (by omega) (by omega) ⟨rfl, rfl, rfl, rfl, rfl, (by first | rfl | exact ksub rfl (by first | omega | (simp; done) | (simp; omega))), trivial⟩ (fun _ s => s)
        · refine wp_ex (qs_x (qs_x (qs_bx (qs_n (wp_sc (wp_sq (sq_v rfl (v_assign rfl) rfl (sq_end (qs_n (wp_rt ?_)))))))))); exact qs_ret1 rfl rfl (fin_v (i := 9) rfl)
set_option maxRecDepth 100000 in
theorem lifted_fnBest (os : Os) (started : os.Started) (H : Type) (enc : TypeId × Value → H) :
    ReturnsInHanded {} Tryz.checked os 4 .any (Rows.fnBestSpec.pre6 enc Tryz.prog Tryz.f4 Rows.fnBestRow.domain false) (Rows.fnBestSpec.post enc Tryz.prog Tryz.f4 false true false false) := by
  refine returnsInHanded_of_change (C := Tryz.checked) lift_own started (by kernel_rfl) Tryz.func4
    (ChangeSpec.witness6 (enc := enc) (C := Tryz.checked) false ⟨#[], #[.slice none 0 0], []⟩ 8 (by kernel_rfl) (by kernel_rfl) (by kernel_rfl) (by kernel_rfl)) ?_
  intro W base args ds gs before hval0 hW hcnd _; have hval : ∀ (j : Nat) t v, Tryz.f4.params[j]? = some t → args[j]? = some v → Value.okWide Tryz.prog W .any base t v := hval0; have hW' := hW; obtain ⟨p, q, hA0, hV, rfl, hfz, hnd⟩ := hW; have hlt : ∀ x ∈ p, x.block < W.heap.size := fun x hx => by simpa using hW'.lt x (by simp [hx])
  have hA : DataW.TrodAll enc Tryz.prog W 0 (fun _ => true) true Tryz.f4.params.toList args.toList ds p := hA0; have hA1 := hA; rw [Tryz.params4] at hA1 hval; obtain ⟨v0, vs0, d0, ds0, p0, q0, hargs, rfl, rfl, h0, r0⟩ := trodAll_cons hA1; obtain ⟨rfl, rfl, rfl⟩ := trodAll_nil r0; obtain rfl : args = #[v0] := by cases args; simp_all
  obtain ⟨rfl, rfl⟩ := trodVars_none hV; have k0 := hval 0 22 v0 rfl rfl; obtain ⟨xs, rb⟩ := arg_bytes k0 h0; refine (show Calls Tryz.prog 4 _ W (RetV W (.bool true)) from ct_l_FnBest xs v0 W rb).mono fun e W' ⟨he, hu⟩ => ?_; subst he; refine ⟨_, rfl, _, _, _, [], _, [], hW', trodAll_mk1 (shut_bool Tryz.underlying4 true), trodAll_below lift_laid hu.below (by kernel_rfl) hA hlt, rfl, hu.below.frame _, fun h => by cases h⟩
set_option maxHeartbeats 4000000 in
theorem joined_fnBest : joinedFacts Tryz.pinned.checked.prog 4 Tryz.f4 Rows.fnBestSpec Rows.fnBestRow = true := by
  unfold joinedFacts
  repeat' (with_reducible refine cd_and ?_ ?_)
  all_goals first | with_reducible exact cd_enter | (with_reducible refine cd_lifts' ?_; rfl) | (with_reducible refine cd_make' ?_; rfl) | (as_aux_lemma => kernel_rfl)
theorem named_fnBest : Tryz.pinned.checked.prog.funcNamed Rows.fnBestRow.func = some 4 := by kernel_rfl
theorem over_fnBest : Rows.fnBestRow.holds Tryz.pinned (OpenSpec.ofChange Rows.fnBestSpec) :=
  OpenClaim.holds_of_wide 4 Tryz.f4 rfl rfl rfl rfl rfl rfl rfl ⟨rfl, rfl, rfl, rfl, rfl⟩ rfl rfl rfl rfl rfl named_fnBest Tryz.func4 joined_fnBest
    (of_decide_eq_true (by kernel_rfl)) (by unfold Func.isWrapper; first | (rw [if_pos (by decide +kernel)]; kernel_rfl) | (rw [if_neg (by decide +kernel)]; exact ⟨rfl, rfl⟩))
    (fun os started H enc _ => lifted_fnBest os started H enc)
/-- The law FnBest holds at every input. -/
theorem proved_fnBest : Rows.FnBestSaid :=
  over_fnBest
#print axioms proved_fnBest
end Go.Proofs.YtiefkcaplhnnmaaGreat
