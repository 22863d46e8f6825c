/-
  Orders: the pure law of what is live and what is kept; how steps and live tensors lie in the memory.
  Conditions: none.
-/
import Derived.Test.YtikeobneipjfnaaWeight
import Derived.Test.YtikeobneipjfnaaRk
namespace Go.Proofs.Ytikeobneipjfnaa
set_option maxRecDepth 100000
open Go.RowKit
/-! ### steps -/
structure Stp where
  a : Int
  b : Int
def stepCells (ss : List Stp) : List Value := ss.flatMap fun s => [num s.a, num s.b]
theorem stepCells_len : ∀ ss : List Stp, (stepCells ss).length = ss.length * 2
  | [] => rfl
  | s :: r => by
    have := stepCells_len r
    simp only [stepCells, List.flatMap_cons, List.length_append, List.length_cons, List.length_nil] at *
    omega
theorem stepCells_at : ∀ {ss : List Stp} {i : Nat} {s : Stp}, ss[i]? = some s → ((stepCells ss).drop (i * 2)).take 2 = [num s.a, num s.b]
  | [], i, s, h => by simp at h
  | u :: r, 0, s, h => by cases h; rfl
  | u :: r, i + 1, s, h => by
    have ih := stepCells_at (ss := r) (i := i) (s := s) (by simpa using h)
    rw [show (i + 1) * 2 = i * 2 + 1 + 1 by omega]
    exact ih
theorem stepCells_append (a b : List Stp) : stepCells (a ++ b) = stepCells a ++ stepCells b := by simp [stepCells]
theorem stepCells_one (ss : List Stp) : ∀ v ∈ stepCells ss, v.oneCell' = true := fun v hv => by
  simp only [stepCells, List.mem_flatMap] at hv
  obtain ⟨s, _, hv⟩ := hv
  simp at hv
  rcases hv with rfl | rfl <;> rfl
abbrev stepV (a b : Int) : Value := .agg [num a, num b].toArray
def StepsR (ss : List Stp) (v : Value) (h : PH) : Prop := RowR (stepCells ss) ss.length 2 v h
def StepsO (ss : List Stp) (v : Value) (h : PH) : Prop := RowO 114 (stepCells ss) ss.length 2 v h
theorem StepsR.mono {ss : List Stp} {v : Value} {h h' : PH} (r : StepsR ss v h) (l : PLe h h') : StepsR ss v h' := RowR.mono r l
theorem StepsO.toR {ss : List Stp} {v : Value} {h : PH} (r : StepsO ss v h) : StepsR ss v h := RowO.toR r
theorem StepsR.sl {ss : List Stp} {v : Value} {h : PH} (r : StepsR ss v h) : SlL v ss.length := RowR.sl r
theorem StepsR.le {ss : List Stp} {v : Value} {h : PH} (r : StepsR ss v h) : (ss.length : Int) ≤ 9223372036854775807 := by
  obtain ⟨_, a, c, _, ⟨h, _⟩, _⟩ := r
  unfold maxLen at h
  omega
theorem StepsR.at {ss : List Stp} {v : Value} {h : PH} (r : StepsR ss v h) : ∃ cells, RowR cells ss.length 2 v h ∧ ∀ i, i < ss.length → ∃ x, ss[i]? = some x ∧ (cells.drop (i * 2)).take 2 = [num x.a, num x.b] :=
  ⟨_, r, fun _ hi => ⟨_, List.getElem?_eq_getElem hi, stepCells_at (List.getElem?_eq_getElem hi)⟩⟩
theorem StepsO.nil : StepsO [] (.slice none 0 0) emp := ⟨rfl, .inl ⟨rfl, rfl, rfl⟩⟩
section
variable {P : Program} {n : Nat} {w0 : World} {K : Env} {HS : List PH} {d : Option Tmp} {ty : TypeId} {ps : String} {af : Array Edge} {g : Option (Nat × Bool)}
theorem m_appS {t : TypeId} {x y : Operand} {z : Value} {ss us : List Stp} {v u : Value} {h hy' : PH} (p q : Nat) (ht : P.underlying t = some (.slice 114)) (he : TyF P 114 z 2 16 true) (hz : z.cells = [num 0, num 0].toArray)
    (hx : ev K x = some v) (hy : ev K y = some u) (hp' : HS[p]? = some h) (r : StepsO ss v h) (hq : HS[q]? = some hy') (ru : StepsR us u hy') (h47 : ss.length + us.length ≤ 8796093022208) :
    StepX P n w0 K HS ⟨d, .call ⟨.builtin .append, #[x, y], #[t, t]⟩, ty, ps, af, g⟩ h (StepsO (ss ++ us)) := by
  have := m_append (P := P) (n := n) (w0 := w0) (HS := HS) (d := d) (ty := ty) (ps := ps) (af := af) (g := g) p q ht he hz rfl (by decide) hx hy hp' r hq ru (stepCells_one us) (by unfold maxLen; omega) (by omega)
  unfold StepsO
  rw [List.length_append, stepCells_append]
  exact this
theorem v_nilCheck {x : Operand} {a : Addr} (hx : ev K x = some (.pointer (some a))) : StepV P n w0 K HS ⟨d, .nilCheck x, ty, ps, af, g⟩ (.pointer (some a)) := fun ac w e _ => by simp [execOp, e.ev hx]
end
/-! ### live tensors -/
structure Lv where
  n : Int
  l : List Int
def LvR (x : Lv) (cs : List Value) (h : PH) : Prop := ∃ v, cs = [num x.n, v] ∧ IntsR x.l v h
theorem LvR.mono {x : Lv} {cs : List Value} {h h' : PH} (r : LvR x cs h) (l : PLe h h') : LvR x cs h' := let ⟨v, e, r⟩ := r; ⟨v, e, r.mono l⟩
def LiveR (xs : List Lv) (v : Value) (h : PH) : Prop := RowsR 2 LvR xs v h
theorem LiveR.mono {xs : List Lv} {v : Value} {h h' : PH} (r : LiveR xs v h) (l : PLe h h') : LiveR xs v h' := RowsR.mono (R := LvR) LvR.mono r l
theorem LiveR.sl {xs : List Lv} {v : Value} {h : PH} (r : LiveR xs v h) : SlL v xs.length := RowsR.sl r
theorem LiveR.le {xs : List Lv} {v : Value} {h : PH} (r : LiveR xs v h) : (xs.length : Int) ≤ 9223372036854775807 := RowsR.le r
theorem LiveR.at {xs : List Lv} {v : Value} {h : PH} (r : LiveR xs v h) : ∃ cells, RowR cells xs.length 2 v h ∧ ∀ i, i < xs.length → ∃ x a, xs[i]? = some x ∧ (cells.drop (i * 2)).take 2 = [num x.n, a] ∧ IntsR x.l a h := by
  obtain ⟨cells, rr, hc⟩ := r
  refine ⟨cells, rr, fun i hi => ?_⟩
  have ht : xs[i]? = some xs[i] := List.getElem?_eq_getElem hi
  obtain ⟨a, e, r1⟩ := hc i _ ht
  exact ⟨_, a, ht, e, r1⟩
/-- The elements' cells, read in h. -/
def LvL (xs : List Lv) (cs : List Value) (h : PH) : Prop := cs.length = xs.length * 2 ∧ ∀ (i : Nat) (x : Lv), xs[i]? = some x → LvR x ((cs.drop (i * 2)).take 2) h
theorem LvL.nil (h : PH) : LvL [] [] h := ⟨rfl, fun i x e => by simp at e⟩
theorem LvL.mono {xs : List Lv} {cs : List Value} {h h' : PH} (r : LvL xs cs h) (l : PLe h h') : LvL xs cs h' := ⟨r.1, fun i x e => (r.2 i x e).mono l⟩
theorem LvL.snoc {xs : List Lv} {cs : List Value} {h : PH} (r : LvL xs cs h) {x : Lv} {a : Value} (r1 : IntsR x.l a h) : LvL (xs ++ [x]) (cs ++ [num x.n, a]) h := by
  refine ⟨by simp [r.1]; omega, fun i y e => ?_⟩
  by_cases hi : i < xs.length
  · rw [List.getElem?_append_left hi] at e
    have := r.2 i y e
    have e2 : ((cs ++ [num x.n, a]).drop (i * 2)).take 2 = (cs.drop (i * 2)).take 2 := by
      rw [List.drop_append, List.take_append]
      have hl : 2 - (cs.drop (i * 2)).length = 0 := by simp [r.1]; omega
      rw [hl, List.take_zero, List.append_nil]
    rw [e2]; exact this
  · have hlt := (List.getElem?_eq_some_iff.1 e).1
    simp at hlt
    have : i = xs.length := by omega
    subst this
    rw [List.getElem?_append_right (by omega)] at e
    simp at e
    subst e
    have e2 : ((cs ++ [num x.n, a]).drop (xs.length * 2)).take 2 = [num x.n, a] := by
      rw [← r.1, List.drop_left]; rfl
    rw [e2]
    exact ⟨a, rfl, r1⟩
theorem LvL.live {xs : List Lv} {cs : List Value} {v : Value} {h : PH} (r : LvL xs cs h) (rr : RowR cs xs.length 2 v h) : LiveR xs v h := ⟨cs, rr, r.2⟩
/-! ### what is live, what is kept -/
def joinI (a b : List Int) : List Int := a ++ b.filter fun x => decide (x ∉ a)
structure Sh where
  all : List (List Int)
  gone : List Bool
def Sh.lab (s : Sh) (i : Nat) : List Int := s.all.getD i []
def Sh.ok (s : Sh) : Prop := s.gone.length = s.all.length
def Sh.live (s : Sh) (a : Int) : Prop := 0 ≤ a ∧ a < s.all.length ∧ s.gone.getD a.toNat false = false
def Sh.ixs (s : Sh) : List Nat := (List.range s.all.length).filter fun i => !s.gone.getD i false
def Sh.lv (s : Sh) : List Lv := s.ixs.map fun (i : Nat) => ⟨i, s.lab i⟩
def Sh.kept (op : List Int) (s : Sh) (a b : Nat) (x : Int) : Prop := x ∈ op ∨ ∃ i ∈ s.ixs, i ≠ a ∧ i ≠ b ∧ x ∈ s.lab i
open Classical in
noncomputable def Sh.res (op : List Int) (s : Sh) (a b : Nat) : List Int := (joinI (s.lab a) (s.lab b)).filter fun x => decide (s.kept op a b x)
noncomputable def Sh.step (op : List Int) (s : Sh) (a b : Nat) : Sh := ⟨s.all ++ [s.res op a b], ((s.gone.set a true).set b true) ++ [false]⟩
theorem Sh.step_ok {op : List Int} {s : Sh} (h : s.ok) (a b : Nat) : (s.step op a b).ok := by simp only [Sh.ok, Sh.step, List.length_append, List.length_set] at *; simp [h]
theorem ixs_nodup (s : Sh) : s.ixs.Nodup := List.Pairwise.filter _ List.nodup_range
theorem mem_ixs {s : Sh} {i : Nat} : i ∈ s.ixs ↔ i < s.all.length ∧ s.gone.getD i false = false := by simp [Sh.ixs]
theorem live_ixs {s : Sh} {a : Int} : s.live a ↔ 0 ≤ a ∧ a.toNat ∈ s.ixs := by
  rw [mem_ixs]
  unfold Sh.live
  constructor
  · rintro ⟨h1, h2, h3⟩; exact ⟨h1, by omega, h3⟩
  · rintro ⟨h1, h2, h3⟩; exact ⟨h1, by omega, h3⟩
theorem lv_len (s : Sh) : s.lv.length = s.ixs.length := by simp [Sh.lv]
theorem lv_get {s : Sh} {k : Nat} {x : Lv} (h : s.lv[k]? = some x) : ∃ i, s.ixs[k]? = some i ∧ x = ⟨i, s.lab i⟩ := by
  simp only [Sh.lv, List.getElem?_map, Option.map_eq_some_iff] at h
  obtain ⟨i, h1, h2⟩ := h
  exact ⟨i, h1, h2.symm⟩
theorem ixs_lt {s : Sh} {k i : Nat} (h : s.ixs[k]? = some i) : i < s.all.length := (mem_ixs.1 (List.mem_of_getElem? h)).1
theorem ixs_inj {s : Sh} {k j i : Nat} (h : s.ixs[k]? = some i) (h' : s.ixs[j]? = some i) : k = j := by
  have hk := (List.getElem?_eq_some_iff.1 h).1
  exact (List.getElem?_inj hk (ixs_nodup s)).1 (h.trans h'.symm)
/-- The place of a number among what is live. -/
def Sh.place (s : Sh) (a : Int) : Int := findI (s.ixs.map Int.ofNat) a
theorem place_ge {s : Sh} {a : Int} : 0 ≤ s.place a ↔ s.live a := by
  rw [Sh.place, findI_ge, live_ixs, List.mem_map]
  constructor
  · rintro ⟨i, hi, rfl⟩; exact ⟨Int.natCast_nonneg i, by simpa using hi⟩
  · rintro ⟨h1, h2⟩; exact ⟨_, h2, show ((a.toNat : Nat) : Int) = a by omega⟩
theorem place_at {s : Sh} {a : Int} (h : s.live a) : s.ixs[(s.place a).toNat]? = some a.toNat ∧ (s.place a).toNat < s.ixs.length := by
  have hm : a ∈ s.ixs.map Int.ofNat := findI_ge.1 (place_ge.2 h)
  have hg := findI_get hm
  rw [List.length_map] at hg
  refine ⟨?_, hg.1⟩
  have h2 := hg.2
  have hk : (findI (s.ixs.map Int.ofNat) a).toNat < s.ixs.length := hg.1
  simp only [List.getD, List.getElem?_map, List.getElem?_eq_getElem hk, Option.map_some, Option.getD_some] at h2
  rw [Sh.place, List.getElem?_eq_getElem hk]
  congr 1
  have h3 : ((s.ixs[(findI (s.ixs.map Int.ofNat) a).toNat] : Nat) : Int) = a := h2
  omega
/-- What is live besides the places p and q, of the first k. -/
def dropTo (lv : List Lv) (p q : Nat) : Nat → List Lv
  | 0 => []
  | k + 1 => if k ≠ p ∧ k ≠ q then dropTo lv p q k ++ (lv[k]?).toList else dropTo lv p q k
theorem dropTo_lv {s : Sh} {p q a b : Nat} (hp : s.ixs[p]? = some a) (hq : s.ixs[q]? = some b) : ∀ k, k ≤ s.ixs.length → dropTo s.lv p q k = ((s.ixs.take k).filter fun i => decide (i ≠ a ∧ i ≠ b)).map fun (i : Nat) => ⟨i, s.lab i⟩
  | 0, _ => by simp [dropTo]
  | k + 1, hk => by
    have ih := dropTo_lv hp hq k (by omega)
    have hi : s.ixs[k]? = some s.ixs[k] := List.getElem?_eq_getElem (by omega)
    have e1 : k = p ↔ s.ixs[k] = a := ⟨fun e => by subst e; rw [hi] at hp; exact Option.some.inj hp, fun e => ixs_inj (e ▸ hi) hp⟩
    have e2 : k = q ↔ s.ixs[k] = b := ⟨fun e => by subst e; rw [hi] at hq; exact Option.some.inj hq, fun e => ixs_inj (e ▸ hi) hq⟩
    rw [List.take_succ_eq_append_getElem (by omega), List.filter_append, List.map_append, dropTo, ih]
    have hl : s.lv[k]? = some ⟨s.ixs[k], s.lab s.ixs[k]⟩ := by rw [Sh.lv, List.getElem?_map, hi]; rfl
    rw [hl]
    by_cases hc : k ≠ p ∧ k ≠ q
    · have : s.ixs[k] ≠ a ∧ s.ixs[k] ≠ b := ⟨fun e => hc.1 (e1.2 e), fun e => hc.2 (e2.2 e)⟩
      rw [if_pos hc]
      simp [this]
    · have : ¬ (s.ixs[k] ≠ a ∧ s.ixs[k] ≠ b) := fun e => hc ⟨fun e' => e.1 (e1.1 e'), fun e' => e.2 (e2.1 e')⟩
      rw [if_neg hc]
      simp [this]
theorem getD_append_left {α : Type} {l r : List α} {i : Nat} {d : α} (h : i < l.length) : (l ++ r).getD i d = l.getD i d := by simp [List.getD, List.getElem?_append_left h]
theorem step_ixs {op : List Int} {s : Sh} (h : s.ok) {a b : Nat} : (s.step op a b).ixs = (s.ixs.filter fun i => decide (i ≠ a ∧ i ≠ b)) ++ [s.all.length] := by
  have hl : (s.step op a b).all.length = s.all.length + 1 := by simp [Sh.step]
  have hg : (s.step op a b).gone.getD s.all.length false = false := by
    have : ((s.gone.set a true).set b true).length = s.all.length := by simpa [Sh.ok] using h
    simp only [Sh.step, List.getD]
    rw [List.getElem?_append_right (by omega), this]
    simp
  unfold Sh.ixs
  rw [hl, List.range_succ, List.filter_append, List.filter_filter]
  congr 1
  · apply List.filter_congr
    intro i hi
    have hi' : i < s.all.length := by simpa using hi
    have e : (s.step op a b).gone.getD i false = if i = a ∨ i = b then true else s.gone.getD i false := by
      have hlen : i < s.gone.length := by rw [h]; exact hi'
      rw [Sh.step, getD_append_left (by simpa using hlen)]
      simp only [List.getD, List.getElem?_set, List.length_set]
      by_cases e1 : b = i
      · subst e1; simp [hlen]
      · by_cases e2 : a = i
        · subst e2; simp [hlen, e1]
        · simp [e1, e2, Ne.symm e1, Ne.symm e2]
    rw [e]
    by_cases hc : i = a ∨ i = b
    · rw [if_pos hc]; rcases hc with rfl | rfl <;> simp
    · rw [if_neg hc]
      have : i ≠ a ∧ i ≠ b := ⟨fun e => hc (.inl e), fun e => hc (.inr e)⟩
      simp [this]
  · rw [List.filter_cons_of_pos (by rw [hg]; rfl)]; rfl
theorem step_lab {op : List Int} {s : Sh} {a b i : Nat} (hi : i < s.all.length) : (s.step op a b).lab i = s.lab i := by rw [Sh.lab, Sh.step, getD_append_left hi]; rfl
theorem step_lab_new {op : List Int} {s : Sh} {a b : Nat} : (s.step op a b).lab s.all.length = s.res op a b := by simp [Sh.lab, Sh.step, List.getD]
/-- The program's list of what is live, behind a step. -/
theorem step_lv {op : List Int} {s : Sh} (h : s.ok) {p q a b : Nat} (hp : s.ixs[p]? = some a) (hq : s.ixs[q]? = some b) : (s.step op a b).lv = dropTo s.lv p q s.lv.length ++ [⟨(s.all.length : Nat), s.res op a b⟩] := by
  rw [lv_len, dropTo_lv hp hq _ (Nat.le_refl _), List.take_length, Sh.lv, step_ixs h, List.map_append]
  congr 1
  · refine List.map_congr_left fun i hi => ?_
    have := (mem_ixs.1 (List.mem_filter.1 hi).1).1
    rw [step_lab this]
  · simp [step_lab_new]
/-- In terms of places. -/
theorem kept_places {op : List Int} {s : Sh} {p q a b : Nat} (hp : s.ixs[p]? = some a) (hq : s.ixs[q]? = some b) (x : Int) : s.kept op a b x ↔ x ∈ op ∨ ∃ k, k < s.lv.length ∧ k ≠ p ∧ k ≠ q ∧ ∃ y, s.lv[k]? = some y ∧ x ∈ y.l := by
  unfold Sh.kept
  refine or_congr Iff.rfl ⟨?_, ?_⟩
  · rintro ⟨i, hi, h1, h2, h3⟩
    obtain ⟨k, hk⟩ := List.getElem?_of_mem hi
    refine ⟨k, by rw [lv_len]; exact (List.getElem?_eq_some_iff.1 hk).1, ?_, ?_, ⟨i, s.lab i⟩, by rw [Sh.lv, List.getElem?_map, hk]; rfl, h3⟩
    · rintro rfl; rw [hk] at hp; exact h1 (Option.some.inj hp)
    · rintro rfl; rw [hk] at hq; exact h2 (Option.some.inj hq)
  · rintro ⟨k, hk, h1, h2, y, hy, h3⟩
    obtain ⟨i, hi, rfl⟩ := lv_get hy
    exact ⟨i, List.mem_of_getElem? hi, fun e => h1 (ixs_inj (e ▸ hi) hp), fun e => h2 (ixs_inj (e ▸ hi) hq), h3⟩
end Go.Proofs.Ytikeobneipjfnaa
