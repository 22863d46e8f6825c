/-
  The greedy completion of an order, as plain lists: the pairs of what is live, the first of the least gain, the steps.
  Conditions: none.
-/
import Derived.Test.YtalfigjnaidmnaaOrd6
namespace Go.Proofs.Ytalfigjnaidmnaa
set_option maxRecDepth 100000
open Go.RowKit
/-! ### pairs -/
def pairsL : List Nat → List (Nat × Nat)
  | [] => []
  | a :: r => r.map (fun b => (a, b)) ++ pairsL r
theorem mem_pairs : ∀ {l : List Nat} {x : Nat × Nat}, x ∈ pairsL l → x.1 ∈ l ∧ x.2 ∈ l
  | [], _, h => by simp [pairsL] at h
  | a :: r, x, h => by
    rcases List.mem_append.1 h with h | h
    · obtain ⟨b, hb, rfl⟩ := List.mem_map.1 h
      exact ⟨by simp, by simp [hb]⟩
    · have := mem_pairs h
      exact ⟨by simp [this.1], by simp [this.2]⟩
theorem pairs_lt : ∀ {l : List Nat} (_ : l.Pairwise (· < ·)) {x : Nat × Nat}, x ∈ pairsL l → x.1 < x.2
  | [], _, _, h => by simp [pairsL] at h
  | a :: r, hp, x, h => by
    have hp' := List.pairwise_cons.1 hp
    rcases List.mem_append.1 h with h | h
    · obtain ⟨b, hb, rfl⟩ := List.mem_map.1 h
      exact hp'.1 b hb
    · exact pairs_lt hp'.2 h
theorem pairs_filter (p : Nat → Bool) : ∀ l : List Nat, pairsL (l.filter p) = (pairsL l).filter fun x => p x.1 && p x.2
  | [] => rfl
  | a :: r => by
    have ih := pairs_filter p r
    rw [pairsL, List.filter_append, ← ih]
    cases h : p a with
    | true =>
      rw [List.filter_cons_of_pos (by simp [h]), pairsL]
      congr 1
      rw [List.filter_map]
      congr 1
      apply List.filter_congr
      intro b _
      simp [h]
    | false =>
      rw [List.filter_cons_of_neg (by simp [h])]
      have : (r.map fun b => (a, b)).filter (fun x => p x.1 && p x.2) = [] := by
        rw [List.filter_eq_nil_iff]
        intro x hx
        obtain ⟨b, _, rfl⟩ := List.mem_map.1 hx
        simp [h]
      rw [this, List.nil_append]
theorem pairs_map (f : Nat → Nat) : ∀ l : List Nat, pairsL (l.map f) = (pairsL l).map fun x => (f x.1, f x.2)
  | [] => rfl
  | a :: r => by
    rw [List.map_cons, pairsL, pairsL, pairs_map f r, List.map_append, List.map_map, List.map_map]
    rfl
theorem pairs_nil {l : List Nat} : pairsL l = [] ↔ l.length ≤ 1 := by
  match l with
  | [] => simp [pairsL]
  | [a] => simp [pairsL]
  | a :: b :: r => simp [pairsL]
/-- The pairs of the first i with all that stand behind them. -/
def pairsTo (l : List Nat) : Nat → List (Nat × Nat)
  | 0 => []
  | i + 1 => pairsTo l i ++ (l.drop (i + 1)).map fun b => (l.getD i 0, b)
theorem pairsTo_cons (a : Nat) (r : List Nat) : ∀ i, pairsTo (a :: r) (i + 1) = (r.map fun b => (a, b)) ++ pairsTo r i
  | 0 => by simp [pairsTo]
  | i + 1 => by
    have ih := pairsTo_cons a r i
    rw [pairsTo, ih, pairsTo, List.append_assoc]
    simp
theorem pairsTo_end : ∀ l : List Nat, pairsTo l l.length = pairsL l
  | [] => rfl
  | a :: r => by rw [List.length_cons, pairsTo_cons, pairsTo_end r]; rfl
/-! ### the first of the least -/
def bestP {α : Type} (g : α → Int) (l : List α) : Option α := l.foldl (fun o x => match o with | none => some x | some y => if g x < g y then some x else some y) none
theorem bestP_snoc {α : Type} (g : α → Int) (l : List α) (x : α) : bestP g (l ++ [x]) = match bestP g l with | none => some x | some y => if g x < g y then some x else some y := by simp [bestP]
theorem snoc_ind {α : Type} {P : List α → Prop} (h0 : P []) (h1 : ∀ l x, P l → P (l ++ [x])) (l : List α) : P l := by
  have h : ∀ l : List α, P l.reverse := by
    intro l
    induction l with
    | nil => exact h0
    | cons a r ih => rw [List.reverse_cons]; exact h1 _ _ ih
  have := h l.reverse
  rwa [List.reverse_reverse] at this
theorem bestP_mem {α : Type} {g : α → Int} (l : List α) : ∀ {x : α}, bestP g l = some x → x ∈ l := by
  refine snoc_ind (P := fun l => ∀ {x : α}, bestP g l = some x → x ∈ l) ?_ ?_ l
  · intro x h; simp [bestP] at h
  · intro l y ih x h
    rw [bestP_snoc] at h
    cases hb : bestP g l with
    | none => rw [hb] at h; simp at h; subst h; simp
    | some z =>
      rw [hb] at h
      simp only at h
      split at h
      · cases h; simp
      · cases h; have := ih hb; simp [this]
theorem bestP_none {α : Type} {g : α → Int} (l : List α) : bestP g l = none ↔ l = [] := by
  refine snoc_ind (P := fun l => bestP g l = none ↔ l = []) ?_ ?_ l
  · simp [bestP]
  · intro l y ih
    rw [bestP_snoc]
    cases hb : bestP g l with
    | none => simp
    | some z => simp; split <;> simp
theorem bestP_map {α β : Type} {g : α → Int} {g' : β → Int} {f : α → β} (l : List α) : (∀ x ∈ l, g' (f x) = g x) → bestP g' (l.map f) = (bestP g l).map f := by
  refine snoc_ind (P := fun l => (∀ x ∈ l, g' (f x) = g x) → bestP g' (l.map f) = (bestP g l).map f) ?_ ?_ l
  · intro _; rfl
  · intro l y ih h
    have ih' := ih fun x hx => h x (by simp [hx])
    rw [List.map_append, List.map_cons, List.map_nil, bestP_snoc, bestP_snoc, ih']
    cases hb : bestP g l with
    | none => rfl
    | some z =>
      have hz := bestP_mem l hb
      simp only [Option.map_some]
      rw [h y (by simp), h z (by simp [hz])]
      split <;> rfl
/-! ### steps -/
theorem ixs_sorted (s : Sh) : s.ixs.Pairwise (· < ·) := List.Pairwise.filter _ List.pairwise_lt_range
noncomputable def gainP (f : Int → Int) (op : List Int) (s : Sh) (x : Nat × Nat) : Int :=
  min (prodI ((s.res op x.1 x.2).map f)) 1000000000 - min (prodI ((s.lab x.1).map f)) 1000000000 - min (prodI ((s.lab x.2).map f)) 1000000000
noncomputable def pickP (f : Int → Int) (op : List Int) (s : Sh) : Nat × Nat := (bestP (gainP f op s) (pairsL s.ixs)).getD (0, 0)
theorem pick_ok {f : Int → Int} {op : List Int} {s : Sh} (h : 2 ≤ s.ixs.length) : bestP (gainP f op s) (pairsL s.ixs) = some (pickP f op s) ∧ (pickP f op s).1 ∈ s.ixs ∧ (pickP f op s).2 ∈ s.ixs ∧ (pickP f op s).1 < (pickP f op s).2 := by
  unfold pickP
  cases hb : bestP (gainP f op s) (pairsL s.ixs) with
  | none => rw [bestP_none, pairs_nil] at hb; omega
  | some x =>
    have hm := bestP_mem _ hb
    have h1 := mem_pairs hm
    exact ⟨rfl, h1.1, h1.2, pairs_lt (ixs_sorted s) hm⟩
theorem two_off : ∀ {l : List Nat} (_ : l.Nodup) {a b : Nat}, a ∈ l → b ∈ l → a ≠ b → (l.filter fun i => decide (i ≠ a ∧ i ≠ b)).length + 2 = l.length := by
  intro l hn a b ha hb hab
  have hp := List.perm_cons_erase ha
  have hb' : b ∈ l.erase a := (List.mem_erase_of_ne (Ne.symm hab)).2 hb
  have hp2 := List.perm_cons_erase hb'
  have hn2 : (l.erase a).Nodup := hn.erase a
  have e : l.filter (fun i => decide (i ≠ a ∧ i ≠ b)) = (l.erase a).erase b := by
    rw [List.Nodup.erase_eq_filter hn a, List.Nodup.erase_eq_filter (List.Pairwise.filter _ hn) b, List.filter_filter]
    apply List.filter_congr
    intro i _
    rw [Bool.eq_iff_iff]
    simp [and_comm]
  have h1 := hp.length_eq
  have h2 := hp2.length_eq
  simp only [List.length_cons] at h1 h2
  rw [e]
  omega
theorem step_count {op : List Int} {s : Sh} (h : s.ok) {a b : Nat} (ha : a ∈ s.ixs) (hb : b ∈ s.ixs) (hab : a ≠ b) : (s.step op a b).ixs.length + 1 = s.ixs.length := by
  have := two_off (ixs_nodup s) ha hb hab
  rw [step_ixs h, List.length_append, List.length_singleton]
  omega
theorem steps_count {op : List Int} {s : Sh} (h : s.fine) {ss : List Stp} (hok : okSteps op s ss) : ∀ i, i ≤ ss.length → (shTo op s (ss.take i)).ixs.length + i = s.ixs.length
  | 0, _ => by simp [shTo]
  | i + 1, hi => by
    have ih := steps_count h hok i (by omega)
    have hx : ss[i]? = some ss[i] := List.getElem?_eq_getElem (by omega)
    have hst := stepOk_at hok hx
    have h1 := live_ixs.1 hst.1
    have h2 := live_ixs.1 hst.2.1
    rw [shTo_step hx]
    have := step_count (op := op) (shTo_fine h (ss.take i)).1 h1.2 h2.2 (by have := hst.2.2; omega)
    omega
theorem few_steps {op : List Int} {ts : List Ten} (h : ∀ t ∈ ts, axesL t.l t.d) {ss : List Stp} (hok : okSteps op (sh0 ts) ss) : ss.length ≤ ts.length - 1 := by
  have h0 : (sh0 ts).ixs.length = ts.length := by rw [sh0_ixs]; simp
  by_cases e : ss.length = 0
  · omega
  · have hc := steps_count (sh0_fine h) hok (ss.length - 1) (by omega)
    have hx : ss[ss.length - 1]? = some ss[ss.length - 1] := List.getElem?_eq_getElem (by omega)
    have hst := stepOk_at hok hx
    have h1 := live_ixs.1 hst.1
    have h2 := live_ixs.1 hst.2.1
    have h3 := two_off (ixs_nodup (shTo op (sh0 ts) (ss.take (ss.length - 1)))) h1.2 h2.2 (by have := hst.2.2; omega)
    omega
noncomputable def greedyTo (f : Int → Int) (op : List Int) (s : Sh) : Nat → List Stp
  | 0 => []
  | k + 1 => greedyTo f op s k ++ [⟨(pickP f op (shTo op s (greedyTo f op s k))).1, (pickP f op (shTo op s (greedyTo f op s k))).2⟩]
theorem greedy_len (f : Int → Int) (op : List Int) (s : Sh) : ∀ k, (greedyTo f op s k).length = k
  | 0 => rfl
  | k + 1 => by simp [greedyTo, greedy_len f op s k]
theorem shTo_snoc (op : List Int) (s : Sh) (ss : List Stp) (x : Stp) : shTo op s (ss ++ [x]) = (shTo op s ss).step op x.a.toNat x.b.toNat := by simp [shTo]
theorem greedy_step (f : Int → Int) (op : List Int) (s : Sh) (k : Nat) : shTo op s (greedyTo f op s (k + 1)) = (shTo op s (greedyTo f op s k)).step op (pickP f op (shTo op s (greedyTo f op s k))).1 (pickP f op (shTo op s (greedyTo f op s k))).2 := by
  rw [greedyTo, shTo_snoc]
  rfl
theorem greedy_count {f : Int → Int} {op : List Int} {s : Sh} (h : s.fine) : ∀ k, k + 1 ≤ s.ixs.length → (shTo op s (greedyTo f op s k)).ixs.length + k = s.ixs.length
  | 0, _ => by simp [greedyTo, shTo]
  | k + 1, hk => by
    have ih := greedy_count (f := f) (op := op) h k (by omega)
    have hp := pick_ok (f := f) (op := op) (s := shTo op s (greedyTo f op s k)) (by omega)
    have := step_count (op := op) (shTo_fine h (greedyTo f op s k)).1 hp.2.1 hp.2.2.1 (by have := hp.2.2.2; omega)
    rw [greedy_step]
    omega
def compP (k p n : Int) (ts : List Ten) (op : List Int) (ss : List Stp) : Prop := netL k p n ts op ∧ okSteps op (sh0 ts) ss
open Classical in
noncomputable def compB (k p n : Int) (ts : List Ten) (op : List Int) (ss : List Stp) : Bool := decide (compP k p n ts op ss)
noncomputable def compS (k p n : Int) (ts : List Ten) (op : List Int) (ss : List Stp) : List Stp :=
  @ite _ (compP k p n ts op ss) (Classical.propDecidable _) (ss ++ greedyTo (dimOf ts) op (shTo op (sh0 ts) ss) (ts.length - 1 - ss.length)) []
end Go.Proofs.Ytalfigjnaidmnaa
