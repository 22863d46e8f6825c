/-
  The logic in which this claim's walks are typed: a state is a list of slots with their values and a list of disjoint parts of the heap; facts on a part are plain hypotheses and never have to be carried over.
  Conditions: none; every theorem here speaks of any program.
-/
import Derived.WalkKit
import Derived.WalkLawsBesides
import Derived.OrdersHeld
import Derived.StillTail
import Derived.Deep.LoopGhost
namespace Go.Proofs.Ytikeobneipjfnaa
open Go.RowKit

/-! ### parts of a heap -/
abbrev PH := Nat → Option Obj
def hp (w : World) : PH := fun k => w.heap[k]?
def emp : PH := fun _ => none
def PLe (h h' : PH) : Prop := ∀ k o, h k = some o → h' k = some o
def PDj (h h' : PH) : Prop := ∀ k, h k = none ∨ h' k = none
def PUn (h h' : PH) : PH := fun k => match h k with | some o => some o | none => h' k
def box (b : Nat) (cs : List Value) (t : TypeId) : PH := fun k => if k = b then some (.cells cs.toArray t (0, 0)) else none

theorem PLe.refl (h : PH) : PLe h h := fun _ _ e => e
theorem PLe.trans {a b c : PH} (h : PLe a b) (k : PLe b c) : PLe a c := fun i o e => k i o (h i o e)
theorem PLe.emp (h : PH) : PLe emp h := fun _ _ e => nomatch e
theorem PDj.symm {a b : PH} (h : PDj a b) : PDj b a := fun k => (h k).symm
theorem PDj.emp (h : PH) : PDj emp h := fun _ => .inl rfl
theorem PDj.mono {a b a' : PH} (h : PDj a b) (l : PLe a' a) : PDj a' b := fun k => by
  rcases h k with h1 | h1
  · left
    cases e : a' k with
    | none => rfl
    | some o => rw [l k o e] at h1; cases h1
  · exact .inr h1
theorem PLe.un_l (a b : PH) : PLe a (PUn a b) := fun k o e => by simp [PUn, e]
theorem PLe.un_r {a b : PH} (h : PDj a b) : PLe b (PUn a b) := fun k o e => by
  rcases h k with h1 | h1
  · simp [PUn, h1, e]
  · rw [h1] at e; cases e
theorem PUn.le {a b c : PH} (h1 : PLe a c) (h2 : PLe b c) : PLe (PUn a b) c := fun k o e => by
  unfold PUn at e
  split at e
  · rename_i x hx; cases e; exact h1 k _ hx
  · exact h2 k o e
theorem PDj.un {a b c : PH} (h1 : PDj a c) (h2 : PDj b c) : PDj (PUn a b) c := fun k => by
  rcases h1 k with e1 | e1
  · rcases h2 k with e2 | e2
    · left; simp [PUn, e1, e2]
    · exact .inr e2
  · exact .inr e1

def sepL : List PH → Prop
  | [] => True
  | h :: r => (∀ h' ∈ r, PDj h h') ∧ sepL r

/-- The world 'w' bears the parts 'HS', which are disjoint; its streams are those of 'w0'. -/
structure Sat (w0 : World) (HS : List PH) (w : World) : Prop where
  os : w.os = w0.os
  tape : w.tape = w0.tape
  output : w.output = w0.output
  size : w0.heap.size ≤ w.heap.size
  sep : sepL HS
  le : ∀ h ∈ HS, PLe h (hp w)

theorem Sat.start (w : World) : Sat w [hp w] w := ⟨rfl, rfl, rfl, Nat.le_refl _, ⟨by simp, trivial⟩, by simp [PLe.refl]⟩

/-- From 'w' to 'w'': of what stood there only the part 'h' may have turned; 'h'' is what stands for it now, and what is new. -/
structure Upd (h h' : PH) (w w' : World) : Prop where
  os : w'.os = w.os
  tape : w'.tape = w.tape
  output : w'.output = w.output
  size : w.heap.size ≤ w'.heap.size
  keep : ∀ k, k < w.heap.size → h k = none → w'.heap[k]? = w.heap[k]?
  le : PLe h' (hp w')
  dom : ∀ k o, h' k = some o → h k ≠ none ∨ w.heap.size ≤ k

theorem lt_of_hp {w : World} {k : Nat} {o : Obj} (h : hp w k = some o) : k < w.heap.size := (Array.getElem?_eq_some_iff.1 h).1

theorem sepL_get {HS : List PH} (h : sepL HS) : ∀ {i j : Nat} {a b : PH}, HS[i]? = some a → HS[j]? = some b → i ≠ j → PDj a b := by
  induction HS with
  | nil => intro i j a b h1; simp at h1
  | cons x r ih =>
    intro i j a b h1 h2 hne
    cases i with
    | zero =>
      cases j with
      | zero => exact absurd rfl hne
      | succ j =>
        simp at h1 h2; subst h1
        exact h.1 b (List.mem_of_getElem? h2)
    | succ i =>
      cases j with
      | zero =>
        simp at h1 h2; subst h2
        exact (h.1 a (List.mem_of_getElem? h1)).symm
      | succ j => exact ih h.2 (by simpa using h1) (by simpa using h2) (by omega)

theorem sepL_of {HS : List PH} (h : ∀ (i j : Nat) (a b : PH), HS[i]? = some a → HS[j]? = some b → i < j → PDj a b) : sepL HS := by
  induction HS with
  | nil => trivial
  | cons x r ih =>
    refine ⟨fun h' hm => ?_, ih fun i j a b h1 h2 hlt => h (i + 1) (j + 1) a b (by simpa using h1) (by simpa using h2) (by omega)⟩
    obtain ⟨j, hj⟩ := List.getElem?_of_mem hm
    exact h 0 (j + 1) x h' rfl (by simpa using hj) (by omega)

theorem getElem?_set_cases {α : Type} {l : List α} {i j : Nat} {x a : α} (h : (l.set i x)[j]? = some a) : (j = i ∧ a = x) ∨ (j ≠ i ∧ l[j]? = some a) := by
  rw [List.getElem?_set] at h
  split at h
  · rename_i hij
    subst hij
    split at h
    · cases h; exact .inl ⟨rfl, rfl⟩
    · cases h
  · rename_i hij
    exact .inr ⟨fun e => hij e.symm, h⟩

/-- A part is turned. -/
theorem Sat.upd {w0 w w' : World} {HS : List PH} {i : Nat} {h h' : PH} (s : Sat w0 HS w) (hi : HS[i]? = some h) (u : Upd h h' w w') : Sat w0 (HS.set i h') w' := by
  have old : ∀ (j : Nat) (a : PH), HS[j]? = some a → j ≠ i → ∀ k o, a k = some o → k < w.heap.size ∧ h k = none := fun j a hj hne k o e => by
    refine ⟨lt_of_hp (s.le a (List.mem_of_getElem? hj) k o e), ?_⟩
    rcases sepL_get s.sep hj hi hne k with h1 | h1
    · rw [h1] at e; cases e
    · exact h1
  have dj : ∀ (j : Nat) (a : PH), HS[j]? = some a → j ≠ i → PDj h' a := fun j a hj hne k => by
    cases e : a k with
    | none => exact .inr rfl
    | some o =>
      left
      obtain ⟨hk, hn⟩ := old j a hj hne k o e
      cases e' : h' k with
      | none => rfl
      | some o' =>
        rcases u.dom k o' e' with h1 | h1
        · exact absurd hn h1
        · omega
  refine ⟨u.os.trans s.os, u.tape.trans s.tape, u.output.trans s.output, Nat.le_trans s.size u.size, sepL_of fun a b x y h1 h2 hlt => ?_, fun x hx => ?_⟩
  · rcases getElem?_set_cases h1 with ⟨ea, exa⟩ | ⟨ea, exa⟩ <;> rcases getElem?_set_cases h2 with ⟨eb, exb⟩ | ⟨eb, exb⟩
    · omega
    · subst exa; exact dj b y exb eb
    · subst exb; exact (dj a x exa ea).symm
    · exact sepL_get s.sep exa exb (by omega)
  · obtain ⟨j, hj⟩ := List.getElem?_of_mem hx
    rcases getElem?_set_cases hj with ⟨_, e⟩ | ⟨e, hj'⟩
    · subst e; exact u.le
    · intro k o e'
      obtain ⟨hk, hn⟩ := old j x hj' e k o e'
      show w'.heap[k]? = some o
      rw [u.keep k hk hn]
      exact s.le x (List.mem_of_getElem? hj') k o e'

/-- A new part. -/
theorem Sat.new {w0 w w' : World} {HS : List PH} {hn : PH} (s : Sat w0 HS w) (u : Upd emp hn w w') : Sat w0 (hn :: HS) w' := by
  have lt : ∀ a ∈ HS, ∀ k o, a k = some o → k < w.heap.size := fun a ha k o e => lt_of_hp (s.le a ha k o e)
  refine ⟨u.os.trans s.os, u.tape.trans s.tape, u.output.trans s.output, Nat.le_trans s.size u.size, ⟨fun a ha k => ?_, s.sep⟩, fun x hx => ?_⟩
  · cases e : a k with
    | none => exact .inr rfl
    | some o =>
      left
      have := lt a ha k o e
      cases e' : hn k with
      | none => rfl
      | some o' =>
        rcases u.dom k o' e' with h1 | h1
        · exact absurd rfl h1
        · omega
  · rcases List.mem_cons.1 hx with rfl | hx
    · exact u.le
    · intro k o e
      show w'.heap[k]? = some o
      rw [u.keep k (lt x hx k o e) rfl]
      exact s.le x hx k o e

/-- No part need be remembered. -/
theorem Sat.same {w0 w w' : World} {HS : List PH} {hn : PH} (s : Sat w0 HS w) (u : Upd emp hn w w') : Sat w0 HS w' :=
  let t := s.new u
  ⟨t.os, t.tape, t.output, t.size, t.sep.2, fun h hh => t.le h (List.mem_cons_of_mem _ hh)⟩

theorem Sat.drop {w0 w : World} {h : PH} {HS : List PH} (s : Sat w0 (h :: HS) w) : Sat w0 HS w :=
  ⟨s.os, s.tape, s.output, s.size, s.sep.2, fun x hx => s.le x (List.mem_cons_of_mem _ hx)⟩

theorem Sat.get {w0 w : World} {HS : List PH} (s : Sat w0 HS w) (i : Nat) {h : PH} (hi : HS[i]? = some h) : PLe h (hp w) := s.le h (List.mem_of_getElem? hi)

/-- Parts chosen by their places. -/
theorem Sat.pick {w0 w : World} {HS HS' : List PH} (s : Sat w0 HS w) (l : List Nat) (hl : l.Nodup) (h : l.map (HS[·]?) = HS'.map some) : Sat w0 HS' w := by
  have at_ : ∀ (j : Nat) (a : PH), HS'[j]? = some a → ∃ i, l[j]? = some i ∧ HS[i]? = some a := fun j a hj => by
    have h1 : (HS'.map some)[j]? = some (some a) := by simp [hj]
    rw [← h] at h1
    simp only [List.getElem?_map, Option.map_eq_some_iff] at h1
    obtain ⟨i, h2, h3⟩ := h1
    exact ⟨i, h2, h3⟩
  refine ⟨s.os, s.tape, s.output, s.size, sepL_of fun i j a b h1 h2 hlt => ?_, fun x hx => ?_⟩
  · obtain ⟨p, hp1, hp2⟩ := at_ i a h1
    obtain ⟨q, hq1, hq2⟩ := at_ j b h2
    refine sepL_get s.sep hp2 hq2 fun e => ?_
    subst e
    obtain ⟨hi, _⟩ := List.getElem?_eq_some_iff.1 hp1
    have := (List.getElem?_inj hi hl).1 (hp1.trans hq1.symm)
    omega
  · obtain ⟨j, hj⟩ := List.getElem?_of_mem hx
    obtain ⟨p, _, hp2⟩ := at_ j x hj
    exact s.le x (List.mem_of_getElem? hp2)

/-- Two parts made one. -/
theorem Sat.merge {w0 w : World} {a b : PH} {HS : List PH} (s : Sat w0 (a :: b :: HS) w) : Sat w0 (PUn a b :: HS) w := by
  refine ⟨s.os, s.tape, s.output, s.size, ⟨fun x hx => ?_, s.sep.2.2⟩, fun x hx => ?_⟩
  · exact PDj.un (s.sep.1 x (List.mem_cons_of_mem _ hx)) (s.sep.2.1 x hx)
  · rcases List.mem_cons.1 hx with rfl | hx
    · exact PUn.le (s.le a (by simp)) (s.le b (by simp))
    · exact s.le x (by simp [hx])
theorem Sat.dj {w0 w : World} {a b : PH} {HS : List PH} (s : Sat w0 (a :: b :: HS) w) : PDj a b := s.sep.1 b (by simp)
/-- One part made two. -/
theorem Sat.part {w0 w : World} {a b : PH} {HS : List PH} (d : PDj a b) (s : Sat w0 (PUn a b :: HS) w) : Sat w0 (a :: b :: HS) w := by
  have l1 := PLe.un_l a b
  have l2 := PLe.un_r d
  refine ⟨s.os, s.tape, s.output, s.size, ⟨fun x hx => ?_, fun x hx => (s.sep.1 x hx).mono l2, s.sep.2⟩, fun x hx => ?_⟩
  · rcases List.mem_cons.1 hx with rfl | hx
    · exact d
    · exact (s.sep.1 x hx).mono l1
  · rcases List.mem_cons.1 hx with rfl | hx
    · exact l1.trans (s.le _ (by simp))
    · rcases List.mem_cons.1 hx with rfl | hx
      · exact l2.trans (s.le _ (by simp))
      · exact s.le x (by simp [hx])
/-- A part made smaller. -/
theorem Sat.less {w0 w : World} {HS : List PH} {i : Nat} {h h' : PH} (s : Sat w0 HS w) (hi : HS[i]? = some h) (l : PLe h' h) : Sat w0 (HS.set i h') w := by
  refine ⟨s.os, s.tape, s.output, s.size, sepL_of fun a b x y h1 h2 hlt => ?_, fun x hx => ?_⟩
  · rcases getElem?_set_cases h1 with ⟨ea, exa⟩ | ⟨ea, exa⟩ <;> rcases getElem?_set_cases h2 with ⟨eb, exb⟩ | ⟨eb, exb⟩
    · omega
    · subst exa; subst ea; exact (sepL_get s.sep hi exb (by omega)).mono l
    · subst exb; subst eb; exact ((sepL_get s.sep hi exa (by omega)).mono l).symm
    · exact sepL_get s.sep exa exb (by omega)
  · obtain ⟨j, hj⟩ := List.getElem?_of_mem hx
    rcases getElem?_set_cases hj with ⟨_, e⟩ | ⟨e, hj'⟩
    · subst e; exact l.trans (s.get i hi)
    · exact s.get j hj'

/-! ### what a call comes to -/
/-- The call returns a value of which 'T' holds, 'h'' being what stands for the part 'h' now, and what is new. -/
def Ret (w : World) (h : PH) (T : Value → PH → Prop) (e : Ending) (w' : World) : Prop :=
  ∃ v h', e = .returned v ∧ Upd h h' w w' ∧ T v h'
/-- The call returns 'u'; nothing that was there has turned. -/
def RetV (w : World) (u : Value) (e : Ending) (w' : World) : Prop := e = .returned u ∧ Upd emp emp w w'
theorem Upd.refl (w : World) : Upd emp emp w w := ⟨rfl, rfl, rfl, Nat.le_refl _, fun _ _ _ => rfl, PLe.emp _, fun _ _ e => nomatch e⟩
theorem Upd.below {hn : PH} {w w' : World} (u : Upd emp hn w w') : Below w.heap.size w w' := ⟨u.os, u.tape, u.output, u.size, fun k hk => u.keep k hk rfl⟩
theorem Upd.lessR {h h1 h2 : PH} {w w' : World} (u : Upd h h1 w w') (l : PLe h2 h1) : Upd h h2 w w' :=
  ⟨u.os, u.tape, u.output, u.size, u.keep, l.trans u.le, fun k o e => u.dom k o (l k o e)⟩

/-! ### slots -/
abbrev Env := List (Nat × Value)
def EnvOK (n : Nat) (K : Env) (a : Act) : Prop := a.defers = [] ∧ a.tmps.size = n ∧ ∀ t v, K.lookup t = some v → a.tmps[t]? = some v
def ev (K : Env) : Operand → Option Value
  | .tmp t => K.lookup t
  | .const v => some v
  | .global g => some (.pointer (some ⟨g, 0, none⟩))
  | .func f => some (.func (.func f) #[] #[])
def evs (K : Env) : List Operand → Option (List Value)
  | [] => some []
  | x :: r => match ev K x, evs K r with
    | some v, some vs => some (v :: vs)
    | _, _ => none
def putK (d : Option Tmp) (v : Value) (K : Env) : Env := match d with
  | some t => (t, v) :: K
  | none => K
def fitsK (n : Nat) : Option Tmp → Bool
  | some t => decide (t < n)
  | none => true
/-- Does the guard let the operation run? -/
def wantK (ops : Array Oper) (K : Env) (g : Option (Nat × Bool)) : Option Bool := match g with
  | none => some true
  | some (j, want) => match ((ops[j]?).bind (·.dst)).bind (fun t => K.lookup t) with
    | some (.bool b) => some (b == want)
    | some (.tuple _) => some false
    | _ => none

theorem lookup_cons {t d : Nat} {v : Value} {K : Env} : List.lookup t ((d, v) :: K) = if t = d then some v else List.lookup t K := by
  by_cases h : t = d
  · subst h; simp
  · have : (t == d) = false := by simpa using h
    simp [List.lookup_cons, this, h]

section
variable {n : Nat} {K : Env} {a : Act}
theorem EnvOK.ev (h : EnvOK n K a) {x : Operand} {v : Value} (hx : Proofs.Ytikeobneipjfnaa.ev K x = some v) : a.eval x = v := by
  cases x with
  | tmp t => have := h.2.2 t v hx; simp [Act.eval, this]
  | const u => simp only [Proofs.Ytikeobneipjfnaa.ev, Option.some.injEq] at hx; simp [Act.eval, hx]
  | global g => simp only [Proofs.Ytikeobneipjfnaa.ev, Option.some.injEq] at hx; simp [Act.eval, hx]
  | func f => simp only [Proofs.Ytikeobneipjfnaa.ev, Option.some.injEq] at hx; simp [Act.eval, hx]
theorem EnvOK.evs (h : EnvOK n K a) : ∀ {xs : List Operand} {vs : List Value}, Proofs.Ytikeobneipjfnaa.evs K xs = some vs → xs.map a.eval = vs
  | [], vs, hx => by simp only [Proofs.Ytikeobneipjfnaa.evs, Option.some.injEq] at hx; simp [← hx]
  | x :: r, vs, hx => by
    simp only [Proofs.Ytikeobneipjfnaa.evs] at hx
    split at hx
    · rename_i v us h1 h2
      cases hx
      simp [h.ev h1, EnvOK.evs h h2]
    · cases hx
theorem EnvOK.put (h : EnvOK n K a) {d : Option Tmp} (v : Value) (hd : fitsK n d = true) : EnvOK n (putK d v K) (a.put d v) := by
  cases d with
  | none => exact h
  | some d =>
    have hd' : d < a.tmps.size := by rw [h.2.1]; simpa [fitsK] using hd
    refine ⟨h.1, by simp [Act.put, h.2.1], fun t u ht => ?_⟩
    simp only [putK, lookup_cons] at ht
    by_cases e : t = d
    · subst e
      simp only [if_true, Option.some.injEq] at ht
      subst ht
      simp [Act.put, hd']
    · rw [if_neg e] at ht
      simp only [Act.put]
      rw [Array.getElem?_setIfInBounds_ne (Ne.symm e)]
      exact h.2.2 t u ht
theorem EnvOK.wanted (h : EnvOK n K a) {ops : Array Oper} {o : Oper} {b : Bool} (hw : wantK ops K o.guard = some b) : Region.wanted o (yielded ops a.tmps) = b := by
  unfold Region.wanted
  unfold wantK at hw
  cases hg : o.guard with
  | none => rw [hg] at hw; simpa using hw
  | some p =>
    obtain ⟨j, want⟩ := p
    rw [hg] at hw
    simp only at hw ⊢
    unfold yielded
    cases ht : (ops[j]?).bind (·.dst) with
    | none => rw [ht] at hw; simp at hw
    | some t =>
      rw [ht] at hw
      simp only [Option.bind_some] at hw ⊢
      cases hl : List.lookup t K with
      | none => rw [hl] at hw; simp at hw
      | some u =>
        rw [hl] at hw
        rw [h.2.2 t u hl]
        cases u <;> simp at hw ⊢ <;> first | exact hw | (cases hw)
end

/-! ### judgements -/
section
variable (P : Program) (n : Nat) (w0 : World)
def WP (c : Code) (Q : Exit → Act → World → Prop) (K : Env) (HS : List PH) : Prop := ∀ a w, EnvOK n K a → Sat w0 HS w → c.wp P Q a w
def QS (Q : Exit → Act → World → Prop) (e : Exit) (K : Env) (HS : List PH) : Prop := ∀ a w, EnvOK n K a → Sat w0 HS w → Q e a w
def SQ (ops : Array Oper) (todo : List Oper) (Q : Exit → Act → World → Prop) (K : Env) (HS : List PH) : Prop := ∀ a w, EnvOK n K a → Sat w0 HS w → wpList P ops Q todo a w
/-- 'o' yields 'v' in every world that bears the parts. -/
def StepV (K : Env) (HS : List PH) (o : Oper) (v : Value) : Prop := ∀ a w, EnvOK n K a → Sat w0 HS w → (execOp a.eval o).run P w = .ok (.value v) w
def Nope : Exit → Act → World → Prop := fun _ _ _ => False
/-- 'o' turns the part 'h'. -/
def StepX (K : Env) (HS : List PH) (o : Oper) (h : PH) (T : Value → PH → Prop) : Prop :=
  ∀ a w, EnvOK n K a → Sat w0 HS w → o.wp P a w (fun a' w' => ∃ v h', a' = a.put o.dst v ∧ Upd h h' w w' ∧ T v h') Nope
end
section
variable {P : Program} {n : Nat} {w0 : World} {K : Env} {HS : List PH} {Q : Exit → Act → World → Prop} {ops : Array Oper} {rest : List Oper}

theorem Oper.wp_imp {o : Oper} {a : Act} {w : World} {X K' : Act → World → Prop} {Q Q' : Exit → Act → World → Prop} (h : o.wp P a w X Q) (hx : ∀ a w, X a w → K' a w) (hq : ∀ e a w, Q e a w → Q' e a w) : o.wp P a w K' Q' := by
  unfold Oper.wp at *
  generalize (execOp a.eval o).run P w = r at *
  cases r with
  | ok n w' =>
    cases n <;> simp only [Oper.upon] at h ⊢ <;>
      first
        | exact hx _ _ h
        | exact Calls.mono h (fun e w'' he => by cases e <;> first | exact hx _ _ he | exact hq _ _ _ he | (obtain ⟨a0, w0, q⟩ := he; exact ⟨a0, w0, hq _ _ _ q⟩))
        | exact Rows.mono h (fun _ _ he => hx _ _ he)
  | halt x w' => cases x <;> simp only [Oper.upon] at h ⊢ <;> exact hq _ _ _ h

theorem wp_sq {id : Nat} {l : List Oper} (h : SQ P n w0 l.toArray l Q K HS) : WP P n w0 (.region id l.toArray false) Q K HS := fun a w e s => wp_region_lit (h a w e s)
theorem sq_end (h : QS n w0 Q .normal K HS) : SQ P n w0 ops [] Q K HS := fun a w e s => wpList_nil (h a w e s)
theorem wp_sc {x y : Code} (h : WP P n w0 x (Exit.then (y.wp P Q) Q) K HS) : WP P n w0 (.seq x y) Q K HS := fun a w e s => wp_seq (h a w e s)
theorem wp_sk (h : QS n w0 Q .normal K HS) : WP P n w0 .skip Q K HS := fun a w e s => wp_skip (h a w e s)
theorem wp_rt (h : QS n w0 Q .ret K HS) : WP P n w0 .ret Q K HS := fun a w e s => wp_ret (h a w e s)
theorem wp_ex {id : Nat} (h : QS n w0 Q (.exit id) K HS) : WP P n w0 (.exit id) Q K HS := fun a w e s => wp_exit (h a w e s)
theorem wp_bl {id : Nat} {c : Code} (h : WP P n w0 c (Exit.inBlock id Q) K HS) : WP P n w0 (.block id c) Q K HS := fun a w e s => wp_block (h a w e s)
theorem wp_cb {c : Operand} {x y : Code} (b : Bool) (hc : ev K c = some (.bool b)) (h1 : b = true → WP P n w0 x Q K HS) (h2 : b = false → WP P n w0 y Q K HS) : WP P n w0 (.cond c x y) Q K HS := fun a w e s => by
  cases b
  · exact wp_cond_false (e.ev hc) (h2 rfl a w e s)
  · exact wp_cond_true (e.ev hc) (h1 rfl a w e s)
theorem wp_ct {c : Operand} {x y : Code} (hc : ev K c = some (.bool true)) (h : WP P n w0 x Q K HS) : WP P n w0 (.cond c x y) Q K HS := fun a w e s => wp_cond_true (e.ev hc) (h a w e s)
theorem wp_cf {c : Operand} {x y : Code} (hc : ev K c = some (.bool false)) (h : WP P n w0 y Q K HS) : WP P n w0 (.cond c x y) Q K HS := fun a w e s => wp_cond_false (e.ev hc) (h a w e s)
theorem wp_cd {c : Operand} {x y : Code} {p : Prop} [Decidable p] (hc : ev K c = some (.bool (decide p))) (h1 : p → WP P n w0 x Q K HS) (h2 : ¬ p → WP P n w0 y Q K HS) : WP P n w0 (.cond c x y) Q K HS := by
  by_cases hp : p
  · exact wp_ct (by rw [hc]; simp [hp]) (h1 hp)
  · exact wp_cf (by rw [hc]; simp [hp]) (h2 hp)

theorem qs_n {y : Code} (h : WP P n w0 y Q K HS) : QS n w0 (Exit.then (y.wp P Q) Q) .normal K HS := h
theorem qs_x {N : Act → World → Prop} {id : Nat} (h : QS n w0 Q (.exit id) K HS) : QS n w0 (Exit.then N Q) (.exit id) K HS := h
theorem qs_r {N : Act → World → Prop} (h : QS n w0 Q .ret K HS) : QS n w0 (Exit.then N Q) .ret K HS := h
theorem qs_bn {id : Nat} (h : QS n w0 Q .normal K HS) : QS n w0 (Exit.inBlock id Q) .normal K HS := h
theorem qs_br {id : Nat} (h : QS n w0 Q .ret K HS) : QS n w0 (Exit.inBlock id Q) .ret K HS := h
theorem qs_bx {id : Nat} (h : QS n w0 Q .normal K HS) : QS n w0 (Exit.inBlock id Q) (.exit id) K HS := fun a w e s => by
  simp only [Exit.inBlock, if_true]; exact h a w e s
theorem qs_by {id id' : Nat} (hne : decide (id' = id) = false) (h : QS n w0 Q (.exit id') K HS) : QS n w0 (Exit.inBlock id Q) (.exit id') K HS := fun a w e s => by
  simp only [Exit.inBlock, of_decide_eq_false hne, if_false]; exact h a w e s

theorem sq_v {o : Oper} {v : Value} (hw : wantK ops K o.guard = some true) (hv : StepV P n w0 K HS o v) (hf : fitsK n o.dst = true) (k : SQ P n w0 ops rest Q (putK o.dst v K) HS) : SQ P n w0 ops (o :: rest) Q K HS := fun a w e s => by
  refine wpList_step fun X hX => ?_
  rw [if_pos (e.wanted hw)]
  unfold Oper.wp
  rw [hv a w e s]
  exact hX _ _ (k _ _ (e.put v hf) s)
theorem sq_s {o : Oper} (hw : wantK ops K o.guard = some false) (hf : fitsK n o.dst = true) (k : SQ P n w0 ops rest Q (putK o.dst undef K) HS) : SQ P n w0 ops (o :: rest) Q K HS := fun a w e s => by
  refine wpList_step fun X hX => ?_
  rw [if_neg (by rw [e.wanted hw]; decide)]
  exact hX _ _ (k _ _ (e.put undef hf) s)
theorem sq_m {o : Oper} (i : Nat) {h : PH} {T : Value → PH → Prop} (hw : wantK ops K o.guard = some true) (hi : HS[i]? = some h) (hx : StepX P n w0 K HS o h T) (hf : fitsK n o.dst = true)
    (k : ∀ v h', T v h' → SQ P n w0 ops rest Q (putK o.dst v K) (HS.set i h')) : SQ P n w0 ops (o :: rest) Q K HS := fun a w e s => by
  refine wpList_step fun X hX => ?_
  rw [if_pos (e.wanted hw)]
  refine Oper.wp_imp (hx a w e s) (fun a' w' ⟨v, h', ha, u, ht⟩ => ?_) (fun _ _ _ f => f.elim)
  subst ha
  exact hX _ _ (k v h' ht _ _ (e.put v hf) (s.upd hi u))
theorem sq_x {o : Oper} {T : Value → PH → Prop} (hw : wantK ops K o.guard = some true) (hx : StepX P n w0 K HS o emp T) (hf : fitsK n o.dst = true)
    (k : ∀ v h', T v h' → SQ P n w0 ops rest Q (putK o.dst v K) (h' :: HS)) : SQ P n w0 ops (o :: rest) Q K HS := fun a w e s => by
  refine wpList_step fun X hX => ?_
  rw [if_pos (e.wanted hw)]
  refine Oper.wp_imp (hx a w e s) (fun a' w' ⟨v, h', ha, u, ht⟩ => ?_) (fun _ _ _ f => f.elim)
  subst ha
  exact hX _ _ (k v h' ht _ _ (e.put v hf) (s.new u))
/-- A new part that need not be remembered; the value is known. -/
theorem sq_u {o : Oper} {u : Value} (hw : wantK ops K o.guard = some true) (hx : StepX P n w0 K HS o emp (fun v _ => v = u)) (hf : fitsK n o.dst = true)
    (k : SQ P n w0 ops rest Q (putK o.dst u K) HS) : SQ P n w0 ops (o :: rest) Q K HS := fun a w e s => by
  refine wpList_step fun X hX => ?_
  rw [if_pos (e.wanted hw)]
  refine Oper.wp_imp (hx a w e s) (fun a' w' ⟨v, h', ha, up, ht⟩ => ?_) (fun _ _ _ f => f.elim)
  subst ha
  subst ht
  exact hX _ _ (k _ _ (e.put _ hf) (s.same up))
end

/-! ### a region that draws its order -/
def OnlyN (Q : Exit → Act → World → Prop) : Exit → Act → World → Prop
  | .normal, a, w => Q .normal a w
  | _, _, _ => False
theorem OnlyN.imp {Q : Exit → Act → World → Prop} : ∀ e a w, OnlyN Q e a w → Q e a w := fun e a w h => by
  cases e <;> first | exact h | exact (h : False).elim
def RAny (P : Program) (ops : Array Oper) (Q : Exit → Act → World → Prop) (S : World → Prop) (m : Nat) : Nat → Array Bool → Act → World → Prop
  | 0, listed, a, w => Region.ready .any ops listed = [] ∧ Q .normal a w
  | f + 1, listed, a, w =>
    (Region.ready .any ops listed = [] → Q .normal a w) ∧
    ∀ i ∈ Region.ready .any ops listed, wpOp P ops (OnlyN Q) i (fun a' w' => (i < m → S w') ∧ RAny P ops Q S m f (listed.setIfInBounds i true) a' w') a w
def tailOK (ops : Array Oper) (m : Nat) : Bool := decide (m = ops.size) || (decide (m < ops.size) && Region.sinkB .any ops m && Region.chainB .any ops m)
/-- Is this an order in which the operations may be taken? (i, true): number i yields the same whenever it comes up, and is taken first; (i, false): number i is the only one that may come up. -/
def chk (ops : Array Oper) (m : Nat) : List (Nat × Bool) → Array Bool → Bool
  | [], listed => (Region.ready .any ops listed).isEmpty
  | (i, true) :: r, listed => decide (i < m) && (Region.ready .any ops listed).contains i && Region.free .any ops listed i && chk ops m r (listed.setIfInBounds i true)
  | (i, false) :: r, listed => decide (Region.ready .any ops listed = [i]) && (decide (i < m) || ((List.range m).all (fun j => listed.getD j false) && r.all (fun p => decide (m ≤ p.1)))) && chk ops m r (listed.setIfInBounds i true)
section
variable {P : Program} {ops : Array Oper} {Q : Exit → Act → World → Prop} {m : Nat}
theorem rany_any {S : World → Prop} : ∀ (f : Nat) (listed : Array Bool) (a : Act) (w : World), RAny P ops Q S m f listed a w → wpAny P .any ops (OnlyN Q) f listed a w
  | 0, _, _, _, h => h
  | f + 1, _, _, _, h => ⟨h.1, fun i hi => wpOp_mono (fun a' w' h' => rany_any f _ a' w' h'.2) (h.2 i hi)⟩
theorem rany_mono {S S' : World → Prop} (hS : ∀ w, S w → S' w) : ∀ (f : Nat) (listed : Array Bool) (a : Act) (w : World), RAny P ops Q S m f listed a w → RAny P ops Q S' m f listed a w
  | 0, _, _, _, h => h
  | f + 1, _, _, _, h => ⟨h.1, fun i hi => wpOp_mono (fun a' w' h' => ⟨fun hm => hS _ (h'.1 hm), rany_mono hS f _ a' w' h'.2⟩) (h.2 i hi)⟩
theorem rany_tail {S S' : World → Prop} : ∀ (f : Nat) (listed : Array Bool) (a : Act) (w : World), (∀ j, j < m → listed.getD j false = true) → RAny P ops Q S m f listed a w → RAny P ops Q S' m f listed a w
  | 0, _, _, _, _, h => h
  | f + 1, listed, _, _, hl, h => ⟨h.1, fun i hi => wpOp_mono (fun a' w' h' => ⟨fun hm => by
      have h1 := (mem_ready.1 hi).1
      have h2 := hl i hm
      rcases Nat.lt_or_ge i listed.size with h3 | h3
      · simp [h3] at h1 h2; rw [h1] at h2; cases h2
      · simp [Array.getElem?_eq_none h3] at h2, rany_tail f _ a' w' (fun j hj => getD_set_true (hl j hj)) h'.2⟩) (h.2 i hi)⟩
theorem rany_first {S : World → Prop} {i : Nat} {oi : Oper} {v : Value} (hi : ops[i]? = some oi) (hsel : ∀ (j : Nat) (o : Oper) cs b, ops[j]? = some o → o.op ≠ .select cs b)
    (him : i < m) (ht : tailOK ops m = true) :
    ∀ (f : Nat) (listed : Array Bool) (a : Act) (w : World), HeadInv .any ops m listed →
      (∀ j oj, ops[j]? = some oj → j ≠ i → listed.getD j true = false → (∀ e ∈ oj.after, Region.binds .any e = true → e.on ≠ i) → oi.apart ops oj = true) →
      i ∈ Region.ready .any ops listed → YieldsIf P ops S oi v a → S w →
      RAny P ops Q S m f (listed.setIfInBounds i true) (a.put oi.dst v) w → RAny P ops Q S m (f + 1) listed a w := by
  have small : ∀ (listed : Array Bool), HeadInv .any ops m listed → i ∈ Region.ready .any ops listed → ∀ j ∈ Region.ready .any ops listed, j < m := by
    intro listed inv hr j hj
    obtain ⟨_, oj, hoj, _⟩ := mem_ready.1 hj
    have hjs : j < ops.size := (Array.getElem?_eq_some_iff.1 hoj).1
    simp only [tailOK, Bool.or_eq_true, Bool.and_eq_true, decide_eq_true_eq] at ht
    rcases ht with ht | ⟨⟨h1, h2⟩, h3⟩
    · omega
    · rcases Nat.lt_or_ge j m with h | h
      · exact h
      · exact absurd hj (tail_waits h2 h3 h1 inv _ i rfl him (mem_ready.1 hr).1 j h)
  intro f
  induction f with
  | zero =>
    intro listed a w inv _ hr hy hS H
    refine ⟨fun h => (by rw [h] at hr; cases hr), fun j hj => ?_⟩
    by_cases hji : j = i
    · subst hji; exact hy.wpOp hi hS ⟨fun _ => hS, H⟩
    · have := ready_mono hj hji
      rw [H.1] at this
      cases this
  | succ f ih =>
    intro listed a w inv hfree hr hy hS H
    refine ⟨fun h => (by rw [h] at hr; cases hr), fun j hj => ?_⟩
    by_cases hji : j = i
    · subst hji; exact hy.wpOp hi hS ⟨fun _ => hS, H⟩
    · have hjm := small listed inv hr j hj
      have h1 := H.2 j (ready_mono hj hji)
      obtain ⟨hjun, oj, hoj, hall⟩ := mem_ready.1 hj
      have hnot : ∀ e ∈ oj.after, Region.binds .any e = true → e.on ≠ i := fun e he hb heq => by
        have h1 := hall e he hb
        have h0 := (mem_ready.1 hr).1
        rw [heq] at h1
        rcases Nat.lt_or_ge i listed.size with h' | h'
        · simp [h'] at h0 h1; rw [h0] at h1; cases h1
        · simp [Array.getElem?_eq_none h'] at h1
      have h2 := wpOp_putIf hoj (hfree j oj hoj hji hjun hnot) (fun cs b => hsel i oi cs b hi) (fun cs b => hsel j oj cs b hoj) (fun _ _ _ h => h) hy h1
      have hfree' : ∀ k ok, ops[k]? = some ok → k ≠ i → (listed.setIfInBounds j true).getD k true = false →
          (∀ e ∈ ok.after, Region.binds .any e = true → e.on ≠ i) → oi.apart ops ok = true := fun k ok hk hki hun hno => by
        refine hfree k ok hk hki ?_ hno
        by_cases hjk : j = k
        · subst hjk; exact hjun
        · rw [getD_set_ne true hjk] at hun; exact hun
      refine wpOp_mono (fun a' w' h3 => ⟨h3.2.1, ih (listed.setIfInBounds j true) a' w' (inv.set hj hjm) hfree' (ready_mono hr (Ne.symm hji)) h3.1 (h3.2.1 hjm) ?_⟩) h2
      rw [Array.setIfInBounds_comm _ _ hji]
      exact h3.2.2
end

section
variable (P : Program) (n : Nat) (w0 : World)
def RJ (ops : Array Oper) (m : Nat) (Q : Exit → Act → World → Prop) (order : List (Nat × Bool)) (listed : Array Bool) (K : Env) (HS : List PH) : Prop :=
  (∀ i s r, order = (i, s) :: r → i < m → HeadInv .any ops m listed) → chk ops m order listed = true → (Region.noSelect ops && tailOK ops m) = true →
  ∀ (a : Act) (w : World), EnvOK n K a → Sat w0 HS w → RAny P ops Q (Sat w0 HS) m order.length listed a w
end
section
variable {P : Program} {n : Nat} {w0 : World} {K : Env} {HS : List PH} {Q : Exit → Act → World → Prop} {ops : Array Oper} {m : Nat} {r : List (Nat × Bool)} {listed : Array Bool}

theorem wp_rj {id : Nat} {l : List Oper} (m : Nat) (order : List (Nat × Bool)) (hm : P.follows .mixedOrders = true)
    (hc : (chk l.toArray m order (Array.replicate l.toArray.size false) && (Region.noSelect l.toArray && tailOK l.toArray m) && decide (order.length = l.toArray.size)) = true)
    (h : RJ P n w0 l.toArray m Q order (Array.replicate l.toArray.size false) K HS) : WP P n w0 (.region id l.toArray true) Q K HS := fun a w e s => by
  rw [Bool.and_eq_true, Bool.and_eq_true] at hc
  obtain ⟨⟨h1, h2⟩, h3⟩ := hc
  have hm' : m ≤ l.toArray.size := by
    simp only [Bool.and_eq_true, tailOK, Bool.or_eq_true, decide_eq_true_eq] at h2
    omega
  have inv0 : HeadInv .any l.toArray m (Array.replicate l.toArray.size false) :=
    ⟨by simp, fun j oj _ hl => (by rw [getD_replicate_false] at hl; cases hl), fun t _ ht => getD_in (by simpa using ht) (getD_replicate_false _ _)⟩
  have H := h (fun _ _ _ _ _ => inv0) h1 h2 a { w with drawn := w.drawn + 1 } e ⟨s.os, s.tape, s.output, s.size, s.sep, s.le⟩
  rw [of_decide_eq_true h3] at H
  exact Code.wp_mono OnlyN.imp (wp_region_any hm (rany_any _ _ _ _ H))
theorem rj_end (h : QS n w0 Q .normal K HS) : RJ P n w0 ops m Q [] listed K HS := fun _ hc _ a w e s => ⟨by simpa [chk] using hc, h a w e s⟩

theorem rj_yield {i : Nat} {oi : Oper} {v : Value} (hi : ops[i]? = some oi) (hy : ∀ a, EnvOK n K a → YieldsIf P ops (Sat w0 HS) oi v a) (hf : fitsK n oi.dst = true)
    (k : RJ P n w0 ops m Q r (listed.setIfInBounds i true) (putK oi.dst v K) HS) : RJ P n w0 ops m Q ((i, true) :: r) listed K HS := fun hinv hc ht a w e s => by
  simp only [chk, Bool.and_eq_true, decide_eq_true_eq] at hc
  obtain ⟨⟨⟨him, hr⟩, hfr⟩, hc'⟩ := hc
  have inv := hinv i true r rfl him
  have hr' : i ∈ Region.ready .any ops listed := by simpa using hr
  have ht' := ht
  rw [Bool.and_eq_true] at ht'
  exact rany_first hi (Region.noSelect_spec ht'.1) him ht'.2 _ listed a w inv (Region.free_spec hi hfr) hr' (hy a e) s
    (k (fun _ _ _ _ _ => inv.set hr' him) hc' ht _ _ (e.put v hf) s)
theorem rj_v {i : Nat} {oi : Oper} {v : Value} (hi : ops[i]? = some oi) (hw : wantK ops K oi.guard = some true) (hv : StepV P n w0 K HS oi v) (hf : fitsK n oi.dst = true)
    (k : RJ P n w0 ops m Q r (listed.setIfInBounds i true) (putK oi.dst v K) HS) : RJ P n w0 ops m Q ((i, true) :: r) listed K HS :=
  rj_yield hi (fun a e => .inl ⟨e.wanted hw, fun w s => hv a w e s⟩) hf k
theorem rj_s {i : Nat} {oi : Oper} (hi : ops[i]? = some oi) (hw : wantK ops K oi.guard = some false) (hf : fitsK n oi.dst = true)
    (k : RJ P n w0 ops m Q r (listed.setIfInBounds i true) (putK oi.dst undef K) HS) : RJ P n w0 ops m Q ((i, true) :: r) listed K HS :=
  rj_yield hi (fun _ e => .inr ⟨e.wanted hw, rfl⟩) hf k

theorem rj_only {i : Nat} {oi : Oper} (hi : ops[i]? = some oi) (h : (∀ i' s r', r = (i', s) :: r' → i' < m → i < m) → chk ops m r (listed.setIfInBounds i true) = true → (m ≤ i → ∀ j, j < m → (listed.setIfInBounds i true).getD j false = true) →
      (Region.noSelect ops && tailOK ops m) = true → (i < m → HeadInv .any ops m (listed.setIfInBounds i true)) →
      ∀ a w, EnvOK n K a → Sat w0 HS w → wpOp P ops (OnlyN Q) i (fun a' w' => (i < m → Sat w0 HS w') ∧ RAny P ops Q (Sat w0 HS) m r.length (listed.setIfInBounds i true) a' w') a w) :
    RJ P n w0 ops m Q ((i, false) :: r) listed K HS := fun hinv hc ht a w e s => by
  simp only [chk, Bool.and_eq_true, decide_eq_true_eq, Bool.or_eq_true, List.all_eq_true, List.mem_range] at hc
  obtain ⟨⟨hr, hd⟩, hc'⟩ := hc
  have hmem : i ∈ Region.ready .any ops listed := by rw [hr]; simp
  refine ⟨fun h0 => (by rw [hr] at h0; cases h0), fun j hj => ?_⟩
  rw [hr] at hj
  have : j = i := by simpa using hj
  subst this
  refine h (fun i' s' r' e' hlt => ?_) hc' (fun hmi j' hj' => ?_) ht (fun him => (hinv j false r rfl him).set hmem him) a w e s
  · rcases hd with hd | hd
    · exact hd
    · have := hd.2 (i', s') (by rw [e']; simp)
      simp only at this
      omega
  · rcases hd with hd | hd
    · omega
    · exact getD_set_true (hd.1 j' hj')
theorem rj_fv {i : Nat} {oi : Oper} {v : Value} (hi : ops[i]? = some oi) (hw : wantK ops K oi.guard = some true) (hv : StepV P n w0 K HS oi v) (hf : fitsK n oi.dst = true)
    (k : RJ P n w0 ops m Q r (listed.setIfInBounds i true) (putK oi.dst v K) HS) : RJ P n w0 ops m Q ((i, false) :: r) listed K HS :=
  rj_only hi fun h1 h2 _ h4 h5 a w e s => by
    have hy : YieldsIf P ops (Sat w0 HS) oi v a := .inl ⟨e.wanted hw, fun w s => hv a w e s⟩
    exact hy.wpOp hi s ⟨fun _ => s, k (fun i' s' r' e' hlt => h5 (h1 i' s' r' e' hlt)) h2 h4 _ _ (e.put v hf) s⟩
theorem rj_fs {i : Nat} {oi : Oper} (hi : ops[i]? = some oi) (hw : wantK ops K oi.guard = some false) (hf : fitsK n oi.dst = true)
    (k : RJ P n w0 ops m Q r (listed.setIfInBounds i true) (putK oi.dst undef K) HS) : RJ P n w0 ops m Q ((i, false) :: r) listed K HS :=
  rj_only hi fun h1 h2 _ h4 h5 a w e s => by
    have hy : YieldsIf P ops (Sat w0 HS) oi undef a := .inr ⟨e.wanted hw, rfl⟩
    exact hy.wpOp hi s ⟨fun _ => s, k (fun i' s' r' e' hlt => h5 (h1 i' s' r' e' hlt)) h2 h4 _ _ (e.put undef hf) s⟩
theorem rj_x {i : Nat} {oi : Oper} {T : Value → PH → Prop} (hi : ops[i]? = some oi) (hw : wantK ops K oi.guard = some true) (hx : StepX P n w0 K HS oi emp T) (hf : fitsK n oi.dst = true)
    (k : ∀ v h', T v h' → RJ P n w0 ops m Q r (listed.setIfInBounds i true) (putK oi.dst v K) (h' :: HS)) : RJ P n w0 ops m Q ((i, false) :: r) listed K HS :=
  rj_only hi fun h1 h2 _ h4 h5 a w e s => by
    unfold wpOp
    simp only [hi]
    rw [if_pos (e.wanted hw)]
    refine .inl (Oper.wp_imp (hx a w e s) (fun a' w' ⟨v, h', ha, u, ht⟩ => ?_) (fun _ _ _ f => f.elim))
    subst ha
    exact ⟨fun _ => s.same u, rany_mono (fun _ t => t.drop) _ _ _ _ (k v h' ht (fun i' s' r' e' hlt => h5 (h1 i' s' r' e' hlt)) h2 h4 _ _ (e.put v hf) (s.new u))⟩
theorem rj_u {i : Nat} {oi : Oper} {u : Value} (hi : ops[i]? = some oi) (hw : wantK ops K oi.guard = some true) (hx : StepX P n w0 K HS oi emp (fun v _ => v = u)) (hf : fitsK n oi.dst = true)
    (k : RJ P n w0 ops m Q r (listed.setIfInBounds i true) (putK oi.dst u K) HS) : RJ P n w0 ops m Q ((i, false) :: r) listed K HS :=
  rj_only hi fun h1 h2 _ h4 h5 a w e s => by
    unfold wpOp
    simp only [hi]
    rw [if_pos (e.wanted hw)]
    refine .inl (Oper.wp_imp (hx a w e s) (fun a' w' ⟨v, h', ha, up, ht⟩ => ?_) (fun _ _ _ f => f.elim))
    subst ha
    subst ht
    exact ⟨fun _ => s.same up, k (fun i' s' r' e' hlt => h5 (h1 i' s' r' e' hlt)) h2 h4 _ _ (e.put _ hf) (s.same up)⟩
theorem rj_m {i : Nat} {oi : Oper} (p : Nat) {h : PH} {T : Value → PH → Prop} (hi : ops[i]? = some oi) (hmi : decide (m ≤ i) = true) (hw : wantK ops K oi.guard = some true) (hp : HS[p]? = some h) (hx : StepX P n w0 K HS oi h T) (hf : fitsK n oi.dst = true)
    (k : ∀ v h', T v h' → RJ P n w0 ops m Q r (listed.setIfInBounds i true) (putK oi.dst v K) (HS.set p h')) : RJ P n w0 ops m Q ((i, false) :: r) listed K HS :=
  rj_only hi fun h1 h2 h3 h4 h5 a w e s => by
    unfold wpOp
    simp only [hi]
    rw [if_pos (e.wanted hw)]
    refine .inl (Oper.wp_imp (hx a w e s) (fun a' w' ⟨v, h', ha, u, ht⟩ => ?_) (fun _ _ _ f => f.elim))
    subst ha
    have hmi' := of_decide_eq_true hmi
    exact ⟨fun hlt => absurd hlt (by omega), rany_tail _ _ _ _ (h3 hmi') (k v h' ht (fun i' s' r' e' hlt => h5 (h1 i' s' r' e' hlt)) h2 h4 _ _ (e.put v hf) (s.upd hp u))⟩
end
end Go.Proofs.Ytikeobneipjfnaa
