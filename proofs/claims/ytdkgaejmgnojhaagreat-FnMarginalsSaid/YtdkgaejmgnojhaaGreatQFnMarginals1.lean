/-
  Parts of the proof of FnMarginals: laws of heaps, contracts of functions.
  Conditions: none.
-/
import Derived.WalkKit
import Derived.WalkLawsBesides
import Derived.OrdersHeld
import Derived.StillTail
import Derived.Deep.LoopGhost
import Derived.Great.FillDense
import Derived.Great.BuildSlice
import Derived.Test.YtdkgaejmgnojhaaGreatRows
import Derived.ProofKit
import Derived.Test.YtdkgaejmgnojhaaGreatChecked
import Derived.JoinedOf
import Derived.WalkSpells
import Derived.Laws.CopyRow
import Derived.Laws.Entries
namespace Go.Proofs.YtdkgaejmgnojhaaGreat
open Go.RowKit

abbrev PH := Nat → Option Obj
def hp (w : World) : PH := fun k => w.heap[k]?
def emp : PH := fun _ => none
def PLe (h h' : PH) : Prop := ∀ k o, h k = some o → h' k = some o
def PDj (h h' : PH) : Prop := ∀ k, h k = none ∨ h' k = none
def PUn (h h' : PH) : PH := fun k => match h k with | some o => some o | none => h' k
def box (b : Nat) (cs : List Value) (t : TypeId) : PH := fun k => if k = b then some (.cells cs.toArray t (0, 0)) else none

theorem PLe.refl (h : PH) : PLe h h := fun _ _ e => e
theorem PLe.trans {a b c : PH} (h : PLe a b) (k : PLe b c) : PLe a c := fun i o e => k i o (h i o e)
theorem PLe.emp (h : PH) : PLe emp h := fun _ _ e => nomatch e
theorem PDj.symm {a b : PH} (h : PDj a b) : PDj b a := fun k => (h k).symm
theorem PDj.emp (h : PH) : PDj emp h := fun _ => .inl rfl
theorem PDj.mono {a b a' : PH} (h : PDj a b) (l : PLe a' a) : PDj a' b := fun k => by
  rcases h k with h1 | h1
  · left
    cases e : a' k with
    | none => rfl
    | some o => rw [l k o e] at h1; cases h1
  · exact .inr h1
theorem PLe.un_l (a b : PH) : PLe a (PUn a b) := fun k o e => by simp [PUn, e]
theorem PLe.un_r {a b : PH} (h : PDj a b) : PLe b (PUn a b) := fun k o e => by
  rcases h k with h1 | h1
  · simp [PUn, h1, e]
  · rw [h1] at e; cases e
theorem PUn.le {a b c : PH} (h1 : PLe a c) (h2 : PLe b c) : PLe (PUn a b) c := fun k o e => by
  unfold PUn at e
  split at e
  · rename_i x hx; cases e; exact h1 k _ hx
  · exact h2 k o e
theorem PDj.un {a b c : PH} (h1 : PDj a c) (h2 : PDj b c) : PDj (PUn a b) c := fun k => by
  rcases h1 k with e1 | e1
  · rcases h2 k with e2 | e2
    · left; simp [PUn, e1, e2]
    · exact .inr e2
  · exact .inr e1

def sepL : List PH → Prop
  | [] => True
  | h :: r => (∀ h' ∈ r, PDj h h') ∧ sepL r

/-- The world 'w' bears the parts 'HS', which are disjoint; its streams are those of 'w0'. -/
structure Sat (w0 : World) (HS : List PH) (w : World) : Prop where
  os : w.os = w0.os
  tape : w.tape = w0.tape
  output : w.output = w0.output
  size : w0.heap.size ≤ w.heap.size
  sep : sepL HS
  le : ∀ h ∈ HS, PLe h (hp w)

theorem Sat.start (w : World) : Sat w [hp w] w := ⟨rfl, rfl, rfl, Nat.le_refl _, ⟨by simp, trivial⟩, by simp [PLe.refl]⟩

/-- From 'w' to 'w'': of what stood there only the part 'h' may have turned; 'h'' is what stands for it now, and what is new. -/
structure Upd (h h' : PH) (w w' : World) : Prop where
  os : w'.os = w.os
  tape : w'.tape = w.tape
  output : w'.output = w.output
  size : w.heap.size ≤ w'.heap.size
  keep : ∀ k, k < w.heap.size → h k = none → w'.heap[k]? = w.heap[k]?
  le : PLe h' (hp w')
  dom : ∀ k o, h' k = some o → h k ≠ none ∨ w.heap.size ≤ k

theorem lt_of_hp {w : World} {k : Nat} {o : Obj} (h : hp w k = some o) : k < w.heap.size := (Array.getElem?_eq_some_iff.1 h).1

theorem sepL_get {HS : List PH} (h : sepL HS) : ∀ {i j : Nat} {a b : PH}, HS[i]? = some a → HS[j]? = some b → i ≠ j → PDj a b := by
  induction HS with
  | nil => intro i j a b h1; simp at h1
  | cons x r ih =>
    intro i j a b h1 h2 hne
    cases i with
    | zero =>
      cases j with
      | zero => exact absurd rfl hne
      | succ j =>
        simp at h1 h2; subst h1
        exact h.1 b (List.mem_of_getElem? h2)
    | succ i =>
      cases j with
      | zero =>
        simp at h1 h2; subst h2
        exact (h.1 a (List.mem_of_getElem? h1)).symm
      | succ j => exact ih h.2 (by simpa using h1) (by simpa using h2) (by omega)

theorem sepL_of {HS : List PH} (h : ∀ (i j : Nat) (a b : PH), HS[i]? = some a → HS[j]? = some b → i < j → PDj a b) : sepL HS := by
  induction HS with
  | nil => trivial
  | cons x r ih =>
    refine ⟨fun h' hm => ?_, ih fun i j a b h1 h2 hlt => h (i + 1) (j + 1) a b (by simpa using h1) (by simpa using h2) (by omega)⟩; obtain ⟨j, hj⟩ := List.getElem?_of_mem hm; exact h 0 (j + 1) x h' rfl (by simpa using hj) (by omega)

theorem getElem?_set_cases {α : Type} {l : List α} {i j : Nat} {x a : α} (h : (l.set i x)[j]? = some a) : (j = i ∧ a = x) ∨ (j ≠ i ∧ l[j]? = some a) := by
  rw [List.getElem?_set] at h
  split at h
  · rename_i hij
    subst hij
    split at h
    · cases h; exact .inl ⟨rfl, rfl⟩
    · cases h
  · rename_i hij
    exact .inr ⟨fun e => hij e.symm, h⟩

/-- A part is turned. -/
theorem Sat.upd {w0 w w' : World} {HS : List PH} {i : Nat} {h h' : PH} (s : Sat w0 HS w) (hi : HS[i]? = some h) (u : Upd h h' w w') : Sat w0 (HS.set i h') w' := by
  have old : ∀ (j : Nat) (a : PH), HS[j]? = some a → j ≠ i → ∀ k o, a k = some o → k < w.heap.size ∧ h k = none := fun j a hj hne k o e => by
    refine ⟨lt_of_hp (s.le a (List.mem_of_getElem? hj) k o e), ?_⟩
    rcases sepL_get s.sep hj hi hne k with h1 | h1
    · rw [h1] at e; cases e
    · exact h1
  have dj : ∀ (j : Nat) (a : PH), HS[j]? = some a → j ≠ i → PDj h' a := fun j a hj hne k => by
    cases e : a k with
    | none => exact .inr rfl
    | some o =>
      left
      obtain ⟨hk, hn⟩ := old j a hj hne k o e
      cases e' : h' k with
      | none => rfl
      | some o' =>
        rcases u.dom k o' e' with h1 | h1
        · exact absurd hn h1
        · omega
  refine ⟨u.os.trans s.os, u.tape.trans s.tape, u.output.trans s.output, Nat.le_trans s.size u.size, sepL_of fun a b x y h1 h2 hlt => ?_, fun x hx => ?_⟩
  · rcases getElem?_set_cases h1 with ⟨ea, exa⟩ | ⟨ea, exa⟩ <;> rcases getElem?_set_cases h2 with ⟨eb, exb⟩ | ⟨eb, exb⟩
    · omega
    · subst exa; exact dj b y exb eb
    · subst exb; exact (dj a x exa ea).symm
    · exact sepL_get s.sep exa exb (by omega)
  · obtain ⟨j, hj⟩ := List.getElem?_of_mem hx
    rcases getElem?_set_cases hj with ⟨_, e⟩ | ⟨e, hj'⟩
    · subst e; exact u.le
    · intro k o e'; obtain ⟨hk, hn⟩ := old j x hj' e k o e'
      show w'.heap[k]? = some o
      rw [u.keep k hk hn]; exact s.le x (List.mem_of_getElem? hj') k o e'

/-- A new part. -/
theorem Sat.new {w0 w w' : World} {HS : List PH} {hn : PH} (s : Sat w0 HS w) (u : Upd emp hn w w') : Sat w0 (hn :: HS) w' := by
  have lt : ∀ a ∈ HS, ∀ k o, a k = some o → k < w.heap.size := fun a ha k o e => lt_of_hp (s.le a ha k o e); refine ⟨u.os.trans s.os, u.tape.trans s.tape, u.output.trans s.output, Nat.le_trans s.size u.size, ⟨fun a ha k => ?_, s.sep⟩, fun x hx => ?_⟩
  · cases e : a k with
    | none => exact .inr rfl
    | some o =>
      left
      have := lt a ha k o e
      cases e' : hn k with
      | none => rfl
      | some o' =>
        rcases u.dom k o' e' with h1 | h1
        · exact absurd rfl h1
        · omega
  · rcases List.mem_cons.1 hx with rfl | hx
    · exact u.le
    · intro k o e
      show w'.heap[k]? = some o
      rw [u.keep k (lt x hx k o e) rfl]; exact s.le x hx k o e

/-- No part need be remembered. -/
theorem Sat.same {w0 w w' : World} {HS : List PH} {hn : PH} (s : Sat w0 HS w) (u : Upd emp hn w w') : Sat w0 HS w' :=
  let t := s.new u
  ⟨t.os, t.tape, t.output, t.size, t.sep.2, fun h hh => t.le h (List.mem_cons_of_mem _ hh)⟩

theorem Sat.drop {w0 w : World} {h : PH} {HS : List PH} (s : Sat w0 (h :: HS) w) : Sat w0 HS w :=
  ⟨s.os, s.tape, s.output, s.size, s.sep.2, fun x hx => s.le x (List.mem_cons_of_mem _ hx)⟩

theorem Sat.get {w0 w : World} {HS : List PH} (s : Sat w0 HS w) (i : Nat) {h : PH} (hi : HS[i]? = some h) : PLe h (hp w) := s.le h (List.mem_of_getElem? hi)

/-- Parts chosen by their places. -/
theorem Sat.pick {w0 w : World} {HS HS' : List PH} (s : Sat w0 HS w) (l : List Nat) (hl : l.Nodup) (h : l.map (HS[·]?) = HS'.map some) : Sat w0 HS' w := by
  have at_ : ∀ (j : Nat) (a : PH), HS'[j]? = some a → ∃ i, l[j]? = some i ∧ HS[i]? = some a := fun j a hj => by
    have h1 : (HS'.map some)[j]? = some (some a) := by simp [hj]
    rw [← h] at h1; simp only [List.getElem?_map, Option.map_eq_some_iff] at h1; obtain ⟨i, h2, h3⟩ := h1; exact ⟨i, h2, h3⟩
  refine ⟨s.os, s.tape, s.output, s.size, sepL_of fun i j a b h1 h2 hlt => ?_, fun x hx => ?_⟩
  · obtain ⟨p, hp1, hp2⟩ := at_ i a h1; obtain ⟨q, hq1, hq2⟩ := at_ j b h2; refine sepL_get s.sep hp2 hq2 fun e => ?_; subst e; obtain ⟨hi, _⟩ := List.getElem?_eq_some_iff.1 hp1; have := (List.getElem?_inj hi hl).1 (hp1.trans hq1.symm)
    omega
  · obtain ⟨j, hj⟩ := List.getElem?_of_mem hx; obtain ⟨p, _, hp2⟩ := at_ j x hj; exact s.le x (List.mem_of_getElem? hp2)

/-- Two parts made one. -/
theorem Sat.merge {w0 w : World} {a b : PH} {HS : List PH} (s : Sat w0 (a :: b :: HS) w) : Sat w0 (PUn a b :: HS) w := by
  refine ⟨s.os, s.tape, s.output, s.size, ⟨fun x hx => ?_, s.sep.2.2⟩, fun x hx => ?_⟩
  · exact PDj.un (s.sep.1 x (List.mem_cons_of_mem _ hx)) (s.sep.2.1 x hx)
  · rcases List.mem_cons.1 hx with rfl | hx
    · exact PUn.le (s.le a (by simp)) (s.le b (by simp))
    · exact s.le x (by simp [hx])
/-- One part made two. -/
theorem Sat.part {w0 w : World} {a b : PH} {HS : List PH} (d : PDj a b) (s : Sat w0 (PUn a b :: HS) w) : Sat w0 (a :: b :: HS) w := by
  have l1 := PLe.un_l a b; have l2 := PLe.un_r d; refine ⟨s.os, s.tape, s.output, s.size, ⟨fun x hx => ?_, fun x hx => (s.sep.1 x hx).mono l2, s.sep.2⟩, fun x hx => ?_⟩
  · rcases List.mem_cons.1 hx with rfl | hx
    · exact d
    · exact (s.sep.1 x hx).mono l1
  · rcases List.mem_cons.1 hx with rfl | hx
    · exact l1.trans (s.le _ (by simp))
    · rcases List.mem_cons.1 hx with rfl | hx
      · exact l2.trans (s.le _ (by simp))
      · exact s.le x (by simp [hx])
/-- A part made smaller. -/
theorem Sat.less {w0 w : World} {HS : List PH} {i : Nat} {h h' : PH} (s : Sat w0 HS w) (hi : HS[i]? = some h) (l : PLe h' h) : Sat w0 (HS.set i h') w := by
  refine ⟨s.os, s.tape, s.output, s.size, sepL_of fun a b x y h1 h2 hlt => ?_, fun x hx => ?_⟩
  · rcases getElem?_set_cases h1 with ⟨ea, exa⟩ | ⟨ea, exa⟩ <;> rcases getElem?_set_cases h2 with ⟨eb, exb⟩ | ⟨eb, exb⟩
    · omega
    · subst exa; subst ea; exact (sepL_get s.sep hi exb (by omega)).mono l
    · subst exb; subst eb; exact ((sepL_get s.sep hi exa (by omega)).mono l).symm
    · exact sepL_get s.sep exa exb (by omega)
  · obtain ⟨j, hj⟩ := List.getElem?_of_mem hx
    rcases getElem?_set_cases hj with ⟨_, e⟩ | ⟨e, hj'⟩
    · subst e; exact l.trans (s.get i hi)
    · exact s.get j hj'

/-- The call returns a value of which 'T' holds, 'h'' being what stands for the part 'h' now, and what is new. -/
def Ret (w : World) (h : PH) (T : Value → PH → Prop) (e : Ending) (w' : World) : Prop :=
  ∃ v h', e = .returned v ∧ Upd h h' w w' ∧ T v h'
/-- The call returns 'u'; nothing that was there has turned. -/
def RetV (w : World) (u : Value) (e : Ending) (w' : World) : Prop := e = .returned u ∧ Upd emp emp w w'
theorem Upd.refl (w : World) : Upd emp emp w w := ⟨rfl, rfl, rfl, Nat.le_refl _, fun _ _ _ => rfl, PLe.emp _, fun _ _ e => nomatch e⟩
theorem Upd.below {hn : PH} {w w' : World} (u : Upd emp hn w w') : Below w.heap.size w w' := ⟨u.os, u.tape, u.output, u.size, fun k hk => u.keep k hk rfl⟩
abbrev Env := List (Nat × Value)
def EnvOK (n : Nat) (K : Env) (a : Act) : Prop := a.defers = [] ∧ a.tmps.size = n ∧ ∀ t v, K.lookup t = some v → a.tmps[t]? = some v
def ev (K : Env) : Operand → Option Value
  | .tmp t => K.lookup t
  | .const v => some v
  | .global g => some (.pointer (some ⟨g, 0, none⟩))
  | .func f => some (.func (.func f) #[] #[])
def evs (K : Env) : List Operand → Option (List Value)
  | [] => some []
  | x :: r => match ev K x, evs K r with
    | some v, some vs => some (v :: vs)
    | _, _ => none
def putK (d : Option Tmp) (v : Value) (K : Env) : Env := match d with
  | some t => (t, v) :: K
  | none => K
def fitsK (n : Nat) : Option Tmp → Bool
  | some t => decide (t < n)
  | none => true
/-- Does the guard let the operation run? -/
def wantK (ops : Array Oper) (K : Env) (g : Option (Nat × Bool)) : Option Bool := match g with
  | none => some true
  | some (j, want) => match ((ops[j]?).bind (·.dst)).bind (fun t => K.lookup t) with
    | some (.bool b) => some (b == want)
    | some (.tuple _) => some false
    | _ => none

theorem lookup_cons {t d : Nat} {v : Value} {K : Env} : List.lookup t ((d, v) :: K) = if t = d then some v else List.lookup t K := by
  by_cases h : t = d
  · subst h; simp
  · have : (t == d) = false := by simpa using h
    simp [List.lookup_cons, this, h]

section
variable {n : Nat} {K : Env} {a : Act}
theorem EnvOK.ev (h : EnvOK n K a) {x : Operand} {v : Value} (hx : Proofs.YtdkgaejmgnojhaaGreat.ev K x = some v) : a.eval x = v := by
  cases x with
  | tmp t => have := h.2.2 t v hx; simp [Act.eval, this]
  | const u => simp only [Proofs.YtdkgaejmgnojhaaGreat.ev, Option.some.injEq] at hx; simp [Act.eval, hx]
  | global g => simp only [Proofs.YtdkgaejmgnojhaaGreat.ev, Option.some.injEq] at hx; simp [Act.eval, hx]
  | func f => simp only [Proofs.YtdkgaejmgnojhaaGreat.ev, Option.some.injEq] at hx; simp [Act.eval, hx]
theorem EnvOK.evs (h : EnvOK n K a) : ∀ {xs : List Operand} {vs : List Value}, Proofs.YtdkgaejmgnojhaaGreat.evs K xs = some vs → xs.map a.eval = vs
  | [], vs, hx => by simp only [Proofs.YtdkgaejmgnojhaaGreat.evs, Option.some.injEq] at hx; simp [← hx]
  | x :: r, vs, hx => by
    simp only [Proofs.YtdkgaejmgnojhaaGreat.evs] at hx
    split at hx
    · rename_i v us h1 h2
      cases hx
      simp [h.ev h1, EnvOK.evs h h2]
    · cases hx
theorem EnvOK.put (h : EnvOK n K a) {d : Option Tmp} (v : Value) (hd : fitsK n d = true) : EnvOK n (putK d v K) (a.put d v) := by
  cases d with
  | none => exact h
  | some d =>
    have hd' : d < a.tmps.size := by rw [h.2.1]; simpa [fitsK] using hd
    refine ⟨h.1, by simp [Act.put, h.2.1], fun t u ht => ?_⟩; simp only [putK, lookup_cons] at ht
    by_cases e : t = d
    · subst e; simp only [if_true, Option.some.injEq] at ht; subst ht
      simp [Act.put, hd']
    · rw [if_neg e] at ht; simp only [Act.put]; rw [Array.getElem?_setIfInBounds_ne (Ne.symm e)]; exact h.2.2 t u ht
theorem EnvOK.wanted (h : EnvOK n K a) {ops : Array Oper} {o : Oper} {b : Bool} (hw : wantK ops K o.guard = some b) : Region.wanted o (yielded ops a.tmps) = b := by
  unfold Region.wanted
  unfold wantK at hw
  cases hg : o.guard with
  | none => rw [hg] at hw; simpa using hw
  | some p =>
    obtain ⟨j, want⟩ := p; rw [hg] at hw
    simp only at hw ⊢
    unfold yielded
    cases ht : (ops[j]?).bind (·.dst) with
    | none => rw [ht] at hw; simp at hw
    | some t =>
      rw [ht] at hw; simp only [Option.bind_some] at hw ⊢
      cases hl : List.lookup t K with
      | none => rw [hl] at hw; simp at hw
      | some u =>
        rw [hl] at hw; rw [h.2.2 t u hl]
        cases u <;> simp at hw ⊢ <;> first | exact hw | (cases hw)
end

section
variable (P : Program) (n : Nat) (w0 : World)
def WP (c : Code) (Q : Exit → Act → World → Prop) (K : Env) (HS : List PH) : Prop := ∀ a w, EnvOK n K a → Sat w0 HS w → c.wp P Q a w
def QS (Q : Exit → Act → World → Prop) (e : Exit) (K : Env) (HS : List PH) : Prop := ∀ a w, EnvOK n K a → Sat w0 HS w → Q e a w
def SQ (ops : Array Oper) (todo : List Oper) (Q : Exit → Act → World → Prop) (K : Env) (HS : List PH) : Prop := ∀ a w, EnvOK n K a → Sat w0 HS w → wpList P ops Q todo a w
/-- 'o' yields 'v' in every world that bears the parts. -/
def StepV (K : Env) (HS : List PH) (o : Oper) (v : Value) : Prop := ∀ a w, EnvOK n K a → Sat w0 HS w → (execOp a.eval o).run P w = .ok (.value v) w
def Nope : Exit → Act → World → Prop := fun _ _ _ => False
/-- 'o' turns the part 'h'. -/
def StepX (K : Env) (HS : List PH) (o : Oper) (h : PH) (T : Value → PH → Prop) : Prop :=
  ∀ a w, EnvOK n K a → Sat w0 HS w → o.wp P a w (fun a' w' => ∃ v h', a' = a.put o.dst v ∧ Upd h h' w w' ∧ T v h') Nope
end
section
variable {P : Program} {n : Nat} {w0 : World} {K : Env} {HS : List PH} {Q : Exit → Act → World → Prop} {ops : Array Oper} {rest : List Oper}

theorem Oper.wp_imp {o : Oper} {a : Act} {w : World} {X K' : Act → World → Prop} {Q Q' : Exit → Act → World → Prop} (h : o.wp P a w X Q) (hx : ∀ a w, X a w → K' a w) (hq : ∀ e a w, Q e a w → Q' e a w) : o.wp P a w K' Q' := by
  unfold Oper.wp at *
  generalize (execOp a.eval o).run P w = r at *
  cases r with
  | ok n w' =>
    cases n <;> simp only [Oper.upon] at h ⊢ <;>
      first
        | exact hx _ _ h
        | exact Calls.mono h (fun e w'' he => by cases e <;> first | exact hx _ _ he | exact hq _ _ _ he | (obtain ⟨a0, w0, q⟩ := he; exact ⟨a0, w0, hq _ _ _ q⟩))
        | exact Rows.mono h (fun _ _ he => hx _ _ he)
  | halt x w' => cases x <;> simp only [Oper.upon] at h ⊢ <;> exact hq _ _ _ h

theorem wp_sq {id : Nat} {l : List Oper} (h : SQ P n w0 l.toArray l Q K HS) : WP P n w0 (.region id l.toArray false) Q K HS := fun a w e s => wp_region_lit (h a w e s)
theorem sq_end (h : QS n w0 Q .normal K HS) : SQ P n w0 ops [] Q K HS := fun a w e s => wpList_nil (h a w e s)
theorem wp_sc {x y : Code} (h : WP P n w0 x (Exit.then (y.wp P Q) Q) K HS) : WP P n w0 (.seq x y) Q K HS := fun a w e s => wp_seq (h a w e s)
theorem wp_sk (h : QS n w0 Q .normal K HS) : WP P n w0 .skip Q K HS := fun a w e s => wp_skip (h a w e s)
theorem wp_rt (h : QS n w0 Q .ret K HS) : WP P n w0 .ret Q K HS := fun a w e s => wp_ret (h a w e s)
theorem wp_ex {id : Nat} (h : QS n w0 Q (.exit id) K HS) : WP P n w0 (.exit id) Q K HS := fun a w e s => wp_exit (h a w e s)
theorem wp_bl {id : Nat} {c : Code} (h : WP P n w0 c (Exit.inBlock id Q) K HS) : WP P n w0 (.block id c) Q K HS := fun a w e s => wp_block (h a w e s)
theorem wp_cb {c : Operand} {x y : Code} (b : Bool) (hc : ev K c = some (.bool b)) (h1 : b = true → WP P n w0 x Q K HS) (h2 : b = false → WP P n w0 y Q K HS) : WP P n w0 (.cond c x y) Q K HS := fun a w e s => by
  cases b
  · exact wp_cond_false (e.ev hc) (h2 rfl a w e s)
  · exact wp_cond_true (e.ev hc) (h1 rfl a w e s)
theorem wp_ct {c : Operand} {x y : Code} (hc : ev K c = some (.bool true)) (h : WP P n w0 x Q K HS) : WP P n w0 (.cond c x y) Q K HS := fun a w e s => wp_cond_true (e.ev hc) (h a w e s)
theorem wp_cf {c : Operand} {x y : Code} (hc : ev K c = some (.bool false)) (h : WP P n w0 y Q K HS) : WP P n w0 (.cond c x y) Q K HS := fun a w e s => wp_cond_false (e.ev hc) (h a w e s)
theorem wp_cd {c : Operand} {x y : Code} {p : Prop} [Decidable p] (hc : ev K c = some (.bool (decide p))) (h1 : p → WP P n w0 x Q K HS) (h2 : ¬ p → WP P n w0 y Q K HS) : WP P n w0 (.cond c x y) Q K HS := by
  by_cases hp : p
  · exact wp_ct (by rw [hc]; simp [hp]) (h1 hp)
  · exact wp_cf (by rw [hc]; simp [hp]) (h2 hp)

theorem qs_n {y : Code} (h : WP P n w0 y Q K HS) : QS n w0 (Exit.then (y.wp P Q) Q) .normal K HS := h
theorem qs_x {N : Act → World → Prop} {id : Nat} (h : QS n w0 Q (.exit id) K HS) : QS n w0 (Exit.then N Q) (.exit id) K HS := h
theorem qs_r {N : Act → World → Prop} (h : QS n w0 Q .ret K HS) : QS n w0 (Exit.then N Q) .ret K HS := h
theorem qs_bn {id : Nat} (h : QS n w0 Q .normal K HS) : QS n w0 (Exit.inBlock id Q) .normal K HS := h
theorem qs_br {id : Nat} (h : QS n w0 Q .ret K HS) : QS n w0 (Exit.inBlock id Q) .ret K HS := h
theorem qs_bx {id : Nat} (h : QS n w0 Q .normal K HS) : QS n w0 (Exit.inBlock id Q) (.exit id) K HS := fun a w e s => by
  simp only [Exit.inBlock, if_true]; exact h a w e s
theorem sq_v {o : Oper} {v : Value} (hw : wantK ops K o.guard = some true) (hv : StepV P n w0 K HS o v) (hf : fitsK n o.dst = true) (k : SQ P n w0 ops rest Q (putK o.dst v K) HS) : SQ P n w0 ops (o :: rest) Q K HS := fun a w e s => by
  refine wpList_step fun X hX => ?_; rw [if_pos (e.wanted hw)]
  unfold Oper.wp
  rw [hv a w e s]; exact hX _ _ (k _ _ (e.put v hf) s)
theorem sq_s {o : Oper} (hw : wantK ops K o.guard = some false) (hf : fitsK n o.dst = true) (k : SQ P n w0 ops rest Q (putK o.dst undef K) HS) : SQ P n w0 ops (o :: rest) Q K HS := fun a w e s => by
  refine wpList_step fun X hX => ?_; rw [if_neg (by rw [e.wanted hw]; decide)]; exact hX _ _ (k _ _ (e.put undef hf) s)
theorem sq_m {o : Oper} (i : Nat) {h : PH} {T : Value → PH → Prop} (hw : wantK ops K o.guard = some true) (hi : HS[i]? = some h) (hx : StepX P n w0 K HS o h T) (hf : fitsK n o.dst = true)
    (k : ∀ v h', T v h' → SQ P n w0 ops rest Q (putK o.dst v K) (HS.set i h')) : SQ P n w0 ops (o :: rest) Q K HS := fun a w e s => by
  refine wpList_step fun X hX => ?_; rw [if_pos (e.wanted hw)]; refine Oper.wp_imp (hx a w e s) (fun a' w' ⟨v, h', ha, u, ht⟩ => ?_) (fun _ _ _ f => f.elim); subst ha; exact hX _ _ (k v h' ht _ _ (e.put v hf) (s.upd hi u))
theorem sq_x {o : Oper} {T : Value → PH → Prop} (hw : wantK ops K o.guard = some true) (hx : StepX P n w0 K HS o emp T) (hf : fitsK n o.dst = true)
    (k : ∀ v h', T v h' → SQ P n w0 ops rest Q (putK o.dst v K) (h' :: HS)) : SQ P n w0 ops (o :: rest) Q K HS := fun a w e s => by
  refine wpList_step fun X hX => ?_; rw [if_pos (e.wanted hw)]; refine Oper.wp_imp (hx a w e s) (fun a' w' ⟨v, h', ha, u, ht⟩ => ?_) (fun _ _ _ f => f.elim); subst ha; exact hX _ _ (k v h' ht _ _ (e.put v hf) (s.new u))
/-- A new part that need not be remembered; the value is known. -/
theorem sq_u {o : Oper} {u : Value} (hw : wantK ops K o.guard = some true) (hx : StepX P n w0 K HS o emp (fun v _ => v = u)) (hf : fitsK n o.dst = true)
    (k : SQ P n w0 ops rest Q (putK o.dst u K) HS) : SQ P n w0 ops (o :: rest) Q K HS := fun a w e s => by
  refine wpList_step fun X hX => ?_; rw [if_pos (e.wanted hw)]; refine Oper.wp_imp (hx a w e s) (fun a' w' ⟨v, h', ha, up, ht⟩ => ?_) (fun _ _ _ f => f.elim); subst ha; subst ht; exact hX _ _ (k _ _ (e.put _ hf) (s.same up))
end

def OnlyN (Q : Exit → Act → World → Prop) : Exit → Act → World → Prop
  | .normal, a, w => Q .normal a w
  | _, _, _ => False
theorem OnlyN.imp {Q : Exit → Act → World → Prop} : ∀ e a w, OnlyN Q e a w → Q e a w := fun e a w h => by
  cases e <;> first | exact h | exact (h : False).elim
def RAny (P : Program) (ops : Array Oper) (Q : Exit → Act → World → Prop) (S : World → Prop) (m : Nat) : Nat → Array Bool → Act → World → Prop
  | 0, listed, a, w => Region.ready .any ops listed = [] ∧ Q .normal a w
  | f + 1, listed, a, w =>
    (Region.ready .any ops listed = [] → Q .normal a w) ∧
    ∀ i ∈ Region.ready .any ops listed, wpOp P ops (OnlyN Q) i (fun a' w' => (i < m → S w') ∧ RAny P ops Q S m f (listed.setIfInBounds i true) a' w') a w
def tailOK (ops : Array Oper) (m : Nat) : Bool := decide (m = ops.size) || (decide (m < ops.size) && Region.sinkB .any ops m && Region.chainB .any ops m)
/-- Is this an order in which the operations may be taken? (i, true): number i yields the same whenever it comes up, and is taken first; (i, false): number i is the only one that may come up. -/
def chk (ops : Array Oper) (m : Nat) : List (Nat × Bool) → Array Bool → Bool
  | [], listed => (Region.ready .any ops listed).isEmpty
  | (i, true) :: r, listed => decide (i < m) && (Region.ready .any ops listed).contains i && Region.free .any ops listed i && chk ops m r (listed.setIfInBounds i true)
  | (i, false) :: r, listed => decide (Region.ready .any ops listed = [i]) && (decide (i < m) || ((List.range m).all (fun j => listed.getD j false) && r.all (fun p => decide (m ≤ p.1)))) && chk ops m r (listed.setIfInBounds i true)
section
variable {P : Program} {ops : Array Oper} {Q : Exit → Act → World → Prop} {m : Nat}
theorem rany_any {S : World → Prop} : ∀ (f : Nat) (listed : Array Bool) (a : Act) (w : World), RAny P ops Q S m f listed a w → wpAny P .any ops (OnlyN Q) f listed a w
  | 0, _, _, _, h => h
  | f + 1, _, _, _, h => ⟨h.1, fun i hi => wpOp_mono (fun a' w' h' => rany_any f _ a' w' h'.2) (h.2 i hi)⟩
theorem rany_mono {S S' : World → Prop} (hS : ∀ w, S w → S' w) : ∀ (f : Nat) (listed : Array Bool) (a : Act) (w : World), RAny P ops Q S m f listed a w → RAny P ops Q S' m f listed a w
  | 0, _, _, _, h => h
  | f + 1, _, _, _, h => ⟨h.1, fun i hi => wpOp_mono (fun a' w' h' => ⟨fun hm => hS _ (h'.1 hm), rany_mono hS f _ a' w' h'.2⟩) (h.2 i hi)⟩
theorem rany_tail {S S' : World → Prop} : ∀ (f : Nat) (listed : Array Bool) (a : Act) (w : World), (∀ j, j < m → listed.getD j false = true) → RAny P ops Q S m f listed a w → RAny P ops Q S' m f listed a w
  | 0, _, _, _, _, h => h
  | f + 1, listed, _, _, hl, h => ⟨h.1, fun i hi => wpOp_mono (fun a' w' h' => ⟨fun hm => by
      have h1 := (mem_ready.1 hi).1; have h2 := hl i hm
      rcases Nat.lt_or_ge i listed.size with h3 | h3
      · simp [h3] at h1 h2; rw [h1] at h2; cases h2
      · simp [Array.getElem?_eq_none h3] at h2, rany_tail f _ a' w' (fun j hj => getD_set_true (hl j hj)) h'.2⟩) (h.2 i hi)⟩
theorem rany_first {S : World → Prop} {i : Nat} {oi : Oper} {v : Value} (hi : ops[i]? = some oi) (hsel : ∀ (j : Nat) (o : Oper) cs b, ops[j]? = some o → o.op ≠ .select cs b)
    (him : i < m) (ht : tailOK ops m = true) :
    ∀ (f : Nat) (listed : Array Bool) (a : Act) (w : World), HeadInv .any ops m listed →
      (∀ j oj, ops[j]? = some oj → j ≠ i → listed.getD j true = false → (∀ e ∈ oj.after, Region.binds .any e = true → e.on ≠ i) → oi.apart ops oj = true) →
      i ∈ Region.ready .any ops listed → YieldsIf P ops S oi v a → S w →
      RAny P ops Q S m f (listed.setIfInBounds i true) (a.put oi.dst v) w → RAny P ops Q S m (f + 1) listed a w := by
  have small : ∀ (listed : Array Bool), HeadInv .any ops m listed → i ∈ Region.ready .any ops listed → ∀ j ∈ Region.ready .any ops listed, j < m := by
    intro listed inv hr j hj; obtain ⟨_, oj, hoj, _⟩ := mem_ready.1 hj; have hjs : j < ops.size := (Array.getElem?_eq_some_iff.1 hoj).1; simp only [tailOK, Bool.or_eq_true, Bool.and_eq_true, decide_eq_true_eq] at ht
    rcases ht with ht | ⟨⟨h1, h2⟩, h3⟩
    · omega
    · rcases Nat.lt_or_ge j m with h | h
      · exact h
      · exact absurd hj (tail_waits h2 h3 h1 inv _ i rfl him (mem_ready.1 hr).1 j h)
  intro f
  induction f with
  | zero =>
    intro listed a w inv _ hr hy hS H; refine ⟨fun h => (by rw [h] at hr; cases hr), fun j hj => ?_⟩
    by_cases hji : j = i
    · subst hji; exact hy.wpOp hi hS ⟨fun _ => hS, H⟩
    · have := ready_mono hj hji; rw [H.1] at this
      cases this
  | succ f ih =>
    intro listed a w inv hfree hr hy hS H; refine ⟨fun h => (by rw [h] at hr; cases hr), fun j hj => ?_⟩
    by_cases hji : j = i
    · subst hji; exact hy.wpOp hi hS ⟨fun _ => hS, H⟩
    · have hjm := small listed inv hr j hj; have h1 := H.2 j (ready_mono hj hji); obtain ⟨hjun, oj, hoj, hall⟩ := mem_ready.1 hj; have hnot : ∀ e ∈ oj.after, Region.binds .any e = true → e.on ≠ i := fun e he hb heq => by
        have h1 := hall e he hb; have h0 := (mem_ready.1 hr).1; rw [heq] at h1
        rcases Nat.lt_or_ge i listed.size with h' | h'
        · simp [h'] at h0 h1; rw [h0] at h1; cases h1
        · simp [Array.getElem?_eq_none h'] at h1
      have h2 := wpOp_putIf hoj (hfree j oj hoj hji hjun hnot) (fun cs b => hsel i oi cs b hi) (fun cs b => hsel j oj cs b hoj) (fun _ _ _ h => h) hy h1; have hfree' : ∀ k ok, ops[k]? = some ok → k ≠ i → (listed.setIfInBounds j true).getD k true = false →
          (∀ e ∈ ok.after, Region.binds .any e = true → e.on ≠ i) → oi.apart ops ok = true := fun k ok hk hki hun hno => by
        refine hfree k ok hk hki ?_ hno
        by_cases hjk : j = k
        · subst hjk; exact hjun
        · rw [getD_set_ne true hjk] at hun; exact hun
      refine wpOp_mono (fun a' w' h3 => ⟨h3.2.1, ih (listed.setIfInBounds j true) a' w' (inv.set hj hjm) hfree' (ready_mono hr (Ne.symm hji)) h3.1 (h3.2.1 hjm) ?_⟩) h2; rw [Array.setIfInBounds_comm _ _ hji]; exact h3.2.2
end

section
variable (P : Program) (n : Nat) (w0 : World)
def RJ (ops : Array Oper) (m : Nat) (Q : Exit → Act → World → Prop) (order : List (Nat × Bool)) (listed : Array Bool) (K : Env) (HS : List PH) : Prop :=
  (∀ i s r, order = (i, s) :: r → i < m → HeadInv .any ops m listed) → chk ops m order listed = true → (Region.noSelect ops && tailOK ops m) = true →
  ∀ (a : Act) (w : World), EnvOK n K a → Sat w0 HS w → RAny P ops Q (Sat w0 HS) m order.length listed a w
end
section
variable {P : Program} {n : Nat} {w0 : World} {K : Env} {HS : List PH} {Q : Exit → Act → World → Prop} {ops : Array Oper} {m : Nat} {r : List (Nat × Bool)} {listed : Array Bool}

theorem wp_rj {id : Nat} {l : List Oper} (m : Nat) (order : List (Nat × Bool)) (hm : P.follows .mixedOrders = true)
    (hc : (chk l.toArray m order (Array.replicate l.toArray.size false) && (Region.noSelect l.toArray && tailOK l.toArray m) && decide (order.length = l.toArray.size)) = true)
    (h : RJ P n w0 l.toArray m Q order (Array.replicate l.toArray.size false) K HS) : WP P n w0 (.region id l.toArray true) Q K HS := fun a w e s => by
  rw [Bool.and_eq_true, Bool.and_eq_true] at hc; obtain ⟨⟨h1, h2⟩, h3⟩ := hc; have hm' : m ≤ l.toArray.size := by
    simp only [Bool.and_eq_true, tailOK, Bool.or_eq_true, decide_eq_true_eq] at h2
    omega
  have inv0 : HeadInv .any l.toArray m (Array.replicate l.toArray.size false) :=
    ⟨by simp, fun j oj _ hl => (by rw [getD_replicate_false] at hl; cases hl), fun t _ ht => getD_in (by simpa using ht) (getD_replicate_false _ _)⟩
  have H := h (fun _ _ _ _ _ => inv0) h1 h2 a { w with drawn := w.drawn + 1 } e ⟨s.os, s.tape, s.output, s.size, s.sep, s.le⟩; rw [of_decide_eq_true h3] at H; exact Code.wp_mono OnlyN.imp (wp_region_any hm (rany_any _ _ _ _ H))
theorem rj_end (h : QS n w0 Q .normal K HS) : RJ P n w0 ops m Q [] listed K HS := fun _ hc _ a w e s => ⟨by simpa [chk] using hc, h a w e s⟩

theorem rj_yield {i : Nat} {oi : Oper} {v : Value} (hi : ops[i]? = some oi) (hy : ∀ a, EnvOK n K a → YieldsIf P ops (Sat w0 HS) oi v a) (hf : fitsK n oi.dst = true)
    (k : RJ P n w0 ops m Q r (listed.setIfInBounds i true) (putK oi.dst v K) HS) : RJ P n w0 ops m Q ((i, true) :: r) listed K HS := fun hinv hc ht a w e s => by
  simp only [chk, Bool.and_eq_true, decide_eq_true_eq] at hc; obtain ⟨⟨⟨him, hr⟩, hfr⟩, hc'⟩ := hc; have inv := hinv i true r rfl him; have hr' : i ∈ Region.ready .any ops listed := by simpa using hr
  have ht' := ht; rw [Bool.and_eq_true] at ht'; exact rany_first hi (Region.noSelect_spec ht'.1) him ht'.2 _ listed a w inv (Region.free_spec hi hfr) hr' (hy a e) s
    (k (fun _ _ _ _ _ => inv.set hr' him) hc' ht _ _ (e.put v hf) s)
theorem rj_v {i : Nat} {oi : Oper} {v : Value} (hi : ops[i]? = some oi) (hw : wantK ops K oi.guard = some true) (hv : StepV P n w0 K HS oi v) (hf : fitsK n oi.dst = true)
    (k : RJ P n w0 ops m Q r (listed.setIfInBounds i true) (putK oi.dst v K) HS) : RJ P n w0 ops m Q ((i, true) :: r) listed K HS :=
  rj_yield hi (fun a e => .inl ⟨e.wanted hw, fun w s => hv a w e s⟩) hf k
theorem rj_s {i : Nat} {oi : Oper} (hi : ops[i]? = some oi) (hw : wantK ops K oi.guard = some false) (hf : fitsK n oi.dst = true)
    (k : RJ P n w0 ops m Q r (listed.setIfInBounds i true) (putK oi.dst undef K) HS) : RJ P n w0 ops m Q ((i, true) :: r) listed K HS :=
  rj_yield hi (fun _ e => .inr ⟨e.wanted hw, rfl⟩) hf k

theorem rj_only {i : Nat} {oi : Oper} (hi : ops[i]? = some oi) (h : (∀ i' s r', r = (i', s) :: r' → i' < m → i < m) → chk ops m r (listed.setIfInBounds i true) = true → (m ≤ i → ∀ j, j < m → (listed.setIfInBounds i true).getD j false = true) →
      (Region.noSelect ops && tailOK ops m) = true → (i < m → HeadInv .any ops m (listed.setIfInBounds i true)) →
      ∀ a w, EnvOK n K a → Sat w0 HS w → wpOp P ops (OnlyN Q) i (fun a' w' => (i < m → Sat w0 HS w') ∧ RAny P ops Q (Sat w0 HS) m r.length (listed.setIfInBounds i true) a' w') a w) :
    RJ P n w0 ops m Q ((i, false) :: r) listed K HS := fun hinv hc ht a w e s => by
  simp only [chk, Bool.and_eq_true, decide_eq_true_eq, Bool.or_eq_true, List.all_eq_true, List.mem_range] at hc; obtain ⟨⟨hr, hd⟩, hc'⟩ := hc; have hmem : i ∈ Region.ready .any ops listed := by rw [hr]; simp
  refine ⟨fun h0 => (by rw [hr] at h0; cases h0), fun j hj => ?_⟩; rw [hr] at hj; have : j = i := by simpa using hj
  subst this; refine h (fun i' s' r' e' hlt => ?_) hc' (fun hmi j' hj' => ?_) ht (fun him => (hinv j false r rfl him).set hmem him) a w e s
  · rcases hd with hd | hd
    · exact hd
    · have := hd.2 (i', s') (by rw [e']; simp)
      simp only at this
      omega
  · rcases hd with hd | hd
    · omega
    · exact getD_set_true (hd.1 j' hj')
theorem rj_fv {i : Nat} {oi : Oper} {v : Value} (hi : ops[i]? = some oi) (hw : wantK ops K oi.guard = some true) (hv : StepV P n w0 K HS oi v) (hf : fitsK n oi.dst = true)
    (k : RJ P n w0 ops m Q r (listed.setIfInBounds i true) (putK oi.dst v K) HS) : RJ P n w0 ops m Q ((i, false) :: r) listed K HS :=
  rj_only hi fun h1 h2 _ h4 h5 a w e s => by
    have hy : YieldsIf P ops (Sat w0 HS) oi v a := .inl ⟨e.wanted hw, fun w s => hv a w e s⟩; exact hy.wpOp hi s ⟨fun _ => s, k (fun i' s' r' e' hlt => h5 (h1 i' s' r' e' hlt)) h2 h4 _ _ (e.put v hf) s⟩
theorem rj_fs {i : Nat} {oi : Oper} (hi : ops[i]? = some oi) (hw : wantK ops K oi.guard = some false) (hf : fitsK n oi.dst = true)
    (k : RJ P n w0 ops m Q r (listed.setIfInBounds i true) (putK oi.dst undef K) HS) : RJ P n w0 ops m Q ((i, false) :: r) listed K HS :=
  rj_only hi fun h1 h2 _ h4 h5 a w e s => by
    have hy : YieldsIf P ops (Sat w0 HS) oi undef a := .inr ⟨e.wanted hw, rfl⟩; exact hy.wpOp hi s ⟨fun _ => s, k (fun i' s' r' e' hlt => h5 (h1 i' s' r' e' hlt)) h2 h4 _ _ (e.put undef hf) s⟩
theorem rj_x {i : Nat} {oi : Oper} {T : Value → PH → Prop} (hi : ops[i]? = some oi) (hw : wantK ops K oi.guard = some true) (hx : StepX P n w0 K HS oi emp T) (hf : fitsK n oi.dst = true)
    (k : ∀ v h', T v h' → RJ P n w0 ops m Q r (listed.setIfInBounds i true) (putK oi.dst v K) (h' :: HS)) : RJ P n w0 ops m Q ((i, false) :: r) listed K HS :=
  rj_only hi fun h1 h2 _ h4 h5 a w e s => by
    unfold wpOp
    simp only [hi]; rw [if_pos (e.wanted hw)]; refine .inl (Oper.wp_imp (hx a w e s) (fun a' w' ⟨v, h', ha, u, ht⟩ => ?_) (fun _ _ _ f => f.elim)); subst ha; exact ⟨fun _ => s.same u, rany_mono (fun _ t => t.drop) _ _ _ _ (k v h' ht (fun i' s' r' e' hlt => h5 (h1 i' s' r' e' hlt)) h2 h4 _ _ (e.put v hf) (s.new u))⟩
theorem rj_u {i : Nat} {oi : Oper} {u : Value} (hi : ops[i]? = some oi) (hw : wantK ops K oi.guard = some true) (hx : StepX P n w0 K HS oi emp (fun v _ => v = u)) (hf : fitsK n oi.dst = true)
    (k : RJ P n w0 ops m Q r (listed.setIfInBounds i true) (putK oi.dst u K) HS) : RJ P n w0 ops m Q ((i, false) :: r) listed K HS :=
  rj_only hi fun h1 h2 _ h4 h5 a w e s => by
    unfold wpOp
    simp only [hi]; rw [if_pos (e.wanted hw)]; refine .inl (Oper.wp_imp (hx a w e s) (fun a' w' ⟨v, h', ha, up, ht⟩ => ?_) (fun _ _ _ f => f.elim)); subst ha; subst ht; exact ⟨fun _ => s.same up, k (fun i' s' r' e' hlt => h5 (h1 i' s' r' e' hlt)) h2 h4 _ _ (e.put _ hf) (s.same up)⟩
theorem rj_m {i : Nat} {oi : Oper} (p : Nat) {h : PH} {T : Value → PH → Prop} (hi : ops[i]? = some oi) (hmi : decide (m ≤ i) = true) (hw : wantK ops K oi.guard = some true) (hp : HS[p]? = some h) (hx : StepX P n w0 K HS oi h T) (hf : fitsK n oi.dst = true)
    (k : ∀ v h', T v h' → RJ P n w0 ops m Q r (listed.setIfInBounds i true) (putK oi.dst v K) (HS.set p h')) : RJ P n w0 ops m Q ((i, false) :: r) listed K HS :=
  rj_only hi fun h1 h2 h3 h4 h5 a w e s => by
    unfold wpOp
    simp only [hi]; rw [if_pos (e.wanted hw)]; refine .inl (Oper.wp_imp (hx a w e s) (fun a' w' ⟨v, h', ha, u, ht⟩ => ?_) (fun _ _ _ f => f.elim)); subst ha; have hmi' := of_decide_eq_true hmi; exact ⟨fun hlt => absurd hlt (by omega), rany_tail _ _ _ _ (h3 hmi') (k v h' ht (fun i' s' r' e' hlt => h5 (h1 i' s' r' e' hlt)) h2 h4 _ _ (e.put v hf) (s.upd hp u))⟩
end
end Go.Proofs.YtdkgaejmgnojhaaGreat
namespace Go.Proofs.YtdkgaejmgnojhaaGreat
open Go.RowKit

def aggB (P : Program) (t : TypeId) : Option Bool := (P.underlying t).map fun | .struct _ => true | .array _ _ => true | _ => false
structure TyF (P : Program) (t : TypeId) (z : Value) (sz bytes : Nat) (agg : Bool) : Prop where
  info : (P.info? t).map (fun i => (i.zero, i.size, i.bytes)) = some (some z, sz, bytes)
  isAgg : aggB P t = some agg
theorem TyF.get {P : Program} {t : TypeId} {z : Value} {sz bytes : Nat} {agg : Bool} (h : TyF P t z sz bytes agg) : ∃ i, P.info? t = some i ∧ i.zero = some z ∧ i.size = sz ∧ i.bytes = bytes := by
  have := h.info; simp only [Option.map_eq_some_iff, Prod.mk.injEq] at this; obtain ⟨i, h1, h2, h3, h4⟩ := this; exact ⟨i, h1, h2, h3, h4⟩
theorem TyF.und {P : Program} {t : TypeId} {z : Value} {sz bytes : Nat} (h : TyF P t z sz bytes false) : ∃ d, P.underlying t = some d ∧ (∀ f, d ≠ .struct f) ∧ (∀ k e, d ≠ .array k e) := by
  have := h.isAgg
  unfold aggB at this
  simp only [Option.map_eq_some_iff] at this; obtain ⟨d, h1, h2⟩ := this; refine ⟨d, h1, ?_, ?_⟩
  · rintro f rfl; simp at h2
  · rintro k e rfl; simp at h2
theorem TyF.undA {P : Program} {t : TypeId} {z : Value} {sz bytes : Nat} (h : TyF P t z sz bytes true) : ∃ d, P.underlying t = some d ∧ ((∃ f, d = .struct f) ∨ (∃ k e, d = .array k e)) := by
  have := h.isAgg
  unfold aggB at this
  simp only [Option.map_eq_some_iff] at this; obtain ⟨d, h1, h2⟩ := this; refine ⟨d, h1, ?_⟩
  cases d <;> simp at h2
  · exact .inr ⟨_, _, rfl⟩
  · exact .inl ⟨_, rfl⟩
theorem run_isAgg {P : Program} {t : TypeId} {z : Value} {sz bytes : Nat} {agg : Bool} (h : TyF P t z sz bytes agg) (w : World) : (isAgg t).run P w = .ok agg w := by
  cases agg
  · obtain ⟨d, h1, h2, h3⟩ := h.und
    unfold isAgg
    simp only [Sem.run_bind, run_underlying h1, Result.andThen_ok]
    cases d <;> first | rfl | exact absurd rfl (h2 _) | exact absurd rfl (h3 _ _)
  · obtain ⟨d, h1, h2⟩ := h.undA
    unfold isAgg
    simp only [Sem.run_bind, run_underlying h1, Result.andThen_ok]
    rcases h2 with ⟨f, rfl⟩ | ⟨k, e, rfl⟩ <;> rfl
theorem run_sizeOf {P : Program} {t : TypeId} {z : Value} {sz bytes : Nat} {agg : Bool} (h : TyF P t z sz bytes agg) (w : World) : (sizeOf t).run P w = .ok sz w := by
  obtain ⟨i, h1, _, h3, _⟩ := h.get
  simp [sizeOf, typeInfo, h1, h3]
theorem run_zero {P : Program} {t : TypeId} {z : Value} {sz bytes : Nat} {agg : Bool} (h : TyF P t z sz bytes agg) (w : World) : (zeroValue t).run P w = .ok z w := by
  obtain ⟨i, h1, h2, _, _⟩ := h.get
  simp [zeroValue, typeInfo, h1, h2]

def cellP (h : PH) (b o : Nat) : Option Value := match h b with
  | some (.cells c _ _) => c[o]?
  | _ => none
theorem cellP.mono {h h' : PH} (l : PLe h h') {b o : Nat} {v : Value} (e : cellP h b o = some v) : cellP h' b o = some v := by
  unfold cellP at *
  cases hb : h b with
  | none => rw [hb] at e; cases e
  | some x => rw [l b x hb]; rw [hb] at e; exact e
theorem cellP_hp (w : World) (b o : Nat) : cellP (hp w) b o = w.cell? ⟨b, o, none⟩ := by
  unfold cellP hp World.cell?
  cases h : w.heap[b]? with
  | none => simp
  | some x => cases x <;> simp
theorem cellP_box (b : Nat) (cs : List Value) (t : TypeId) (o : Nat) : cellP (box b cs t) b o = cs[o]? := by simp [cellP, box]
theorem cell_of {w : World} {h : PH} (l : PLe h (hp w)) {b o : Nat} {v : Value} (e : cellP h b o = some v) : w.cell? ⟨b, o, none⟩ = some v := by
  rw [← cellP_hp]; exact cellP.mono l e

/-- 'v' is a slice of 'n' elements of 'sz' cells each, whose cells in 'h' are 'cs'. -/
def RowR (cs : List Value) (n sz : Nat) (v : Value) (h : PH) : Prop :=
  cs.length = n * sz ∧ ∃ a c, v = .slice a n c ∧ (n ≤ maxLen ∧ n ≤ c) ∧ (0 < n * sz → ∃ b o, a = some ⟨b, o, none⟩ ∧ ∀ j u, cs[j]? = some u → cellP h b (o + j) = some u)
theorem RowR.mono {cs : List Value} {n sz : Nat} {v : Value} {h h' : PH} (r : RowR cs n sz v h) (l : PLe h h') : RowR cs n sz v h' := by
  obtain ⟨h1, a, c, h2, h3, h4⟩ := r; exact ⟨h1, a, c, h2, h3, fun hp => let ⟨b, o, e, f⟩ := h4 hp; ⟨b, o, e, fun j u hu => cellP.mono l (f j u hu)⟩⟩
/-- The address of a slice's cell number k. -/
def eltP (v : Value) (k : Nat) : Value := match v with
  | .slice (some a) _ _ => .pointer (some ⟨a.block, a.off + k, none⟩)
  | _ => .pointer none
/-- 'v' is a slice of length n. -/
def SlL (v : Value) (n : Nat) : Prop := ∃ a c, v = .slice a n c
theorem RowR.sl {cs : List Value} {n sz : Nat} {v : Value} {h : PH} (r : RowR cs n sz v h) : SlL v n := let ⟨_, a, c, e, _⟩ := r; ⟨a, c, e⟩

/-- 'v' is a slice that alone has its array, which is 'h': its cells are 'cs'. -/
def RowO (e : TypeId) (cs : List Value) (n sz : Nat) (v : Value) (h : PH) : Prop :=
  cs.length = n * sz ∧ ((v = .slice none 0 0 ∧ n = 0 ∧ h = emp) ∨
    ∃ g cap cur, v = .slice (some ⟨g, 0, none⟩) n cap ∧ h = box g cur e ∧ n ≤ cap ∧ cap ≤ maxLen ∧ cur.length = cap * sz ∧ cur.take (n * sz) = cs)
theorem RowO.toR {e : TypeId} {cs : List Value} {n sz : Nat} {v : Value} {h : PH} (r : RowO e cs n sz v h) : RowR cs n sz v h := by
  obtain ⟨h1, h2⟩ := r; refine ⟨h1, ?_⟩
  rcases h2 with ⟨rfl, rfl, rfl⟩ | ⟨g, cap, cur, rfl, rfl, h3, h4, h5, h6⟩
  · exact ⟨none, 0, rfl, ⟨by unfold maxLen; omega, Nat.le_refl _⟩, fun h => by omega⟩
  · refine ⟨_, _, rfl, ⟨Nat.le_trans h3 h4, h3⟩, fun _ => ⟨g, 0, rfl, fun j u hu => ?_⟩⟩; rw [cellP_box, Nat.zero_add]; rw [← h6, List.getElem?_take] at hu
    split at hu
    · exact hu
    · cases hu

def I64 (x : Int) : Prop := -9223372036854775808 ≤ x ∧ x ≤ 9223372036854775807
theorem I64.wrap {x : Int} (h : I64 x) : IntKind.i64.wrap x = x := IntWalk.i64_in x h

section
variable {P : Program} {n : Nat} {w0 : World} {K : Env} {HS : List PH} {d : Option Tmp} {ty : TypeId} {ps : String} {af : Array Edge} {g : Option (Nat × Bool)}

theorem v_move {x : Operand} {v : Value} (hx : ev K x = some v) : StepV P n w0 K HS ⟨d, .move x, ty, ps, af, g⟩ v := fun a w e _ => by simp [execOp, e.ev hx]
theorem v_assign {x : Operand} {v : Value} (hx : ev K x = some v) : StepV P n w0 K HS ⟨d, .assign x, ty, ps, af, g⟩ v := fun a w e _ => by simp [execOp, e.ev hx]
theorem v_pickt {c x y : Operand} {v : Value} (hc : ev K c = some (.bool true)) (hx : ev K x = some v) : StepV P n w0 K HS ⟨d, .pick c x y, ty, ps, af, g⟩ v := fun a w e _ => by simp [execOp, e.ev hx, e.ev hc, asBool]
theorem v_pickf {c x y : Operand} {v : Value} (hc : ev K c = some (.bool false)) (hx : ev K y = some v) : StepV P n w0 K HS ⟨d, .pick c x y, ty, ps, af, g⟩ v := fun a w e _ => by simp [execOp, e.ev hx, e.ev hc, asBool]

theorem v_add {t t' : TypeId} {x y : Operand} {a b : Int} (hx : ev K x = some (.int .i64 a)) (hy : ev K y = some (.int .i64 b)) (h : I64 (a + b)) : StepV P n w0 K HS ⟨d, .binOp .add t x y t', ty, ps, af, g⟩ (.int .i64 (a + b)) :=
  fun ac w e _ => by simp [execOp, e.ev hx, e.ev hy, eqGuard, binOp, Op.intArith, h.wrap]
theorem v_sub {t t' : TypeId} {x y : Operand} {a b : Int} (hx : ev K x = some (.int .i64 a)) (hy : ev K y = some (.int .i64 b)) (h : I64 (a - b)) : StepV P n w0 K HS ⟨d, .binOp .sub t x y t', ty, ps, af, g⟩ (.int .i64 (a - b)) :=
  fun ac w e _ => by simp [execOp, e.ev hx, e.ev hy, eqGuard, binOp, Op.intArith, h.wrap]
theorem v_mul {t t' : TypeId} {x y : Operand} {a b : Int} (hx : ev K x = some (.int .i64 a)) (hy : ev K y = some (.int .i64 b)) (h : I64 (a * b)) : StepV P n w0 K HS ⟨d, .binOp .mul t x y t', ty, ps, af, g⟩ (.int .i64 (a * b)) :=
  fun ac w e _ => by simp [execOp, e.ev hx, e.ev hy, eqGuard, binOp, Op.intArith, h.wrap]
/-- Whatever the size: the sum, wrapped. -/
theorem v_addw {t t' : TypeId} {x y : Operand} {k : IntKind} {a b : Int} (hx : ev K x = some (.int k a)) (hy : ev K y = some (.int k b)) : StepV P n w0 K HS ⟨d, .binOp .add t x y t', ty, ps, af, g⟩ (.int k (k.wrap (a + b))) :=
  fun ac w e _ => by simp [execOp, e.ev hx, e.ev hy, eqGuard, binOp, Op.intArith]
theorem v_mulw {t t' : TypeId} {x y : Operand} {k : IntKind} {a b : Int} (hx : ev K x = some (.int k a)) (hy : ev K y = some (.int k b)) : StepV P n w0 K HS ⟨d, .binOp .mul t x y t', ty, ps, af, g⟩ (.int k (k.wrap (a * b))) :=
  fun ac w e _ => by simp [execOp, e.ev hx, e.ev hy, eqGuard, binOp, Op.intArith]
theorem v_quo {t t' : TypeId} {x y : Operand} {a b : Int} (hx : ev K x = some (.int .i64 a)) (hy : ev K y = some (.int .i64 b)) (h0 : b ≠ 0) (h : I64 (a.tdiv b)) : StepV P n w0 K HS ⟨d, .binOp .quo t x y t', ty, ps, af, g⟩ (.int .i64 (a.tdiv b)) :=
  fun ac w e _ => by simp [execOp, e.ev hx, e.ev hy, eqGuard, binOp, Op.intDiv, h0, h.wrap]
theorem v_rem {t t' : TypeId} {x y : Operand} {k : IntKind} {a b : Int} (hx : ev K x = some (.int k a)) (hy : ev K y = some (.int k b)) (h0 : b ≠ 0) : StepV P n w0 K HS ⟨d, .binOp .rem t x y t', ty, ps, af, g⟩ (.int k (a.tmod b)) :=
  fun ac w e _ => by simp [execOp, e.ev hx, e.ev hy, eqGuard, binOp, Op.intDiv, h0]
theorem v_lss {t t' : TypeId} {x y : Operand} {k : IntKind} {a b : Int} (hx : ev K x = some (.int k a)) (hy : ev K y = some (.int k b)) : StepV P n w0 K HS ⟨d, .binOp .lss t x y t', ty, ps, af, g⟩ (.bool (decide (a < b))) :=
  fun ac w e _ => by simp [execOp, e.ev hx, e.ev hy, eqGuard, binOp, Op.intCmp]
theorem v_leq {t t' : TypeId} {x y : Operand} {k : IntKind} {a b : Int} (hx : ev K x = some (.int k a)) (hy : ev K y = some (.int k b)) : StepV P n w0 K HS ⟨d, .binOp .leq t x y t', ty, ps, af, g⟩ (.bool (decide (a ≤ b))) :=
  fun ac w e _ => by simp [execOp, e.ev hx, e.ev hy, eqGuard, binOp, Op.intCmp]
theorem v_gtr {t t' : TypeId} {x y : Operand} {k : IntKind} {a b : Int} (hx : ev K x = some (.int k a)) (hy : ev K y = some (.int k b)) : StepV P n w0 K HS ⟨d, .binOp .gtr t x y t', ty, ps, af, g⟩ (.bool (decide (b < a))) :=
  fun ac w e _ => by simp [execOp, e.ev hx, e.ev hy, eqGuard, binOp, Op.intCmp]
theorem v_geq {t t' : TypeId} {x y : Operand} {k : IntKind} {a b : Int} (hx : ev K x = some (.int k a)) (hy : ev K y = some (.int k b)) : StepV P n w0 K HS ⟨d, .binOp .geq t x y t', ty, ps, af, g⟩ (.bool (decide (b ≤ a))) :=
  fun ac w e _ => by simp [execOp, e.ev hx, e.ev hy, eqGuard, binOp, Op.intCmp]
theorem v_eql {t t' : TypeId} {x y : Operand} {k : IntKind} {a b : Int} (hx : ev K x = some (.int k a)) (hy : ev K y = some (.int k b)) : StepV P n w0 K HS ⟨d, .binOp .eql t x y t', ty, ps, af, g⟩ (.bool (decide (a = b))) :=
  fun ac w e _ => by
    have : (a == b) = decide (a = b) := by by_cases h : a = b <;> simp [h]
    simp [execOp, e.ev hx, e.ev hy, eqGuard, binOp, Op.intCmp, this]
theorem v_neq {t t' : TypeId} {x y : Operand} {k : IntKind} {a b : Int} (hx : ev K x = some (.int k a)) (hy : ev K y = some (.int k b)) : StepV P n w0 K HS ⟨d, .binOp .neq t x y t', ty, ps, af, g⟩ (.bool (decide (a ≠ b))) :=
  fun ac w e _ => by
    have : (a != b) = decide (a ≠ b) := by by_cases h : a = b <;> simp [h]
    simp [execOp, e.ev hx, e.ev hy, eqGuard, binOp, Op.intCmp, this]
theorem v_not {t : TypeId} {x : Operand} {b : Bool} (hx : ev K x = some (.bool b)) : StepV P n w0 K HS ⟨d, .unOp .not t x, ty, ps, af, g⟩ (.bool (!b)) := fun a w e _ => by simp [execOp, e.ev hx, Op.unary]
theorem ofInt_nat {a : Int} (h : 0 ≤ a) : BitVec.ofInt 64 a = BitVec.ofNat 64 a.toNat := by
  obtain ⟨m, rfl⟩ := Int.eq_ofNat_of_zero_le h
  simp
theorem toNat_ofInt {a : Int} (h : 0 ≤ a) (h1 : a ≤ 9223372036854775807) : (BitVec.ofInt 64 a).toNat = a.toNat := by
  rw [ofInt_nat h, BitVec.toNat_ofNat, Nat.mod_eq_of_lt]
  omega
theorem v_and {t t' : TypeId} {x y : Operand} {a b : Int} (hx : ev K x = some (.int .i64 a)) (hy : ev K y = some (.int .i64 b)) (h0 : 0 ≤ a ∧ a ≤ 9223372036854775807) (h1 : 0 ≤ b ∧ b ≤ 9223372036854775807) : StepV P n w0 K HS ⟨d, .binOp .and t x y t', ty, ps, af, g⟩ (.int .i64 ((a.toNat &&& b.toNat : Nat) : Int)) :=
  fun ac w e _ => by
    have hl : a.toNat &&& b.toNat ≤ a.toNat := Nat.and_le_left; have hw : IntKind.i64.wrap ((a.toNat &&& b.toNat : Nat) : Int) = ((a.toNat &&& b.toNat : Nat) : Int) := IntWalk.i64_in _ (by omega); have h5 : (Op.intBits .and .i64 a b).run P w = .ok (.int .i64 ((a.toNat &&& b.toNat : Nat) : Int)) w := by
      show Result.ok (Value.int .i64 (IntKind.i64.wrap ((BitVec.ofInt 64 a &&& BitVec.ofInt 64 b).toNat : Nat))) w = _
      rw [BitVec.toNat_and, toNat_ofInt h0.1 h0.2, toNat_ofInt h1.1 h1.2, hw]
    simp only [execOp, e.ev hx, e.ev hy, eqGuard, binOp, Sem.run_bind]; rw [show (if (!(match BinOp.and with | .eql => true | .neq => true | _ => false)) = true then (pure () : Sem Unit) else pure ()) = pure () by rfl]; rw [Sem.run_pure, Result.andThen_ok, if_neg (by simp), h5, Result.andThen_ok]
    rfl
theorem v_or {t t' : TypeId} {x y : Operand} {a b : Int} (hx : ev K x = some (.int .i64 a)) (hy : ev K y = some (.int .i64 b)) (h0 : 0 ≤ a ∧ a ≤ 9223372036854775807) (h1 : 0 ≤ b ∧ b ≤ 9223372036854775807) : StepV P n w0 K HS ⟨d, .binOp .or t x y t', ty, ps, af, g⟩ (.int .i64 ((a.toNat ||| b.toNat : Nat) : Int)) :=
  fun ac w e _ => by
    have hl : a.toNat ||| b.toNat < 2 ^ 63 := Nat.or_lt_two_pow (by omega) (by omega); have hw : IntKind.i64.wrap ((a.toNat ||| b.toNat : Nat) : Int) = ((a.toNat ||| b.toNat : Nat) : Int) := IntWalk.i64_in _ (by omega); have h5 : (Op.intBits .or .i64 a b).run P w = .ok (.int .i64 ((a.toNat ||| b.toNat : Nat) : Int)) w := by
      show Result.ok (Value.int .i64 (IntKind.i64.wrap ((BitVec.ofInt 64 a ||| BitVec.ofInt 64 b).toNat : Nat))) w = _
      rw [BitVec.toNat_or, toNat_ofInt h0.1 h0.2, toNat_ofInt h1.1 h1.2, hw]
    simp only [execOp, e.ev hx, e.ev hy, eqGuard, binOp, Sem.run_bind]; rw [show (if (!(match BinOp.or with | .eql => true | .neq => true | _ => false)) = true then (pure () : Sem Unit) else pure ()) = pure () by rfl]; rw [Sem.run_pure, Result.andThen_ok, if_neg (by simp), h5, Result.andThen_ok]
    rfl
theorem v_min {tys : Array TypeId} {x y : Operand} {a b : Int} (hx : ev K x = some (.int .i64 a)) (hy : ev K y = some (.int .i64 b)) : StepV P n w0 K HS ⟨d, .call ⟨.builtin .min, #[x, y], tys⟩, ty, ps, af, g⟩ (.int .i64 (min a b)) :=
  fun ac w e _ => by
    have : (if b < a then b else a) = min a b := by omega
    simp [execOp, resolve, invoke, builtin, Builtin.min_, e.ev hx, e.ev hy, Builtin.min2, this]
theorem v_max {tys : Array TypeId} {x y : Operand} {a b : Int} (hx : ev K x = some (.int .i64 a)) (hy : ev K y = some (.int .i64 b)) : StepV P n w0 K HS ⟨d, .call ⟨.builtin .max, #[x, y], tys⟩, ty, ps, af, g⟩ (.int .i64 (max a b)) :=
  fun ac w e _ => by
    have : (if a < b then b else a) = max a b := by omega
    simp [execOp, resolve, invoke, builtin, Builtin.max_, e.ev hx, e.ev hy, Builtin.max2, this]
theorem v_len {t ty' : TypeId} {x : Operand} {e' : TypeId} {v : Value} {m : Nat} (ht : P.underlying t = some (.slice e')) (hx : ev K x = some v) (hl : SlL v m) : StepV P n w0 K HS ⟨d, .call ⟨.builtin .len, #[x], #[t]⟩, ty', ps, af, g⟩ (.int .i64 m) :=
  fun a w e _ => by
    obtain ⟨ad, c, rfl⟩ := hl
    simp [execOp, resolve, invoke, builtin, Builtin.len_, e.ev hx, run_underlying ht, goInt]
end

section
variable {P : Program} {n : Nat} {w0 : World} {K : Env} {HS : List PH} {d : Option Tmp} {ty : TypeId} {ps : String} {af : Array Edge} {g : Option (Nat × Bool)}
theorem add_at (b o k : Nat) : (⟨b, o, none⟩ : Addr).add k = ⟨b, o + k, none⟩ := by unfold Addr.add; split <;> simp_all
/-- A field's place: its first cell and its type. -/
def fieldF (P : Program) (t : TypeId) (i : Nat) : Option (Nat × TypeId) := match P.underlying t with
  | some (.struct fs) => (fs[i]?).map fun f => (f.offset, f.type)
  | _ => none
theorem fieldF_get {t : TypeId} {i off : Nat} {sub : TypeId} (h : fieldF P t i = some (off, sub)) : ∃ fs f, P.underlying t = some (.struct fs) ∧ fs[i]? = some f ∧ f.offset = off ∧ f.type = sub := by
  unfold fieldF at h
  split at h
  · rename_i fs hu
    simp only [Option.map_eq_some_iff, Prod.mk.injEq] at h; obtain ⟨f, h1, h2, h3⟩ := h; exact ⟨fs, f, hu, h1, h2, h3⟩
  · cases h
theorem run_fieldAt {t : TypeId} {i off : Nat} {sub : TypeId} (h : fieldF P t i = some (off, sub)) {z : Value} {sz bytes : Nat} {agg : Bool} (hs : TyF P sub z sz bytes agg) (h0 : sz ≠ 0) (b o : Nat) (w : World) :
    (Instr.fieldAt t (.pointer (some ⟨b, o, none⟩)) i).run P w = .ok (.pointer (some ⟨b, o + off, none⟩)) w := by
  obtain ⟨fs, f, h1, h2, h3, h4⟩ := fieldF_get h; subst h3; subst h4
  simp [Instr.fieldAt, run_underlying h1, h2, Instr.sureAddr, fieldPlace, run_sizeOf hs, h0, add_at]
theorem v_fieldAddr {t : TypeId} {x : Operand} {i b o off : Nat} {sub : TypeId} {z : Value} {sz bytes : Nat} {agg : Bool} (h : fieldF P t i = some (off, sub)) (hs : TyF P sub z sz bytes agg) (h0 : sz ≠ 0)
    (hx : ev K x = some (.pointer (some ⟨b, o, none⟩))) : StepV P n w0 K HS ⟨d, .fieldAddr t x i, ty, ps, af, g⟩ (.pointer (some ⟨b, o + off, none⟩)) :=
  fun a w e _ => by simp [execOp, e.ev hx, run_fieldAt h hs h0]
/-- The address of a slice's cell is one, and of no array of length 0. -/
theorem eltP_ptr {cs : List Value} {m sz : Nat} {v : Value} {h : PH} (r : RowR cs m sz v h) {k : Nat} (hk : k < cs.length) : ∃ b o, eltP v k = .pointer (some ⟨b, o + k, none⟩) ∧ ∀ j u, cs[j]? = some u → cellP h b (o + j) = some u := by
  obtain ⟨h1, a, c, rfl, _, h4⟩ := r; obtain ⟨b, o, rfl, h5⟩ := h4 (by omega); exact ⟨b, o, rfl, h5⟩
theorem eltP_add {cs : List Value} {m sz : Nat} {v : Value} {h : PH} (r : RowR cs m sz v h) {k : Nat} (hk : k < cs.length) (j b o : Nat) (he : eltP v k = .pointer (some ⟨b, o, none⟩)) : eltP v (k + j) = .pointer (some ⟨b, o + j, none⟩) := by
  obtain ⟨h1, a, c, rfl, _, h4⟩ := r; obtain ⟨b', o', rfl, h5⟩ := h4 (by omega); simp only [eltP, Value.pointer.injEq, Option.some.injEq, Addr.mk.injEq, and_true] at he ⊢; exact ⟨he.1, by omega⟩
theorem v_fieldAddrE {t : TypeId} {x : Operand} {i k off : Nat} {sub : TypeId} {z : Value} {sz bytes : Nat} {agg : Bool} {v : Value} {cs : List Value} {m q : Nat} {hh : PH} (h : fieldF P t i = some (off, sub)) (hs : TyF P sub z sz bytes agg) (h0 : sz ≠ 0)
    (hx : ev K x = some (eltP v k)) (r : RowR cs m q v hh) (hk : k < cs.length) : StepV P n w0 K HS ⟨d, .fieldAddr t x i, ty, ps, af, g⟩ (eltP v (k + off)) :=
  fun a w e _ => by
    obtain ⟨b, o, he, _⟩ := eltP_ptr r hk; rw [eltP_add r hk off b _ he]; have hx' := e.ev hx; rw [he] at hx'
    simp [execOp, hx', run_fieldAt h hs h0]

theorem run_loadCellsFrom (a : Addr) (P : Program) (w : World) : ∀ (cs : List Value) (i : Nat) (acc : Array Value), (∀ j v, cs[j]? = some v → w.cell? (a.add (i + j)) = some v) →
    (loadCellsFrom a i cs.length acc).run P w = .ok (acc ++ cs.toArray) w
  | [], i, acc, _ => by simp [loadCellsFrom]
  | c :: cs, i, acc, h => by
    have h0 : w.cell? (a.add i) = some c := by simpa using h 0 c rfl
    have ih := run_loadCellsFrom a P w cs (i + 1) (acc.push c) (fun j v hv => by have := h (j + 1) v (by simpa using hv); rwa [show i + (j + 1) = i + 1 + j by omega] at this); simp only [List.length_cons, loadCellsFrom, Sem.run_bind, load, Sem.run, h0, Result.andThen_ok, ih]
    simp
theorem run_load1 {t : TypeId} {z : Value} {bytes : Nat} (ht : TyF P t z 1 bytes false) {b o : Nat} {v : Value} {w : World} (hc : w.cell? ⟨b, o, none⟩ = some v) : (Instr.loadAt t (.pointer (some ⟨b, o, none⟩))).run P w = .ok v w := by
  simp [Instr.loadAt, Instr.sureAddr, loadVar, run_isAgg ht, load, Sem.run, hc]
theorem run_loadN {t : TypeId} {z : Value} {sz bytes : Nat} (ht : TyF P t z sz bytes true) {b o : Nat} {cs : List Value} {w : World} (hl : cs.length = sz) (hc : ∀ j v, cs[j]? = some v → w.cell? ⟨b, o + j, none⟩ = some v) : (Instr.loadAt t (.pointer (some ⟨b, o, none⟩))).run P w = .ok (.agg cs.toArray) w := by
  have h := run_loadCellsFrom ⟨b, o, none⟩ P w cs 0 #[] (fun j v hv => by rw [add_at]; simpa using hc j v hv); rw [hl] at h
  simp [Instr.loadAt, Instr.sureAddr, loadVar, run_isAgg ht, run_sizeOf ht, loadCells, h]
/-- A load of one cell, out of the part number p. -/
theorem v_load {t : TypeId} {x : Operand} {z : Value} {bytes b o : Nat} {v : Value} {h : PH} (p : Nat) (ht : TyF P t z 1 bytes false) (hx : ev K x = some (.pointer (some ⟨b, o, none⟩))) (hp : HS[p]? = some h) (hc : cellP h b o = some v) :
    StepV P n w0 K HS ⟨d, .load t x, ty, ps, af, g⟩ v := fun a w e s => by
  simp [execOp, e.ev hx, run_load1 ht (cell_of (s.get p hp) hc)]
theorem v_loadB {t : TypeId} {x : Operand} {z : Value} {bytes b o : Nat} {v : Value} {cs : List Value} {bt : TypeId} (p : Nat) (ht : TyF P t z 1 bytes false) (hx : ev K x = some (.pointer (some ⟨b, o, none⟩))) (hp : HS[p]? = some (box b cs bt)) (hc : cs[o]? = some v) :
    StepV P n w0 K HS ⟨d, .load t x, ty, ps, af, g⟩ v := v_load p ht hx hp (by rw [cellP_box]; exact hc)
/-- A struct or an array as a whole. -/
theorem v_loadNB {t : TypeId} {x : Operand} {z : Value} {sz bytes b o : Nat} {us cs : List Value} {bt : TypeId} (p : Nat) (ht : TyF P t z sz bytes true) (hx : ev K x = some (.pointer (some ⟨b, o, none⟩))) (hp : HS[p]? = some (box b cs bt)) (hl : us.length = sz) (hc : (cs.drop o).take sz = us) :
    StepV P n w0 K HS ⟨d, .load t x, ty, ps, af, g⟩ (.agg us.toArray) := fun a w e s => by
  have : ∀ (j : Nat) (v : Value), us[j]? = some v → w.cell? ⟨b, o + j, none⟩ = some v := fun j v hv => by
    refine cell_of (s.get p hp) ?_; rw [cellP_box]; rw [← hc, List.getElem?_take] at hv
    split at hv
    · rwa [List.getElem?_drop] at hv
    · cases hv
  simp [execOp, e.ev hx, run_loadN ht hl this]
theorem v_loadE {t : TypeId} {x : Operand} {z : Value} {bytes k : Nat} {v u : Value} {cs : List Value} {m q : Nat} {h : PH} (p : Nat) (ht : TyF P t z 1 bytes false) (hx : ev K x = some (eltP v k)) (hp : HS[p]? = some h) (r : RowR cs m q v h) (hc : cs[k]? = some u) :
    StepV P n w0 K HS ⟨d, .load t x, ty, ps, af, g⟩ u := fun a w e s => by
  have hk : k < cs.length := (List.getElem?_eq_some_iff.1 hc).1; obtain ⟨b, o, he, h2⟩ := eltP_ptr r hk; have hx' := e.ev hx; rw [he] at hx'
  simp [execOp, hx', run_load1 ht (cell_of (s.get p hp) (h2 k u hc))]
theorem v_loadNE {t : TypeId} {x : Operand} {z : Value} {sz bytes k : Nat} {v : Value} {us cs : List Value} {m q : Nat} {h : PH} (p : Nat) (ht : TyF P t z sz bytes true) (hx : ev K x = some (eltP v k)) (hp : HS[p]? = some h) (r : RowR cs m q v h) (hk : k < cs.length) (hl : us.length = sz) (hc : (cs.drop k).take sz = us) :
    StepV P n w0 K HS ⟨d, .load t x, ty, ps, af, g⟩ (.agg us.toArray) := fun a w e s => by
  obtain ⟨b, o, he, h2⟩ := eltP_ptr r hk; have : ∀ (j : Nat) (v : Value), us[j]? = some v → w.cell? ⟨b, o + k + j, none⟩ = some v := fun j v hv => by
    refine cell_of (s.get p hp) ?_; rw [← hc, List.getElem?_take] at hv
    split at hv
    · rw [List.getElem?_drop] at hv; rw [Nat.add_assoc]; exact h2 _ _ hv
    · cases hv
  have hx' := e.ev hx; rw [he] at hx'
  simp [execOp, hx', run_loadN ht hl this]
/-- An element's address. -/
theorem v_indexAddr {t e' : TypeId} {x ix : Operand} {z : Value} {sz bytes : Nat} {agg : Bool} {v : Value} {k : IntKind} {i : Int} {cs : List Value} {m : Nat} {h : PH} (ht : P.underlying t = some (.slice e')) (he : TyF P e' z sz bytes agg)
    (hx : ev K x = some v) (hi : ev K ix = some (.int k i)) (r : RowR cs m sz v h) (hsz : sz ≠ 0) (h0 : 0 ≤ i) (h1 : i < m) : StepV P n w0 K HS ⟨d, .indexAddr t x ix, ty, ps, af, g⟩ (eltP v (i.toNat * sz)) := fun a w e _ => by
  obtain ⟨h2, ad, c, rfl, _, h4⟩ := r; have hm : 0 < m * sz := Nat.mul_pos (by omega) (by omega); obtain ⟨b, o, rfl, _⟩ := h4 hm
  simp [execOp, e.ev hx, e.ev hi, Instr.indexAt, asIntOf, run_underlying ht, h0, h1, run_sizeOf he, eltP, add_at]
/-- An array variable's element's address. -/
theorem v_indexAddrA {t e' : TypeId} {x ix : Operand} {z : Value} {sz bytes len b o : Nat} {agg : Bool} {k : IntKind} {i : Int} (ht : P.underlying t = some (.array len e')) (he : TyF P e' z sz bytes agg)
    (hx : ev K x = some (.pointer (some ⟨b, o, none⟩))) (hi : ev K ix = some (.int k i)) (h0 : 0 ≤ i) (h1 : i < len) : StepV P n w0 K HS ⟨d, .indexAddr t x ix, ty, ps, af, g⟩ (.pointer (some ⟨b, o + i.toNat * sz, none⟩)) := fun a w e _ => by
  simp [execOp, e.ev hx, e.ev hi, Instr.indexAt, asIntOf, run_underlying ht, h0, h1, run_sizeOf he, Instr.sureAddr, add_at]
/-- A field of a struct that is a value. -/
theorem v_field1 {t : TypeId} {x : Operand} {i off : Nat} {sub : TypeId} {z u : Value} {bytes : Nat} {cs : List Value} (h : fieldF P t i = some (off, sub)) (hs : TyF P sub z 1 bytes false)
    (hx : ev K x = some (.agg cs.toArray)) (hc : cs[off]? = some u) : StepV P n w0 K HS ⟨d, .field t x i, ty, ps, af, g⟩ u := fun a w e _ => by
  obtain ⟨fs, f, h1, h2, h3, h4⟩ := fieldF_get h; subst h3; subst h4
  simp [execOp, e.ev hx, Instr.field, run_underlying h1, h2, asAgg, part, run_isAgg hs, hc]
theorem v_extract {x : Operand} {i : Nat} {vs : List Value} {u : Value} (hx : ev K x = some (.tuple vs.toArray)) (hc : vs[i]? = some u) : StepV P n w0 K HS ⟨d, .extract x i, ty, ps, af, g⟩ u := fun a w e _ => by
  simp [execOp, e.ev hx, Instr.extract, hc]
end
end Go.Proofs.YtdkgaejmgnojhaaGreat
namespace Go.Proofs.YtdkgaejmgnojhaaGreat
open Go.RowKit

theorem upd_alloc (w : World) (cs : List Value) (t : TypeId) : Upd emp (box w.heap.size cs t) w (w.alloc (.cells cs.toArray t)) := by
  refine ⟨rfl, rfl, rfl, by simp, fun k hk _ => heap_alloc_old w _ hk, fun k o e => ?_, fun k o e => ?_⟩
  · simp only [box] at e
    split at e
    · rename_i hk; subst hk; cases e; exact heap_alloc_new w _
    · cases e
  · simp only [box] at e
    split at e
    · rename_i hk; right; omega
    · cases e
theorem upd_drew {h h' : PH} {w w' : World} (u : Upd h h' w.drew w') : Upd h h' w w' := ⟨u.os, u.tape, u.output, u.size, u.keep, u.le, u.dom⟩
theorem upd_setRow {w : World} {b : Nat} {cs : List Value} {t : TypeId} (l : PLe (box b cs t) (hp w)) (cs' : List Value) : Upd (box b cs t) (box b cs' t) w (w.setRow b cs'.toArray) := by
  have hb : w.heap[b]? = some (.cells cs.toArray t (0, 0)) := l b _ (by simp [box]); refine ⟨rfl, rfl, rfl, by simp, fun k hk hn => setRow_other w b k _ (fun e => ?_), fun k o e => ?_, fun k o e => ?_⟩
  · subst e; simp [box] at hn
  · simp only [box] at e
    split at e
    · rename_i hk; subst hk; cases e; exact setRow_heap w _ _ _ t _ hb
    · cases e
  · simp only [box] at e
    split at e
    · rename_i hk; left; subst hk; simp [box]
    · cases e

section
variable {P : Program} {n : Nat} {w0 : World} {K : Env} {HS : List PH} {d : Option Tmp} {ty : TypeId} {ps : String} {af : Array Edge} {g : Option (Nat × Bool)} {Q : Exit → Act → World → Prop}

theorem stepx_run {o : Oper} {h : PH} {T : Value → PH → Prop} (H : ∀ a w, EnvOK n K a → Sat w0 HS w → ∃ v w' h', (execOp a.eval o).run P w = .ok (.value v) w' ∧ Upd h h' w w' ∧ T v h') : StepX P n w0 K HS o h T := fun a w e s => by
  obtain ⟨v, w', h', hr, u, t⟩ := H a w e s
  unfold Oper.wp
  rw [hr]; exact ⟨v, h', rfl, u, t⟩
theorem stepx_skip {o : Oper} {h : PH} {T : Value → PH → Prop} (H : ∀ a w, EnvOK n K a → Sat w0 HS w → ∃ w' h', (execOp a.eval o).run P w = .ok .skip w' ∧ Upd h h' w w' ∧ T undef h') : StepX P n w0 K HS o h T := fun a w e s => by
  obtain ⟨w', h', hr, u, t⟩ := H a w e s
  unfold Oper.wp
  rw [hr]; exact ⟨undef, h', rfl, u, t⟩

/-- A pointer to a new variable with these cells. -/
def NewB (cs : List Value) (t : TypeId) (v : Value) (h : PH) : Prop := ∃ b, v = .pointer (some ⟨b, 0, none⟩) ∧ h = box b cs t
theorem x_alloc {t : TypeId} {z : Value} {sz bytes : Nat} {agg : Bool} {cs : List Value} (ht : TyF P t z sz bytes agg) (hc : z.cells = cs.toArray) : StepX P n w0 K HS ⟨d, .alloc t, ty, ps, af, g⟩ emp (NewB cs t) :=
  stepx_run fun a w _ _ => ⟨_, _, _, by simp [execOp, Instr.alloc, run_zero ht, newVar, newRow, hc], upd_alloc w cs t, _, rfl, rfl⟩
theorem x_box {t : TypeId} {x : Operand} {v : Value} {cs : List Value} (hx : ev K x = some v) (hc : v.cells = cs.toArray) : StepX P n w0 K HS ⟨d, .box t x, ty, ps, af, g⟩ emp (NewB cs t) :=
  stepx_run fun a w e _ => ⟨_, _, _, by simp [execOp, Instr.box, newVar, newRow, e.ev hx, hc], upd_alloc w cs t, _, rfl, rfl⟩

theorem madeCells_toList (zs : List Value) (m : Nat) : (madeCells zs.toArray (m * zs.length)).toList = (List.replicate m zs).flatten := by
  apply List.ext_getElem?
  intro j; simp only [madeCells, Array.toList_map, Array.toList_range, List.getElem?_map]
  by_cases hj : j < m * zs.length
  · have hpos : 0 < zs.length := by rcases Nat.eq_zero_or_pos zs.length with h | h <;> simp_all
    have hmod : j % zs.length < zs.length := Nat.mod_lt _ hpos; have : (List.replicate m zs).flatten[j]? = zs[j % zs.length]? := by
      clear hmod
      induction m generalizing j with
      | zero => simp at hj
      | succ m ih =>
        rw [List.replicate_succ, List.flatten_cons, List.getElem?_append]
        split
        · rename_i h; rw [Nat.mod_eq_of_lt h]
        · rename_i h
          rw [Nat.add_mul] at hj; have := ih (j - zs.length) (by omega); rw [this, ← Nat.mod_eq_sub_mod (by omega)]
    rw [this, List.getElem?_range hj]
    simp [hmod]
  · have h1 : (List.range (m * zs.length))[j]? = none := by rw [List.getElem?_eq_none]; simp; omega
    have h2 : (List.replicate m zs).flatten[j]? = none := by rw [List.getElem?_eq_none]; simp; omega
    rw [h1, h2]; rfl
/-- 'make([]T, m)'. -/
theorem x_make {t e' : TypeId} {x y : Operand} {z : Value} {sz bytes : Nat} {agg : Bool} {zs : List Value} {m : Int} (ht : P.underlying t = some (.slice e')) (he : TyF P e' z sz bytes agg) (hz : z.cells = zs.toArray) (hl : zs.length = sz)
    (hx : ev K x = some (.int .i64 m)) (hy : ev K y = some (.int .i64 m)) (h0 : 0 ≤ m) (h1 : bytes * m ≤ 281474976710656) (h2 : m ≤ 9223372036854775807) :
    StepX P n w0 K HS ⟨d, .makeSlice t x y, ty, ps, af, g⟩ emp (RowO e' (List.replicate m.toNat zs).flatten m.toNat sz) :=
  stepx_run fun a w e _ => by
    obtain ⟨i, hi, hz', hs, hb⟩ := he.get; subst hs; subst hb; have hr := run_make (P := P) w t e' i z ht hi hz' .i64 .i64 m m h0 (Int.le_refl _) h1 h2; have hm : madeCells z.cells (m.toNat * i.size) = ((List.replicate m.toNat zs).flatten).toArray := by
      rw [hz, ← hl, ← madeCells_toList]
    rw [hm] at hr; refine ⟨_, _, _, by simp [execOp, e.ev hx, e.ev hy, hr]; rfl, upd_alloc w _ e', by simp [hl], .inr ⟨_, _, _, rfl, rfl, Nat.le_refl _, by unfold maxLen; omega, by simp [hl], ?_⟩⟩; rw [List.take_of_length_le (by simp [hl])]
/-- 'make([]T, 0, m)'. -/
theorem x_make0 {t e' : TypeId} {x y : Operand} {z : Value} {sz bytes : Nat} {agg : Bool} {zs : List Value} {m : Int} (ht : P.underlying t = some (.slice e')) (he : TyF P e' z sz bytes agg) (hz : z.cells = zs.toArray) (hl : zs.length = sz)
    (hx : ev K x = some (.int .i64 0)) (hy : ev K y = some (.int .i64 m)) (h0 : 0 ≤ m) (h1 : bytes * m ≤ 281474976710656) (h2 : m ≤ 9223372036854775807) :
    StepX P n w0 K HS ⟨d, .makeSlice t x y, ty, ps, af, g⟩ emp (RowO e' [] 0 sz) :=
  stepx_run fun a w e _ => by
    obtain ⟨i, hi, hz', hs, hb⟩ := he.get; subst hs; subst hb; have hr := run_make (P := P) w t e' i z ht hi hz' .i64 .i64 0 m (Int.le_refl _) h0 h1 h2; have hm : madeCells z.cells (m.toNat * i.size) = ((List.replicate m.toNat zs).flatten).toArray := by
      rw [hz, ← hl, ← madeCells_toList]
    rw [hm] at hr; exact ⟨.slice (some ⟨w.heap.size, 0, none⟩) 0 m.toNat, w.alloc (.cells (List.replicate m.toNat zs).flatten.toArray e'), _, by simp [execOp, e.ev hx, e.ev hy, hr], upd_alloc w _ e', by simp, .inr ⟨_, _, _, rfl, rfl, Nat.zero_le _, by unfold maxLen; omega, by simp [hl], by simp⟩⟩

theorem oneCell_cells {v : Value} (h : v.oneCell' = true) : v.cells = #[v] := by cases v <;> first | rfl | cases h
theorem run_storeAt {t : TypeId} {z : Value} {sz bytes : Nat} {agg : Bool} (ht : TyF P t z sz bytes agg) {b o : Nat} {v : Value} {us cs : List Value} {bt : TypeId} {w : World} (hv : v.cells = us.toArray) (hl : us.length = sz) (h1 : ∀ u ∈ us, u.oneCell' = true)
    (l : PLe (box b cs bt) (hp w)) (ho : o + us.length ≤ cs.length) : (Instr.storeAt t (.pointer (some ⟨b, o, none⟩)) v).run P w = .ok () (w.setRow b (cs.take o ++ us ++ cs.drop (o + us.length)).toArray) := by
  have hb : w.heap[b]? = some (.cells cs.toArray bt (0, 0)) := l b _ (by simp [box]); have h := run_storeCells_at P b o bt us 0 cs.toArray w hb (by simpa using ho) h1; simp only [Nat.add_zero] at h
  simp [Instr.storeAt, Instr.sureAddr, storeVar, run_sizeOf ht, hv, hl, h]
/-- A store into a variable of the call's own, which is the part 'box b cs bt'. -/
theorem m_store {t : TypeId} {x y : Operand} {z : Value} {sz bytes : Nat} {agg : Bool} {b o : Nat} {v : Value} {us cs : List Value} {bt : TypeId} (p : Nat) (ht : TyF P t z sz bytes agg) (hx : ev K x = some (.pointer (some ⟨b, o, none⟩))) (hy : ev K y = some v)
    (hv : v.cells = us.toArray) (hl : us.length = sz) (h1 : ∀ u ∈ us, u.oneCell' = true) (hp' : HS[p]? = some (box b cs bt)) (ho : o + us.length ≤ cs.length) :
    StepX P n w0 K HS ⟨d, .store t x y, ty, ps, af, g⟩ (box b cs bt) (fun v' h' => v' = undef ∧ h' = box b (cs.take o ++ us ++ cs.drop (o + us.length)) bt) :=
  stepx_skip fun a w e s => ⟨_, _, by simp [execOp, e.ev hx, e.ev hy, run_storeAt ht hv hl h1 (s.get p hp') ho], upd_setRow (s.get p hp') _, rfl, rfl⟩
theorem set_eq_parts {cs : List Value} {o : Nat} {v : Value} (ho : o < cs.length) : cs.take o ++ [v] ++ cs.drop (o + 1) = cs.set o v := by
  rw [List.set_eq_take_append_cons_drop, if_pos ho]
  simp
/-- One cell. -/
theorem m_store1 {t : TypeId} {x y : Operand} {z : Value} {bytes : Nat} {b o : Nat} {v : Value} {cs : List Value} {bt : TypeId} (p : Nat) (ht : TyF P t z 1 bytes false) (hx : ev K x = some (.pointer (some ⟨b, o, none⟩))) (hy : ev K y = some v)
    (h1 : v.oneCell' = true) (hp' : HS[p]? = some (box b cs bt)) (ho : o < cs.length) :
    StepX P n w0 K HS ⟨d, .store t x y, ty, ps, af, g⟩ (box b cs bt) (fun v' h' => v' = undef ∧ h' = box b (cs.set o v) bt) := by
  rw [← set_eq_parts ho]; exact m_store p ht hx hy (us := [v]) (oneCell_cells h1) rfl (by simpa using h1) hp' (by simp; omega)
/-- A store into an element of a slice of the call's own. -/
theorem m_storeE {t e' : TypeId} {x y : Operand} {z : Value} {sz bytes : Nat} {agg : Bool} {k : Nat} {v sv : Value} {us cs : List Value} {m q : Nat} {h : PH} (p : Nat) (ht : TyF P t z sz bytes agg) (hx : ev K x = some (eltP sv k)) (hy : ev K y = some v)
    (hv : v.cells = us.toArray) (hl : us.length = sz) (h1 : ∀ u ∈ us, u.oneCell' = true) (hp' : HS[p]? = some h) (r : RowO e' cs m q sv h) (hs0 : sz ≠ 0) (hk : k + sz ≤ cs.length) :
    StepX P n w0 K HS ⟨d, .store t x y, ty, ps, af, g⟩ h (fun v' h' => v' = undef ∧ RowO e' (cs.take k ++ us ++ cs.drop (k + sz)) m q sv h') := by
  obtain ⟨hcl, hr⟩ := r
  rcases hr with ⟨rfl, rfl, rfl⟩ | ⟨gb, cap, cur, rfl, rfl, h3, h4, h5, h6⟩
  · simp at hcl; subst hcl; simp at hk; omega
  · have hmc : m * q ≤ cap * q := Nat.mul_le_mul_right _ h3; have hx' : ev K x = some (.pointer (some ⟨gb, k, none⟩)) := by rw [hx]; simp [eltP]
    have ho : k + us.length ≤ cur.length := by omega
    have H := m_store (P := P) (n := n) (w0 := w0) (HS := HS) (d := d) (ty := ty) (ps := ps) (af := af) (g := g) (bt := e') (cs := cur) p ht hx' hy hv hl h1 hp' ho; refine fun a w e s => Oper.wp_imp (H a w e s) (fun a' w' ⟨v', h', ha, u, hv', hh'⟩ => ⟨v', h', ha, u, hv', ?_, .inr ⟨gb, cap, _, rfl, hh', h3, h4, ?_, ?_⟩⟩) (fun _ _ _ f => f)
    · simp only [List.length_append, List.length_take, List.length_drop]; omega
    · simp only [List.length_append, List.length_take, List.length_drop]; omega
    · subst h6; subst hl; have e1 : List.take k (List.take (m * q) cur) = List.take k cur := by rw [List.take_take]; congr 1; omega
      rw [e1, List.take_append, List.take_append]; simp only [List.length_append, List.length_take]; rw [List.take_of_length_le (l := List.take k cur) (by simp; omega), List.take_of_length_le (l := us) (by omega)]
      congr 1
      rw [List.drop_take]
      congr 1
      omega

theorem cells_at {w : World} {h : PH} (l : PLe h (hp w)) {ns : List Value} {b o : Nat} (hn : ∀ j u, ns[j]? = some u → cellP h b (o + j) = some u) : ∀ j u, ns[j]? = some u → w.cell? ((⟨b, o, none⟩ : Addr).add j) = some u := fun j u hu => by
  rw [add_at]; exact cell_of l (hn j u hu)
theorem loadCells_none (P : Program) (w : World) (a : Addr) : (loadCells a 0).run P w = .ok #[] w := rfl
/-- 'append(s, x...)' on a slice of the call's own. -/
theorem m_append {t e' : TypeId} {x y : Operand} {z : Value} {sz bytes : Nat} {agg : Bool} {zs : List Value} {cs ns : List Value} {m k : Nat} {v u : Value} {h hy' : PH} (p q : Nat) (ht : P.underlying t = some (.slice e')) (he : TyF P e' z sz bytes agg) (hz : z.cells = zs.toArray) (hl : zs.length = sz) (hs0 : sz ≠ 0)
    (hx : ev K x = some v) (hy : ev K y = some u) (hp' : HS[p]? = some h) (r : RowO e' cs m sz v h) (hq : HS[q]? = some hy') (ru : RowR ns k sz u hy') (h1 : ∀ a ∈ ns, a.oneCell' = true)
    (h63 : m + k ≤ maxLen) (h47 : (m + k) * bytes ≤ 140737488355328) :
    StepX P n w0 K HS ⟨d, .call ⟨.builtin .append, #[x, y], #[t, t]⟩, ty, ps, af, g⟩ h (RowO e' (cs ++ ns) (m + k) sz) :=
  stepx_run fun a w e s => by
    obtain ⟨i, hi, hz', hsz, hb⟩ := he.get; subst hsz; subst hb; have hlen : m + k ≤ 9223372036854775807 := by unfold maxLen at h63; omega
    obtain ⟨hnl, ad, c, rfl, _, hna⟩ := ru; have hle := s.get p hp'; have hleq := s.get q hq; have ex : ∀ v' w', (Builtin.append_ #[t, t] ty #[v, .slice ad k c]).run P w = .ok v' w' → (execOp a.eval ⟨d, .call ⟨.builtin .append, #[x, y], #[t, t]⟩, ty, ps, af, g⟩).run P w = .ok (.value v') w' := fun v' w' hr => by
      simp [execOp, resolve, invoke, builtin, e.ev hx, e.ev hy, hr]
    obtain ⟨hcl, hr⟩ := r
    by_cases hk : k = 0
    · subst hk; have hns : ns = [] := List.eq_nil_of_length_eq_zero (by simpa using hnl); subst hns; refine ⟨v, w, h, ex _ _ ?_, ⟨rfl, rfl, rfl, Nat.le_refl _, fun _ _ _ => rfl, hle, fun j o ho => .inl (by rw [ho]; simp)⟩, by simpa using hcl, by simpa using hr⟩
      rcases hr with ⟨rfl, rfl, rfl⟩ | ⟨gb, cap, cur, rfl, rfl, h3, h4, h5, h6⟩
      · cases ad <;> simp [Builtin.append_, run_underlying ht, sizeOf, typeInfo, hi, Builtin.lenOf, Builtin.firstCells, loadCells_none]
      · cases ad <;> simp [Builtin.append_, run_underlying ht, sizeOf, typeInfo, hi, Builtin.lenOf, Builtin.firstCells, loadCells_none, h3, storeCells]
    · have hkz : 0 < k * i.size := Nat.mul_pos (by omega) (by omega); obtain ⟨b, o, rfl, hcell⟩ := hna hkz; have hnews := cells_at hleq hcell; have hlen' : (cs ++ ns).length = (m + k) * i.size := by rw [List.length_append, hcl, hnl, Nat.add_mul]
      have fresh : ∀ (need old : Nat) (xs : List Value), xs = cs ++ ns → need = m + k → need ≤ grownCap w need old e' →
          (∃ w' h', w' = w.drew.alloc (.cells (xs ++ (Builtin.zeroCells z.cells (grownCap w need old e' - need)).toList).toArray e') ∧ Upd h h' w w' ∧ RowO e' (cs ++ ns) (m + k) i.size (.slice (some ⟨w.heap.size, 0, none⟩) need (grownCap w need old e')) h') := fun need old xs hxs hneed hge => by
        subst hxs; subst hneed; have u1 := upd_drew (upd_alloc w.drew (cs ++ ns ++ (Builtin.zeroCells z.cells (grownCap w (m + k) old e' - (m + k))).toList) e'); refine ⟨_, _, rfl, ⟨u1.os, u1.tape, u1.output, u1.size, fun j hj _ => u1.keep j hj rfl, u1.le, fun j o' ho' => .inr ((u1.dom j o' ho').resolve_left (by simp [emp]))⟩, hlen', .inr ⟨_, _, _, rfl, rfl, hge, grownCap_le_maxLen w _ old e' h63, ?_, ?_⟩⟩
        · have hzs : z.cells.size = i.size := by rw [hz]; simpa using hl
          simp only [List.length_append, hcl, hnl, Array.length_toList, size_zeroCells, hzs, ← Nat.add_mul]
          congr 1
          omega
        · rw [← hlen']; exact List.take_left
      rcases hr with ⟨rfl, rfl, rfl⟩ | ⟨gb, cap, cur, rfl, rfl, h3, h4, h5, h6⟩
      · have hcs : cs = [] := List.eq_nil_of_length_eq_zero (by simpa using hcl); subst hcs; have h63' : ((k : Nat) : Int) ≤ 9223372036854775807 := by omega
        have hr := run_append_nil (P := P) w t ty e' i z ht hi hz' ⟨b, o, none⟩ k c ns hnl hnews (by omega) h63' (by simp only [Nat.zero_add] at h47; omega); obtain ⟨w', h', hw', u1, ro⟩ := fresh k 0 ns (by simp) (by simp) (grownCap_ge w k 0 e'); refine ⟨_, w', h', ex _ _ ?_, u1, ro⟩; rw [hr, hw']
        congr 3
        simp
      · have hgb : w.heap[gb]? = some (.cells cur.toArray e' (0, 0)) := hle gb _ (by simp [box])
        by_cases hroom : m + k ≤ cap
        · have hfit : m * i.size + ns.length ≤ cur.toArray.size := by
            rw [hnl, ← Nat.add_mul]; simp only [List.size_toArray, h5]; exact Nat.mul_le_mul_right _ hroom
          have hr := run_append_room (P := P) w t ty e' i ht hi gb m cap cur.toArray hgb ⟨b, o, none⟩ k c ns hnl hnews h1 hroom hfit; refine ⟨_, _, _, ex _ _ hr, upd_setRow hle _, hlen', .inr ⟨gb, cap, _, rfl, rfl, hroom, h4, ?_, ?_⟩⟩
          · simp only [List.length_append, List.length_take, List.length_drop]; simp only [List.size_toArray] at hfit
            omega
          · show List.take ((m + k) * i.size) (List.take (m * i.size) cur ++ ns ++ List.drop (m * i.size + ns.length) cur) = cs ++ ns
            rw [h6, ← hlen']; exact List.take_left
        · have holds : ∀ j u, cs[j]? = some u → w.cell? ((⟨gb, 0, none⟩ : Addr).add j) = some u := fun j u hu => by
            rw [add_at, Nat.zero_add]; refine cell_of hle ?_; rw [cellP_box]; rw [← h6, List.getElem?_take] at hu
            split at hu
            · exact hu
            · cases hu
          have hr := run_append_grow (P := P) w t ty e' i z ht hi hz' ⟨gb, 0, none⟩ m cap cs hcl holds ⟨b, o, none⟩ k c ns hnl hnews (by omega) (by omega) (growslice_fits (by omega) h47); obtain ⟨w', h', hw', u1, ro⟩ := fresh (m + k) cap (cs ++ ns) rfl rfl (grownCap_ge w (m + k) cap e'); refine ⟨_, w', h', ex _ _ ?_, u1, ro⟩; rw [hr, hw']
          congr 3
          simp

structure EnterOK (P : Program) (f : FuncId) : Prop where
  ok : ∃ fn, P.funcs[f]? = some fn ∧ (fn.name == "runtime.NumGoroutine") = false ∧ fn.body.isNone = false
theorem x_call {f : FuncId} {xs : Array Operand} {tys : Array TypeId} {vs : List Value} {h : PH} {T : Value → PH → Prop} (hev : evs K xs.toList = some vs) (hen : EnterOK P f)
    (hc : ∀ w, Sat w0 HS w → Calls P f vs.toArray w (Ret w h T)) : StepX P n w0 K HS ⟨d, .call ⟨.value (.func f), xs, tys⟩, ty, ps, af, g⟩ h T := fun a w e s => by
  obtain ⟨fn, h1, h2, h3⟩ := hen.ok; have hargs : xs.map a.eval = vs.toArray := by
    apply Array.ext'
    simpa using e.evs hev
  have hr : (execOp a.eval ⟨d, .call ⟨.value (.func f), xs, tys⟩, ty, ps, af, g⟩).run P w = .ok (.enter f vs.toArray) w := by
    have h2' : ¬ fn.name = "runtime.NumGoroutine" := by simpa using h2
    have h3' : ¬ fn.body = none := fun hh => by rw [hh] at h3; cases h3
    simp [execOp, resolve, invoke, hargs, Act.eval, Deferred.ofValue, callFunc, h1, h2', h3']
  unfold Oper.wp
  rw [hr]; refine (hc w s).mono fun en w' ⟨v, h', he, u, t⟩ => ?_; subst he; exact ⟨v, h', rfl, u, t⟩
theorem RetV.ret {w : World} {u : Value} {e : Ending} {w' : World} (h : RetV w u e w') : Ret w emp (fun v _ => v = u) e w' := ⟨u, emp, h.1, h.2, rfl⟩
/-- A call whose answer is known. -/
theorem x_callv {f : FuncId} {xs : Array Operand} {tys : Array TypeId} {vs : List Value} {u : Value} (hev : evs K xs.toList = some vs) (hen : EnterOK P f)
    (hc : ∀ w, Sat w0 HS w → Calls P f vs.toArray w (RetV w u)) : StepX P n w0 K HS ⟨d, .call ⟨.value (.func f), xs, tys⟩, ty, ps, af, g⟩ emp (fun v _ => v = u) :=
  x_call hev hen fun w s => (hc w s).mono fun _ _ h => h.ret

def enumK : Nat → List Value → Env
  | _, [] => []
  | i, v :: r => (i, v) :: enumK (i + 1) r
theorem enumK_lookup : ∀ (vs : List Value) (i t : Nat) (v : Value), (enumK i vs).lookup t = some v → i ≤ t ∧ vs[t - i]? = some v
  | [], i, t, v, h => by simp [enumK] at h
  | u :: r, i, t, v, h => by
    rw [enumK, lookup_cons] at h
    split at h
    · rename_i e; subst e; cases h; simp
    · rename_i e
      obtain ⟨h1, h2⟩ := enumK_lookup r (i + 1) t v h; refine ⟨by omega, ?_⟩; rw [show t - i = (t - (i + 1)) + 1 by omega]
      simpa using h2
theorem calls_in {f : FuncId} {fn : Func} {c : Code} {vs : List Value} {w : World} {R : Ending → World → Prop} {HS : List PH} (hf : P.funcs[f]? = some fn) (hb : fn.body = some c) (hn : fn.ntmps = n) (hl : Nat.ble vs.length n = true)
    (s : Sat w HS w) (h : WP P n w c (bodyPost P fn R) (enumK 0 vs) HS) : Calls P f vs.toArray w R := by
  have hl := Nat.le_of_ble_eq_true hl; refine calls_of_wp hf hb (h _ w ⟨rfl, ?_, fun t v ht => ?_⟩ s)
  · simp [hn]; omega
  · have h2 := (enumK_lookup vs 0 t v ht).2; have hlt : t < vs.length := (List.getElem?_eq_some_iff.1 (by simpa using h2)).1; rw [Array.getElem?_append_left (by simpa using hlt)]
    simpa using h2
theorem qs_ret1 {fn : Func} {R : Ending → World → Prop} {t : Tmp} {v : Value} (hr : fn.results = #[.tmp t]) (hk : K.lookup t = some v) (h : ∀ w, Sat w0 HS w → R (.returned v) w) : QS n w0 (bodyPost P fn R) .ret K HS := fun a w e s => by
  refine bodyPost_ret (v := v) ?_ e.1 (h w s); rw [results_tmp hr]
  simp [e.2.2 t v hk]
theorem qs_ret2 {fn : Func} {R : Ending → World → Prop} {t u : Tmp} {v v' : Value} (hr : fn.results = #[.tmp t, .tmp u]) (hk : K.lookup t = some v) (hk' : K.lookup u = some v') (h : ∀ w, Sat w0 HS w → R (.returned (.tuple #[v, v'])) w) : QS n w0 (bodyPost P fn R) .ret K HS := fun a w e s => by
  refine bodyPost_ret (v := .tuple #[v, v']) ?_ e.1 (h w s); rw [results_tmp2 hr]
  simp [e.2.2 t v hk, e.2.2 u v' hk']
theorem qs_ret3 {fn : Func} {R : Ending → World → Prop} {t u x : Tmp} {v v' v'' : Value} (hr : fn.results = #[.tmp t, .tmp u, .tmp x]) (hk : K.lookup t = some v) (hk' : K.lookup u = some v') (hk'' : K.lookup x = some v'') (h : ∀ w, Sat w0 HS w → R (.returned (.tuple #[v, v', v''])) w) : QS n w0 (bodyPost P fn R) .ret K HS := fun a w e s => by
  refine bodyPost_ret (v := .tuple #[v, v', v'']) ?_ e.1 (h w s)
  simp [results, hr, e.2.2 t v hk, e.2.2 u v' hk', e.2.2 x v'' hk'']
theorem run_loadVarB {t : TypeId} {z : Value} {sz bytes : Nat} (ht : TyF P t z sz bytes true) {b p : Nat} {us : List Value} {bt : TypeId} {w : World} (s : Sat w0 HS w) (hp' : HS[p]? = some (box b us bt)) (hl : us.length = sz) : (loadVar t ⟨b, 0, none⟩).run P w = .ok (.agg us.toArray) w := by
  have := run_loadN (P := P) ht (b := b) (o := 0) (cs := us) (w := w) hl (fun j v hv => cell_of (s.get p hp') (by rw [cellP_box, Nat.zero_add]; exact hv))
  simpa [Instr.loadAt, Instr.sureAddr] using this
/-- One result, which lies in a variable of the call's own. -/
theorem qs_retc {fn : Func} {R : Ending → World → Prop} {t : Tmp} {rt : TypeId} {z : Value} {sz bytes b : Nat} {us : List Value} {bt : TypeId} (p : Nat) (hr : fn.results = #[.cell t rt]) (ht : TyF P rt z sz bytes true) (hk : K.lookup t = some (.pointer (some ⟨b, 0, none⟩))) (hp' : HS[p]? = some (box b us bt)) (hl : us.length = sz)
    (h : ∀ w, Sat w0 HS w → R (.returned (.agg us.toArray)) w) : QS n w0 (bodyPost P fn R) .ret K HS := fun a w e s => by
  refine bodyPost_ret (v := .agg us.toArray) ?_ e.1 (h w s)
  simp [results, hr, e.2.2 t _ hk, asAddr, run_loadVarB ht s hp' hl]
theorem qs_retct {fn : Func} {R : Ending → World → Prop} {t u : Tmp} {v : Value} {rt : TypeId} {z : Value} {sz bytes b : Nat} {us : List Value} {bt : TypeId} (p : Nat) (hr : fn.results = #[.cell t rt, .tmp u]) (ht : TyF P rt z sz bytes true) (hk : K.lookup t = some (.pointer (some ⟨b, 0, none⟩))) (hk' : K.lookup u = some v) (hp' : HS[p]? = some (box b us bt)) (hl : us.length = sz)
    (h : ∀ w, Sat w0 HS w → R (.returned (.tuple #[.agg us.toArray, v])) w) : QS n w0 (bodyPost P fn R) .ret K HS := fun a w e s => by
  refine bodyPost_ret (v := .tuple #[.agg us.toArray, v]) ?_ e.1 (h w s)
  simp [results, hr, e.2.2 t _ hk, e.2.2 u v hk', asAddr, run_loadVarB ht s hp' hl]
theorem qs_ret0 {fn : Func} {R : Ending → World → Prop} (hr : fn.results = #[]) (h : ∀ w, Sat w0 HS w → R (.returned (.tuple #[])) w) : QS n w0 (bodyPost P fn R) .normal K HS := fun _ w e s => bodyPost_end (results_none hr _ _ _) e.1 (h w s)
/-- Behind the call nothing that was there has turned. -/
theorem Sat.updE {w : World} (s : Sat w0 HS w) {i : Nat} (hi : HS[i]? = some (hp w0)) {hn : PH} (hj : hn = emp ∨ ∃ j, HS[j]? = some hn ∧ j ≠ i) : Upd emp hn w0 w := by
  refine ⟨s.os, s.tape, s.output, s.size, fun k hk _ => ?_, ?_, fun k o ho => .inr ?_⟩
  · have h1 : hp w0 k = some w0.heap[k] := by simp [hp, hk]
    have h2 := s.get i hi k _ h1; have h3 : w0.heap[k]? = some w0.heap[k] := by simp [hk]
    rw [h3]; exact h2
  · rcases hj with rfl | ⟨j, hj, _⟩
    · exact PLe.emp _
    · exact s.get j hj
  · rcases hj with rfl | ⟨j, hj, hne⟩
    · cases ho
    · rcases sepL_get s.sep hj hi hne k with h1 | h1
      · rw [h1] at ho; cases ho
      · simp only [hp, Array.getElem?_eq_none_iff] at h1; exact h1
theorem fin_v {i : Nat} {u : Value} (hi : HS[i]? = some (hp w0)) : ∀ w, Sat w0 HS w → RetV w0 u (.returned u) w := fun _ s => ⟨rfl, s.updE hi (.inl rfl)⟩
theorem fin_q {i : Nat} {u u' : Value} (hi : HS[i]? = some (hp w0)) (e : u' = u) : ∀ w, Sat w0 HS w → RetV w0 u (.returned u') w := e ▸ fin_v hi
theorem fin_t {i : Nat} (j : Nat) {hn : PH} {u : Value} {T : Value → PH → Prop} (hi : HS[i]? = some (hp w0)) (hj : HS[j]? = some hn) (hne : decide (j ≠ i) = true) (t : T u hn) : ∀ w, Sat w0 HS w → Ret w0 emp T (.returned u) w := fun _ s => ⟨u, hn, rfl, s.updE hi (.inr ⟨j, hj, of_decide_eq_true hne⟩), t⟩
theorem fin_e {i : Nat} {u : Value} {T : Value → PH → Prop} (hi : HS[i]? = some (hp w0)) (t : T u emp) : ∀ w, Sat w0 HS w → Ret w0 emp T (.returned u) w := fun _ s => ⟨u, emp, rfl, s.updE hi (.inl rfl), t⟩

/-- What stands besides a part. -/
def restP (w : World) (h : PH) : PH := fun k => match h k with | some _ => none | none => hp w k
theorem Sat.start2 {w : World} {h : PH} (l : PLe h (hp w)) : Sat w [h, restP w h] w := by
  refine ⟨rfl, rfl, rfl, Nat.le_refl _, ⟨fun x hx k => ?_, ⟨by simp, trivial⟩⟩, fun x hx => ?_⟩
  · simp only [List.mem_singleton] at hx; subst hx
    unfold restP
    cases h k <;> simp
  · simp only [List.mem_cons, List.not_mem_nil, or_false] at hx
    rcases hx with rfl | rfl
    · exact l
    · intro k o e
      unfold restP at e
      split at e
      · cases e
      · exact e
theorem Sat.updM {w : World} {h : PH} (s : Sat w0 HS w) {i : Nat} (hi : HS[i]? = some (restP w0 h)) {h' : PH} {j : Nat} (hj : HS[j]? = some h') (hne : j ≠ i) : Upd h h' w0 w := by
  refine ⟨s.os, s.tape, s.output, s.size, fun k hk hn => ?_, s.get j hj, fun k o ho => ?_⟩
  · have h1 : restP w0 h k = some w0.heap[k] := by simp [restP, hn, hp, hk]
    have h2 := s.get i hi k _ h1; have h3 : w0.heap[k]? = some w0.heap[k] := by simp [hk]
    rw [h3]; exact h2
  · rcases sepL_get s.sep hj hi hne k with h1 | h1
    · rw [h1] at ho; cases ho
    · unfold restP at h1
      split at h1
      · rename_i x hx; left; rw [hx]; simp
      · right; simpa [hp] using h1
theorem fin_m {i : Nat} (j : Nat) {h h' : PH} {u : Value} {T : Value → PH → Prop} (hi : HS[i]? = some (restP w0 h)) (hj : HS[j]? = some h') (hne : decide (j ≠ i) = true) (t : T u h') : ∀ w, Sat w0 HS w → Ret w0 h T (.returned u) w := fun _ s => ⟨u, h', rfl, s.updM hi hj (of_decide_eq_true hne), t⟩

/-- The slots of 'K'' hold in 'K'. -/
def SubK (K : Env) : Env → Prop
  | [] => True
  | (t, v) :: r => K.lookup t = some v ∧ SubK K r
theorem SubK.lookup {K : Env} : ∀ {K' : Env}, SubK K K' → ∀ t v, K'.lookup t = some v → K.lookup t = some v
  | [], _, t, v, h => by simp at h
  | (t', v') :: r, hs, t, v, h => by
    rw [lookup_cons] at h
    split at h
    · rename_i e; subst e; cases h; exact hs.1
    · exact SubK.lookup hs.2 t v h
theorem EnvOK.sub {K' : Env} {a : Act} (e : EnvOK n K a) (h : SubK K K') : EnvOK n K' a := ⟨e.1, e.2.1, fun t v ht => e.2.2 t v (h.lookup t v ht)⟩
theorem qs_s {e : Exit} (HS' : List PH) (h : ∀ w, Sat w0 HS w → Sat w0 HS' w) (k : QS n w0 Q e K HS') : QS n w0 Q e K HS := fun a w en s => k a w en (h w s)
def Back {σ : Type} (n : Nat) (w0 : World) (Kf : σ → Env) (Hf : σ → List PH) (φ : σ → Prop) (μ : σ → Nat) (b : Nat) : Act → World → Prop :=
  fun a w => ∃ s, φ s ∧ μ s < b ∧ EnvOK n (Kf s) a ∧ Sat w0 (Hf s) w
theorem wp_lp {σ : Type} {c : Code} (Kf : σ → Env) (Hf : σ → List PH) (φ : σ → Prop) (μ : σ → Nat) (s0 : σ) (h0 : φ s0) (hk : SubK K (Kf s0)) (hs : ∀ w, Sat w0 HS w → Sat w0 (Hf s0) w)
    (round : ∀ s, φ s → WP P n w0 c (Exit.then (Back n w0 Kf Hf φ μ (μ s)) Q) (Kf s) (Hf s)) : WP P n w0 (.loop c) Q K HS := fun a w e s => by
  refine wp_loop_ghost (fun b a w => ∃ st, μ st = b ∧ φ st ∧ EnvOK n (Kf st) a ∧ Sat w0 (Hf st) w) (μ s0) ⟨s0, rfl, h0, e.sub hk, hs w s⟩ ?_; rintro b a w ⟨st, rfl, h1, h2, h3⟩; refine Code.wp_mono (fun en a' w' q => ?_) (round st h1 a w h2 h3)
  cases en with
  | normal => obtain ⟨st', g1, g2, g3, g4⟩ := q; exact ⟨μ st', g2, st', rfl, g1, g3, g4⟩
  | exit id => exact q
  | goto l => exact q
  | ret => exact q
  | panic ch => exact q
  | outgrown => exact q
/-- The round's end. -/
theorem qs_bk {σ : Type} {Kf : σ → Env} {Hf : σ → List PH} {φ : σ → Prop} {μ : σ → Nat} {b : Nat} (s : σ) (h0 : φ s) (hm : μ s < b) (hk : SubK K (Kf s)) (hs : ∀ w, Sat w0 HS w → Sat w0 (Hf s) w) :
    QS n w0 (Exit.then (Back n w0 Kf Hf φ μ b) Q) .normal K HS := fun _ w e st => ⟨s, h0, hm, e.sub hk, hs w st⟩

theorem EnvOK.shadow {a : Act} {t : Tmp} {v : Value} (e : EnvOK n K a) (hk : K.lookup t = some v) : EnvOK n ((t, v) :: K) a := ⟨e.1, e.2.1, fun u x hu => by
  rw [lookup_cons] at hu
  split at hu
  · rename_i h; subst h; cases hu; exact e.2.2 _ _ hk
  · exact e.2.2 _ _ hu⟩
theorem sq_bd {ops : Array Oper} {rest : List Oper} {p : Prop} [Decidable p] (t : Tmp) (hk : K.lookup t = some (.bool (decide p))) (h1 : p → SQ P n w0 ops rest Q ((t, .bool true) :: K) HS) (h2 : ¬ p → SQ P n w0 ops rest Q ((t, .bool false) :: K) HS) : SQ P n w0 ops rest Q K HS := fun a w e s => by
  by_cases hp : p
  · exact h1 hp a w (e.shadow (by rw [hk]; simp [hp])) s
  · exact h2 hp a w (e.shadow (by rw [hk]; simp [hp])) s
theorem sq_bb {ops : Array Oper} {rest : List Oper} {b : Bool} (t : Tmp) (hk : K.lookup t = some (.bool b)) (h1 : b = true → SQ P n w0 ops rest Q ((t, .bool true) :: K) HS) (h2 : b = false → SQ P n w0 ops rest Q ((t, .bool false) :: K) HS) : SQ P n w0 ops rest Q K HS := fun a w e s => by
  cases b
  · exact h2 rfl a w (e.shadow hk) s
  · exact h1 rfl a w (e.shadow hk) s
theorem rj_bd {ops : Array Oper} {m : Nat} {r : List (Nat × Bool)} {listed : Array Bool} {p : Prop} [Decidable p] (t : Tmp) (hk : K.lookup t = some (.bool (decide p))) (h1 : p → RJ P n w0 ops m Q r listed ((t, .bool true) :: K) HS) (h2 : ¬ p → RJ P n w0 ops m Q r listed ((t, .bool false) :: K) HS) : RJ P n w0 ops m Q r listed K HS := fun x y z a w e s => by
  by_cases hp : p
  · exact h1 hp x y z a w (e.shadow (by rw [hk]; simp [hp])) s
  · exact h2 hp x y z a w (e.shadow (by rw [hk]; simp [hp])) s
theorem rj_bb {ops : Array Oper} {m : Nat} {r : List (Nat × Bool)} {listed : Array Bool} {b : Bool} (t : Tmp) (hk : K.lookup t = some (.bool b)) (h1 : b = true → RJ P n w0 ops m Q r listed ((t, .bool true) :: K) HS) (h2 : b = false → RJ P n w0 ops m Q r listed ((t, .bool false) :: K) HS) : RJ P n w0 ops m Q r listed K HS := fun x y z a w e s => by
  cases b
  · exact h2 rfl x y z a w (e.shadow hk) s
  · exact h1 rfl x y z a w (e.shadow hk) s
theorem wp_cSd {t : Tmp} {x y : Code} {p : Prop} [Decidable p] (hk : K.lookup t = some (.bool (decide p))) (h1 : p → WP P n w0 x Q ((t, .bool true) :: K) HS) (h2 : ¬ p → WP P n w0 y Q ((t, .bool false) :: K) HS) : WP P n w0 (.cond (.tmp t) x y) Q K HS := fun a w e s => by
  by_cases hp : p
  · exact wp_ct (K := (t, .bool true) :: K) (by simp [ev]) (h1 hp) a w (e.shadow (by rw [hk]; simp [hp])) s
  · exact wp_cf (K := (t, .bool false) :: K) (by simp [ev]) (h2 hp) a w (e.shadow (by rw [hk]; simp [hp])) s
theorem wp_cn {c : Operand} {x y : Code} (b : Bool) (hc : ev K c = some (.bool (!b))) (h1 : b = false → WP P n w0 x Q K HS) (h2 : b = true → WP P n w0 y Q K HS) : WP P n w0 (.cond c x y) Q K HS :=
  wp_cb _ hc (fun h => h1 (by simpa using h)) (fun h => h2 (by simpa using h))
theorem wp_cnd {c : Operand} {x y : Code} {p : Prop} [Decidable p] (hc : ev K c = some (.bool (!decide p))) (h1 : ¬ p → WP P n w0 x Q K HS) (h2 : p → WP P n w0 y Q K HS) : WP P n w0 (.cond c x y) Q K HS :=
  wp_cb _ hc (fun h => h1 (by simpa using h)) (fun h => h2 (by simpa using h))
end
end Go.Proofs.YtdkgaejmgnojhaaGreat
namespace Go.Proofs.YtdkgaejmgnojhaaGreat
open Go.RowKit
section
variable {P : Program} {n : Nat} {w0 : World} {K : Env} {HS : List PH} {d : Option Tmp} {ty : TypeId} {ps : String} {af : Array Edge} {g : Option (Nat × Bool)}
theorem maxDepth_succ : ∃ d, Op.maxDepth = d + 1 := ⟨9999, rfl⟩
theorem run_equalb {t : TypeId} {a b : Bool} {w : World} (ht : P.underlying t = some .bool) : (Op.equal t (.bool a) (.bool b)).run P w = .ok (a == b) w := by
  obtain ⟨d, hd⟩ := maxDepth_succ; rw [Op.equal, hd]
  simp [Op.equalIn, run_underlying ht]
theorem v_eqlb {t t' : TypeId} {x y : Operand} {a b : Bool} (ht : P.underlying t = some .bool) (hx : ev K x = some (.bool a)) (hy : ev K y = some (.bool b)) : StepV P n w0 K HS ⟨d, .binOp .eql t x y t', ty, ps, af, g⟩ (.bool (decide (a = b))) :=
  fun ac w e _ => by
    have : (a == b) = decide (a = b) := by by_cases h : a = b <;> simp [h]
    simp only [execOp, e.ev hx, e.ev hy, eqGuard, binOp, Sem.run_bind, run_equalb ht, this, Sem.run_pure, Result.andThen_ok, Bool.not_true, Bool.false_eq_true, if_false]
theorem v_neqb {t t' : TypeId} {x y : Operand} {a b : Bool} (ht : P.underlying t = some .bool) (hx : ev K x = some (.bool a)) (hy : ev K y = some (.bool b)) : StepV P n w0 K HS ⟨d, .binOp .neq t x y t', ty, ps, af, g⟩ (.bool (decide (a ≠ b))) :=
  fun ac w e _ => by
    have : (!(a == b)) = decide (a ≠ b) := by cases a <;> cases b <;> rfl
    simp only [execOp, e.ev hx, e.ev hy, eqGuard, binOp, Sem.run_bind, run_equalb ht, this, Sem.run_pure, Result.andThen_ok, Bool.not_true, Bool.false_eq_true, if_false]
def subV (v : Value) (lo hi sz : Nat) : Value := match v with
  | .slice a _ c => sliced a lo hi c sz
  | _ => v
theorem RowR.sub {cs : List Value} {m sz : Nat} {v : Value} {h : PH} (r : RowR cs m sz v h) {lo hi : Nat} (h1 : lo ≤ hi) (h2 : hi ≤ m) : RowR ((cs.drop (lo * sz)).take ((hi - lo) * sz)) (hi - lo) sz (subV v lo hi sz) h := by
  obtain ⟨hl, a, c, rfl, ⟨h3, h3'⟩, h4⟩ := r; have hm : hi * sz ≤ m * sz := Nat.mul_le_mul_right _ h2; have hlo : lo * sz ≤ hi * sz := Nat.mul_le_mul_right _ h1; refine ⟨by simp only [List.length_take, List.length_drop, hl, Nat.sub_mul]; omega, _, _, rfl, ⟨by omega, by omega⟩, fun hp' => ?_⟩; rw [Nat.sub_mul] at hp'; obtain ⟨b, o, rfl, h5⟩ := h4 (by omega); have hne : lo < hi := by
    rcases Nat.lt_or_ge lo hi with h | h
    · exact h
    · have : lo = hi := by omega
      subst this; omega
  refine ⟨b, o + lo * sz, ?_, fun j u hu => ?_⟩
  · rw [if_neg (by omega)]
    simp [add_at]
  · rw [List.getElem?_take] at hu
    split at hu
    · rw [List.getElem?_drop] at hu; rw [Nat.add_assoc]; exact h5 _ _ hu
    · cases hu
theorem und_elem {t e' : TypeId} (ht : P.underlying t = some (.slice e')) : P.elem t = e' := by simp [Program.elem, ht]
theorem v_sliceLH {t e' : TypeId} {x lo hi : Operand} {z : Value} {sz bytes m : Nat} {agg : Bool} {cs : List Value} {v : Value} {kl kh : IntKind} {l u : Int} {h : PH} (ht : P.underlying t = some (.slice e')) (he : TyF P e' z sz bytes agg) (hx : ev K x = some v)
    (hlo : ev K lo = some (.int kl l)) (hhi : ev K hi = some (.int kh u)) (r : RowR cs m sz v h) (h0 : 0 ≤ l) (h1 : l ≤ u) (h2 : u ≤ m) : StepV P n w0 K HS ⟨d, .slice t x (some lo) (some hi) none, ty, ps, af, g⟩ (subV v l.toNat u.toNat sz) := fun a w e _ => by
  obtain ⟨_, ad, c, rfl, ⟨_, h3⟩, _⟩ := r; have ht' : P.underlying t = some (.slice (P.elem t)) := by rw [und_elem ht]; exact ht
  have he' : (sizeOf (P.elem t)).run P w = .ok sz w := by rw [und_elem ht]; exact run_sizeOf he w
  simp [execOp, e.ev hx, e.ev hlo, e.ev hhi, run_sliceAt_slice w t _ _ _ _ ht', run_slice_lh w t ad m c ht' kl kh l u h0 h1 (by omega), he', subV]
theorem v_sliceH {t e' : TypeId} {x hi : Operand} {z : Value} {sz bytes m : Nat} {agg : Bool} {cs : List Value} {v : Value} {kh : IntKind} {u : Int} {h : PH} (ht : P.underlying t = some (.slice e')) (he : TyF P e' z sz bytes agg) (hx : ev K x = some v)
    (hhi : ev K hi = some (.int kh u)) (r : RowR cs m sz v h) (h0 : 0 ≤ u) (h2 : u ≤ m) : StepV P n w0 K HS ⟨d, .slice t x none (some hi) none, ty, ps, af, g⟩ (subV v 0 u.toNat sz) := fun a w e _ => by
  obtain ⟨_, ad, c, rfl, ⟨_, h3⟩, _⟩ := r; have ht' : P.underlying t = some (.slice (P.elem t)) := by rw [und_elem ht]; exact ht
  have he' : (sizeOf (P.elem t)).run P w = .ok sz w := by rw [und_elem ht]; exact run_sizeOf he w
  simp [execOp, e.ev hx, e.ev hhi, run_sliceAt_slice w t _ _ _ _ ht', run_slice_h w t ad m c ht' kh u h0 (by omega), he', subV]
def evP (K : Env) : List (Nat × Operand) → Option (List (Nat × Value))
  | [] => some []
  | (i, x) :: r => match ev K x, evP K r with
    | some v, some vs => some ((i, v) :: vs)
    | _, _ => none
theorem EnvOK.evP {a : Act} (h : EnvOK n K a) : ∀ {xs : List (Nat × Operand)} {vs : List (Nat × Value)}, Proofs.YtdkgaejmgnojhaaGreat.evP K xs = some vs → (xs.map fun p => (p.1, a.eval p.2)) = vs
  | [], vs, hx => by simp only [Proofs.YtdkgaejmgnojhaaGreat.evP, Option.some.injEq] at hx; simp [← hx]
  | (i, x) :: r, vs, hx => by
    simp only [Proofs.YtdkgaejmgnojhaaGreat.evP] at hx
    split at hx
    · rename_i v us h1 h2
      cases hx
      simp [h.ev h1, EnvOK.evP h h2]
    · cases hx
theorem v_build {t : TypeId} {parts : Array (Nat × Operand)} {vs : List (Nat × Value)} (cs : List Value) (hev : evP K parts.toList = some vs) (hb : P.built t vs = some cs.toArray) : StepV P n w0 K HS ⟨d, .build t parts, ty, ps, af, g⟩ (.agg cs.toArray) := fun a w e _ => by
  have hp1 : (parts.map fun x => (x.1, a.eval x.2)) = vs.toArray := by
    apply Array.ext'
    simpa using e.evP hev
  have hr := run_build (P := P) w t vs.toArray cs.toArray (by simpa using hb)
  simp [execOp, hp1, hr]
/-- A slice literal: its elements' cells, side by side. -/
theorem x_buildS {t e' : TypeId} {len : Nat} {parts : Array (Nat × Operand)} {z : Value} {sz bytes : Nat} {agg : Bool} {ps' : List (Nat × Value)} (vs : List Value) (ht : P.underlying t = some (.slice e')) (he : TyF P e' z sz bytes agg) (h0 : sz ≠ 0)
    (hev : evP K parts.toList = some ps') (hps : ps' = (vs.zipIdx 0).map fun x => (x.2, x.1)) (hlen : vs.length = len) (hpos : len ≠ 0) (hsm : len * sz ≤ 16777216) (h1 : ∀ v ∈ vs, v.cells.size = sz) :
    StepX P n w0 K HS ⟨d, .buildSlice t len parts, ty, ps, af, g⟩ emp (RowO e' (vs.flatMap fun v => v.cells.toList) len sz) :=
  stepx_run fun a w e _ => by
    obtain ⟨i, hi, hz', hs, hb⟩ := he.get; subst hs; have hp1 : (parts.map fun x => (x.1, a.eval x.2)) = ps'.toArray := by
      apply Array.ext'
      simpa using e.evP hev
    have hlp : len * i.size ≠ 0 := Nat.mul_ne_zero hpos h0; have hf := Great.fill_whole (s := i.size) (by omega) vs ((Array.range (len * i.size)).map (z.cells[· % z.cells.size]!)) h1 (by simp [hlen]); have hr := run_buildSlice (P := P) w t e' len ps'.toArray _ i z ht hi hz' (by omega) hlp (by rw [← hf, hps]); have hfl : (vs.flatMap fun v => v.cells.toList).length = len * i.size := by
      rw [← hlen]
      clear hf hr hps hlen
      induction vs with
      | nil => simp
      | cons x r ih =>
        rw [List.flatMap_cons, List.length_append, ih (fun v hv => h1 v (by simp [hv])), Array.length_toList, h1 x (by simp), List.length_cons, Nat.add_mul]
        omega
    refine ⟨_, _, _, by simp [execOp, hp1, hr], upd_alloc w _ e', hfl, .inr ⟨_, _, _, rfl, rfl, Nat.le_refl _, by unfold maxLen; have := Nat.le_mul_of_pos_right len (Nat.pos_of_ne_zero h0); omega, hfl, ?_⟩⟩; rw [← hfl, List.take_length]
/-- A slice literal without elements. -/
theorem x_build0 {t e' : TypeId} {z : Value} {sz bytes : Nat} {agg : Bool} (ht : P.underlying t = some (.slice e')) (he : TyF P e' z sz bytes agg) : StepX P n w0 K HS ⟨d, .buildSlice t 0 #[], ty, ps, af, g⟩ emp (RowO e' [] 0 sz) :=
  stepx_run fun a w e _ => by
    obtain ⟨i, hi, hz', hs, hb⟩ := he.get; subst hs; refine ⟨.slice (some ⟨w.heap.size, 0, none⟩) 0 0, w.alloc (.cells #[] e'), _, ?_, upd_alloc w [] e', by simp, .inr ⟨_, 0, [], rfl, rfl, Nat.le_refl _, by unfold maxLen; omega, by simp, by simp⟩⟩
    simp [execOp, Instr.buildSlice, run_underlying ht, sizeOf, typeInfo, hi, Instr.fill, newRow, show Array.range 0 = #[] from rfl]
theorem emp_sat {w : World} (s : Sat w0 HS w) : Sat w0 (emp :: HS) w := ⟨s.os, s.tape, s.output, s.size, ⟨fun _ _ => PDj.emp _, s.sep⟩, fun h hh => by
  rcases List.mem_cons.1 hh with rfl | hh
  · exact PLe.emp _
  · exact s.le h hh⟩
theorem stepx_emp {o : Oper} {T : Value → PH → Prop} (h : StepX P n w0 K (emp :: HS) o emp T) : StepX P n w0 K HS o emp T := fun a w e s => h a w e (emp_sat s)
theorem v_shl {t t' : TypeId} {x y : Operand} {yk : IntKind} {a b : Int} (hx : ev K x = some (.int .i64 a)) (hy : ev K y = some (.int yk b)) (h0 : 0 ≤ b) (h1 : b ≤ 64) (h2 : I64 (a * 2 ^ b.toNat)) : StepV P n w0 K HS ⟨d, .binOp .shl t x y t', ty, ps, af, g⟩ (.int .i64 (a * 2 ^ b.toNat)) :=
  fun ac w e _ => by
    have h2' : ¬ b < 0 := by omega
    have h3 : min b.toNat IntKind.i64.bits = b.toNat := by have : IntKind.i64.bits = 64 := rfl; omega
    have h5 : (Op.shift .shl .i64 a yk b).run P w = .ok (.int .i64 (a * 2 ^ b.toNat)) w := by
      unfold Op.shift
      rw [if_neg h2']; simp only [h3, h2.wrap]
      rfl
    simp only [execOp, e.ev hx, e.ev hy, eqGuard, binOp, Sem.run_bind]; rw [show (if (!(match BinOp.shl with | .eql => true | .neq => true | _ => false)) = true then (pure () : Sem Unit) else pure ()) = pure () by rfl]; rw [Sem.run_pure, Result.andThen_ok, h5, Result.andThen_ok]
    rfl
/-- An element of an array that is a value. -/
theorem v_indexA {t e' : TypeId} {x ix : Operand} {z u : Value} {bytes len : Nat} {k : IntKind} {i : Int} {cs : List Value} (ht : P.underlying t = some (.array len e')) (he : TyF P e' z 1 bytes false)
    (hx : ev K x = some (.agg cs.toArray)) (hi : ev K ix = some (.int k i)) (h0 : 0 ≤ i) (h1 : i < len) (hc : cs[i.toNat]? = some u) : StepV P n w0 K HS ⟨d, .index t x ix, ty, ps, af, g⟩ u := fun a w e _ => by
  simp [execOp, e.ev hx, e.ev hi, Instr.index, asIntOf, run_underlying ht, h0, h1, run_sizeOf he, part, run_isAgg he, hc]
theorem SlL.one {v : Value} {m : Nat} (h : SlL v m) : v.oneCell' = true := by obtain ⟨_, _, rfl⟩ := h; rfl
theorem one_int (k : IntKind) (x : Int) : (Value.int k x).oneCell' = true := rfl
variable {Q : Exit → Act → World → Prop}
theorem sq_bn {ops : Array Oper} {rest : List Oper} {b : Bool} (t : Tmp) (hk : K.lookup t = some (.bool (!b))) (h1 : b = false → SQ P n w0 ops rest Q ((t, .bool true) :: K) HS) (h2 : b = true → SQ P n w0 ops rest Q ((t, .bool false) :: K) HS) : SQ P n w0 ops rest Q K HS :=
  sq_bb t hk (fun h => h1 (by simpa using h)) (fun h => h2 (by simpa using h))
theorem sq_bnd {ops : Array Oper} {rest : List Oper} {p : Prop} [Decidable p] (t : Tmp) (hk : K.lookup t = some (.bool (!decide p))) (h1 : ¬ p → SQ P n w0 ops rest Q ((t, .bool true) :: K) HS) (h2 : p → SQ P n w0 ops rest Q ((t, .bool false) :: K) HS) : SQ P n w0 ops rest Q K HS :=
  sq_bb t hk (fun h => h1 (by simpa using h)) (fun h => h2 (by simpa using h))
end
end Go.Proofs.YtdkgaejmgnojhaaGreat
namespace Go.Proofs.YtdkgaejmgnojhaaGreat
theorem ty_3 : TyF Tryz.prog 3 (.int .i64 0) 1 8 false := ⟨by kernel_rfl, by kernel_rfl⟩
theorem ty_5 : TyF Tryz.prog 5 (.int .u8 0) 1 1 false := ⟨by kernel_rfl, by kernel_rfl⟩
theorem ty_22 : TyF Tryz.prog 22 (.slice none 0 0) 1 24 false := ⟨by kernel_rfl, by kernel_rfl⟩
theorem ty_24 : TyF Tryz.prog 24 (.agg #[.int .i64 0, .int .i64 0, .int .i64 0]) 3 24 true := ⟨by kernel_rfl, by kernel_rfl⟩
theorem fd_24_0 : fieldF Tryz.prog 24 0 = some (0, 3) := by kernel_rfl
theorem fd_24_1 : fieldF Tryz.prog 24 1 = some (1, 3) := by kernel_rfl
theorem fd_24_2 : fieldF Tryz.prog 24 2 = some (2, 3) := by kernel_rfl
theorem ty_25 : TyF Tryz.prog 25 (.slice none 0 0) 1 24 false := ⟨by kernel_rfl, by kernel_rfl⟩
theorem ty_26 : TyF Tryz.prog 26 (.slice none 0 0) 1 24 false := ⟨by kernel_rfl, by kernel_rfl⟩
theorem ty_28 : TyF Tryz.prog 28 (.agg #[.int .i64 0, .int .i64 0, .int .i64 0, .slice none 0 0, .slice none 0 0]) 5 72 true := ⟨by kernel_rfl, by kernel_rfl⟩
theorem fd_28_0 : fieldF Tryz.prog 28 0 = some (0, 24) := by kernel_rfl
theorem fd_28_1 : fieldF Tryz.prog 28 1 = some (3, 25) := by kernel_rfl
theorem fd_28_2 : fieldF Tryz.prog 28 2 = some (4, 26) := by kernel_rfl
theorem ty_40 : TyF Tryz.prog 40 (.agg #[.slice none 0 0, .slice none 0 0, .slice none 0 0]) 3 72 true := ⟨by kernel_rfl, by kernel_rfl⟩
theorem fd_40_0 : fieldF Tryz.prog 40 0 = some (0, 26) := by kernel_rfl
theorem fd_40_1 : fieldF Tryz.prog 40 1 = some (1, 26) := by kernel_rfl
theorem fd_40_2 : fieldF Tryz.prog 40 2 = some (2, 26) := by kernel_rfl
theorem ty_51 : TyF Tryz.prog 51 (.slice none 0 0) 1 24 false := ⟨by kernel_rfl, by kernel_rfl⟩
theorem ty_60 : TyF Tryz.prog 60 (.agg (List.replicate 100 (.int .i64 0 : Value)).toArray) 100 800 true := ⟨by kernel_rfl, by kernel_rfl⟩
theorem fd_80_0 : fieldF Tryz.prog 80 0 = some (0, 22) := by kernel_rfl
theorem fd_80_1 : fieldF Tryz.prog 80 1 = some (1, 3) := by kernel_rfl
theorem fd_80_2 : fieldF Tryz.prog 80 2 = some (2, 3) := by kernel_rfl
theorem ty_92 : TyF Tryz.prog 92 (.agg #[.int .i64 0, .int .i64 0]) 2 16 true := ⟨by kernel_rfl, by kernel_rfl⟩
theorem fd_92_0 : fieldF Tryz.prog 92 0 = some (0, 3) := by kernel_rfl
theorem fd_92_1 : fieldF Tryz.prog 92 1 = some (1, 3) := by kernel_rfl
theorem ty_129 : TyF Tryz.prog 129 (.slice none 0 0) 1 24 false := ⟨by kernel_rfl, by kernel_rfl⟩
theorem fd_131_1 : fieldF Tryz.prog 131 1 = some (100, 26) := by kernel_rfl
theorem fd_131_2 : fieldF Tryz.prog 131 2 = some (101, 129) := by kernel_rfl
theorem fd_131_3 : fieldF Tryz.prog 131 3 = some (102, 3) := by kernel_rfl
theorem ty_133 : TyF Tryz.prog 133 (.agg #[.int .i64 0, .slice none 0 0]) 2 32 true := ⟨by kernel_rfl, by kernel_rfl⟩
theorem fd_133_0 : fieldF Tryz.prog 133 0 = some (0, 3) := by kernel_rfl
theorem fd_133_1 : fieldF Tryz.prog 133 1 = some (1, 26) := by kernel_rfl
theorem en_4 : EnterOK Tryz.prog 4 := ⟨_, Tryz.func4, by kernel_rfl, rfl⟩
theorem en_5 : EnterOK Tryz.prog 5 := ⟨_, Tryz.func5, by kernel_rfl, rfl⟩
theorem en_6 : EnterOK Tryz.prog 6 := ⟨_, Tryz.func6, by kernel_rfl, rfl⟩
theorem en_7 : EnterOK Tryz.prog 7 := ⟨_, Tryz.func7, by kernel_rfl, rfl⟩
theorem en_8 : EnterOK Tryz.prog 8 := ⟨_, Tryz.func8, by kernel_rfl, rfl⟩
theorem en_9 : EnterOK Tryz.prog 9 := ⟨_, Tryz.func9, by kernel_rfl, rfl⟩
theorem en_10 : EnterOK Tryz.prog 10 := ⟨_, Tryz.func10, by kernel_rfl, rfl⟩
theorem en_11 : EnterOK Tryz.prog 11 := ⟨_, Tryz.func11, by kernel_rfl, rfl⟩
theorem en_12 : EnterOK Tryz.prog 12 := ⟨_, Tryz.func12, by kernel_rfl, rfl⟩
theorem en_13 : EnterOK Tryz.prog 13 := ⟨_, Tryz.func13, by kernel_rfl, rfl⟩
theorem en_14 : EnterOK Tryz.prog 14 := ⟨_, Tryz.func14, by kernel_rfl, rfl⟩
theorem en_15 : EnterOK Tryz.prog 15 := ⟨_, Tryz.func15, by kernel_rfl, rfl⟩
theorem en_16 : EnterOK Tryz.prog 16 := ⟨_, Tryz.func16, by kernel_rfl, rfl⟩
theorem en_17 : EnterOK Tryz.prog 17 := ⟨_, Tryz.func17, by kernel_rfl, rfl⟩
theorem en_18 : EnterOK Tryz.prog 18 := ⟨_, Tryz.func18, by kernel_rfl, rfl⟩
theorem en_19 : EnterOK Tryz.prog 19 := ⟨_, Tryz.func19, by kernel_rfl, rfl⟩
theorem en_20 : EnterOK Tryz.prog 20 := ⟨_, Tryz.func20, by kernel_rfl, rfl⟩
theorem en_21 : EnterOK Tryz.prog 21 := ⟨_, Tryz.func21, by kernel_rfl, rfl⟩
theorem en_22 : EnterOK Tryz.prog 22 := ⟨_, Tryz.func22, by kernel_rfl, rfl⟩
theorem en_23 : EnterOK Tryz.prog 23 := ⟨_, Tryz.func23, by kernel_rfl, rfl⟩
theorem en_24 : EnterOK Tryz.prog 24 := ⟨_, Tryz.func24, by kernel_rfl, rfl⟩
theorem en_25 : EnterOK Tryz.prog 25 := ⟨_, Tryz.func25, by kernel_rfl, rfl⟩
theorem en_26 : EnterOK Tryz.prog 26 := ⟨_, Tryz.func26, by kernel_rfl, rfl⟩
theorem en_27 : EnterOK Tryz.prog 27 := ⟨_, Tryz.func27, by kernel_rfl, rfl⟩
theorem en_28 : EnterOK Tryz.prog 28 := ⟨_, Tryz.func28, by kernel_rfl, rfl⟩
theorem en_29 : EnterOK Tryz.prog 29 := ⟨_, Tryz.func29, by kernel_rfl, rfl⟩
theorem en_30 : EnterOK Tryz.prog 30 := ⟨_, Tryz.func30, by kernel_rfl, rfl⟩
theorem en_31 : EnterOK Tryz.prog 31 := ⟨_, Tryz.func31, by kernel_rfl, rfl⟩
theorem en_32 : EnterOK Tryz.prog 32 := ⟨_, Tryz.func32, by kernel_rfl, rfl⟩
theorem en_33 : EnterOK Tryz.prog 33 := ⟨_, Tryz.func33, by kernel_rfl, rfl⟩
theorem en_34 : EnterOK Tryz.prog 34 := ⟨_, Tryz.func34, by kernel_rfl, rfl⟩
theorem en_35 : EnterOK Tryz.prog 35 := ⟨_, Tryz.func35, by kernel_rfl, rfl⟩
theorem en_36 : EnterOK Tryz.prog 36 := ⟨_, Tryz.func36, by kernel_rfl, rfl⟩
theorem en_37 : EnterOK Tryz.prog 37 := ⟨_, Tryz.func37, by kernel_rfl, rfl⟩
theorem en_38 : EnterOK Tryz.prog 38 := ⟨_, Tryz.func38, by kernel_rfl, rfl⟩
theorem en_39 : EnterOK Tryz.prog 39 := ⟨_, Tryz.func39, by kernel_rfl, rfl⟩
theorem en_40 : EnterOK Tryz.prog 40 := ⟨_, Tryz.func40, by kernel_rfl, rfl⟩
theorem en_41 : EnterOK Tryz.prog 41 := ⟨_, Tryz.func41, by kernel_rfl, rfl⟩
theorem en_42 : EnterOK Tryz.prog 42 := ⟨_, Tryz.func42, by kernel_rfl, rfl⟩
theorem en_43 : EnterOK Tryz.prog 43 := ⟨_, Tryz.func43, by kernel_rfl, rfl⟩
theorem en_44 : EnterOK Tryz.prog 44 := ⟨_, Tryz.func44, by kernel_rfl, rfl⟩
theorem en_45 : EnterOK Tryz.prog 45 := ⟨_, Tryz.func45, by kernel_rfl, rfl⟩
theorem en_46 : EnterOK Tryz.prog 46 := ⟨_, Tryz.func46, by kernel_rfl, rfl⟩
theorem en_47 : EnterOK Tryz.prog 47 := ⟨_, Tryz.func47, by kernel_rfl, rfl⟩
theorem en_48 : EnterOK Tryz.prog 48 := ⟨_, Tryz.func48, by kernel_rfl, rfl⟩
theorem en_49 : EnterOK Tryz.prog 49 := ⟨_, Tryz.func49, by kernel_rfl, rfl⟩
theorem en_50 : EnterOK Tryz.prog 50 := ⟨_, Tryz.func50, by kernel_rfl, rfl⟩
theorem en_51 : EnterOK Tryz.prog 51 := ⟨_, Tryz.func51, by kernel_rfl, rfl⟩
theorem en_52 : EnterOK Tryz.prog 52 := ⟨_, Tryz.func52, by kernel_rfl, rfl⟩
theorem en_53 : EnterOK Tryz.prog 53 := ⟨_, Tryz.func53, by kernel_rfl, rfl⟩
theorem en_54 : EnterOK Tryz.prog 54 := ⟨_, Tryz.func54, by kernel_rfl, rfl⟩
theorem en_55 : EnterOK Tryz.prog 55 := ⟨_, Tryz.func55, by kernel_rfl, rfl⟩
theorem en_56 : EnterOK Tryz.prog 56 := ⟨_, Tryz.func56, by kernel_rfl, rfl⟩
theorem en_57 : EnterOK Tryz.prog 57 := ⟨_, Tryz.func57, by kernel_rfl, rfl⟩
theorem en_58 : EnterOK Tryz.prog 58 := ⟨_, Tryz.func58, by kernel_rfl, rfl⟩
theorem en_59 : EnterOK Tryz.prog 59 := ⟨_, Tryz.func59, by kernel_rfl, rfl⟩
theorem en_60 : EnterOK Tryz.prog 60 := ⟨_, Tryz.func60, by kernel_rfl, rfl⟩
theorem en_61 : EnterOK Tryz.prog 61 := ⟨_, Tryz.func61, by kernel_rfl, rfl⟩
theorem en_62 : EnterOK Tryz.prog 62 := ⟨_, Tryz.func62, by kernel_rfl, rfl⟩
theorem en_63 : EnterOK Tryz.prog 63 := ⟨_, Tryz.func63, by kernel_rfl, rfl⟩
theorem en_64 : EnterOK Tryz.prog 64 := ⟨_, Tryz.func64, by kernel_rfl, rfl⟩
theorem en_65 : EnterOK Tryz.prog 65 := ⟨_, Tryz.func65, by kernel_rfl, rfl⟩
theorem en_66 : EnterOK Tryz.prog 66 := ⟨_, Tryz.func66, by kernel_rfl, rfl⟩
theorem en_67 : EnterOK Tryz.prog 67 := ⟨_, Tryz.func67, by kernel_rfl, rfl⟩
theorem en_68 : EnterOK Tryz.prog 68 := ⟨_, Tryz.func68, by kernel_rfl, rfl⟩
theorem en_69 : EnterOK Tryz.prog 69 := ⟨_, Tryz.func69, by kernel_rfl, rfl⟩
theorem en_70 : EnterOK Tryz.prog 70 := ⟨_, Tryz.func70, by kernel_rfl, rfl⟩
theorem en_71 : EnterOK Tryz.prog 71 := ⟨_, Tryz.func71, by kernel_rfl, rfl⟩
theorem en_72 : EnterOK Tryz.prog 72 := ⟨_, Tryz.func72, by kernel_rfl, rfl⟩
theorem en_73 : EnterOK Tryz.prog 73 := ⟨_, Tryz.func73, by kernel_rfl, rfl⟩
theorem en_74 : EnterOK Tryz.prog 74 := ⟨_, Tryz.func74, by kernel_rfl, rfl⟩
theorem en_75 : EnterOK Tryz.prog 75 := ⟨_, Tryz.func75, by kernel_rfl, rfl⟩
theorem en_76 : EnterOK Tryz.prog 76 := ⟨_, Tryz.func76, by kernel_rfl, rfl⟩
theorem en_77 : EnterOK Tryz.prog 77 := ⟨_, Tryz.func77, by kernel_rfl, rfl⟩
theorem en_78 : EnterOK Tryz.prog 78 := ⟨_, Tryz.func78, by kernel_rfl, rfl⟩
theorem en_79 : EnterOK Tryz.prog 79 := ⟨_, Tryz.func79, by kernel_rfl, rfl⟩
theorem en_80 : EnterOK Tryz.prog 80 := ⟨_, Tryz.func80, by kernel_rfl, rfl⟩
theorem en_81 : EnterOK Tryz.prog 81 := ⟨_, Tryz.func81, by kernel_rfl, rfl⟩
theorem en_82 : EnterOK Tryz.prog 82 := ⟨_, Tryz.func82, by kernel_rfl, rfl⟩
theorem en_83 : EnterOK Tryz.prog 83 := ⟨_, Tryz.func83, by kernel_rfl, rfl⟩
theorem en_84 : EnterOK Tryz.prog 84 := ⟨_, Tryz.func84, by kernel_rfl, rfl⟩
theorem en_85 : EnterOK Tryz.prog 85 := ⟨_, Tryz.func85, by kernel_rfl, rfl⟩
theorem en_86 : EnterOK Tryz.prog 86 := ⟨_, Tryz.func86, by kernel_rfl, rfl⟩
theorem en_87 : EnterOK Tryz.prog 87 := ⟨_, Tryz.func87, by kernel_rfl, rfl⟩
theorem en_88 : EnterOK Tryz.prog 88 := ⟨_, Tryz.func88, by kernel_rfl, rfl⟩
theorem en_89 : EnterOK Tryz.prog 89 := ⟨_, Tryz.func89, by kernel_rfl, rfl⟩
theorem en_90 : EnterOK Tryz.prog 90 := ⟨_, Tryz.func90, by kernel_rfl, rfl⟩
theorem en_91 : EnterOK Tryz.prog 91 := ⟨_, Tryz.func91, by kernel_rfl, rfl⟩
theorem en_92 : EnterOK Tryz.prog 92 := ⟨_, Tryz.func92, by kernel_rfl, rfl⟩
theorem en_93 : EnterOK Tryz.prog 93 := ⟨_, Tryz.func93, by kernel_rfl, rfl⟩
theorem en_94 : EnterOK Tryz.prog 94 := ⟨_, Tryz.func94, by kernel_rfl, rfl⟩
theorem en_95 : EnterOK Tryz.prog 95 := ⟨_, Tryz.func95, by kernel_rfl, rfl⟩
theorem en_96 : EnterOK Tryz.prog 96 := ⟨_, Tryz.func96, by kernel_rfl, rfl⟩
theorem en_97 : EnterOK Tryz.prog 97 := ⟨_, Tryz.func97, by kernel_rfl, rfl⟩
theorem en_98 : EnterOK Tryz.prog 98 := ⟨_, Tryz.func98, by kernel_rfl, rfl⟩
theorem en_99 : EnterOK Tryz.prog 99 := ⟨_, Tryz.func99, by kernel_rfl, rfl⟩
theorem en_100 : EnterOK Tryz.prog 100 := ⟨_, Tryz.func100, by kernel_rfl, rfl⟩
theorem en_101 : EnterOK Tryz.prog 101 := ⟨_, Tryz.func101, by kernel_rfl, rfl⟩
theorem en_102 : EnterOK Tryz.prog 102 := ⟨_, Tryz.func102, by kernel_rfl, rfl⟩
theorem en_103 : EnterOK Tryz.prog 103 := ⟨_, Tryz.func103, by kernel_rfl, rfl⟩
theorem en_104 : EnterOK Tryz.prog 104 := ⟨_, Tryz.func104, by kernel_rfl, rfl⟩
theorem en_105 : EnterOK Tryz.prog 105 := ⟨_, Tryz.func105, by kernel_rfl, rfl⟩
theorem en_106 : EnterOK Tryz.prog 106 := ⟨_, Tryz.func106, by kernel_rfl, rfl⟩
theorem en_107 : EnterOK Tryz.prog 107 := ⟨_, Tryz.func107, by kernel_rfl, rfl⟩
theorem en_108 : EnterOK Tryz.prog 108 := ⟨_, Tryz.func108, by kernel_rfl, rfl⟩
theorem en_109 : EnterOK Tryz.prog 109 := ⟨_, Tryz.func109, by kernel_rfl, rfl⟩
theorem en_110 : EnterOK Tryz.prog 110 := ⟨_, Tryz.func110, by kernel_rfl, rfl⟩
theorem mixed_ok : Tryz.prog.follows .mixedOrders = true := by kernel_rfl
end Go.Proofs.YtdkgaejmgnojhaaGreat
namespace Go.Proofs.YtdkgaejmgnojhaaGreat
open Go.RowKit

abbrev num (x : Int) : Value := .int .i64 x
def ints (xs : List Int) : List Value := xs.map num
theorem ints_length (xs : List Int) : (ints xs).length = xs.length := by simp [ints]
theorem ints_get {xs : List Int} {k : Nat} (h : k < xs.length) : (ints xs)[k]? = some (num (xs.getD k 0)) := by
  simp [ints, List.getD, h]
theorem ints_one (xs : List Int) : ∀ a ∈ ints xs, a.oneCell' = true := by
  intro a ha; simp only [ints, List.mem_map] at ha; obtain ⟨x, _, rfl⟩ := ha
  rfl
theorem ints_append (xs ys : List Int) : ints (xs ++ ys) = ints xs ++ ints ys := by simp [ints]
theorem ints_set (xs : List Int) (k : Nat) (x : Int) : (ints xs).set k (num x) = ints (xs.set k x) := by simp [ints, List.map_set]

/-- In 'h', 'v' reads as the integers xs. -/
def IntsR (xs : List Int) (v : Value) (h : PH) : Prop := RowR (ints xs) xs.length 1 v h
/-- 'v' is a slice of the integers xs whose array is 'h' and nobody else's. -/
def IntsO (xs : List Int) (v : Value) (h : PH) : Prop := RowO 3 (ints xs) xs.length 1 v h
theorem IntsR.mono {xs : List Int} {v : Value} {h h' : PH} (r : IntsR xs v h) (l : PLe h h') : IntsR xs v h' := RowR.mono r l
theorem IntsO.toR {xs : List Int} {v : Value} {h : PH} (r : IntsO xs v h) : IntsR xs v h := RowO.toR r
theorem IntsR.sl {xs : List Int} {v : Value} {h : PH} (r : IntsR xs v h) : SlL v xs.length := RowR.sl r
theorem IntsR.le {xs : List Int} {v : Value} {h : PH} (r : IntsR xs v h) : (xs.length : Int) ≤ 9223372036854775807 := by
  obtain ⟨_, a, c, _, ⟨h, _⟩, _⟩ := r
  unfold maxLen at h
  omega
theorem IntsO.nil : IntsO [] (.slice none 0 0) emp := ⟨rfl, .inl ⟨rfl, rfl, rfl⟩⟩
theorem IntsR.nil (h : PH) : IntsR [] (.slice none 0 0) h := (IntsO.nil.toR).mono (PLe.emp h)

/-- A slice of elements of 'sz' cells each, read by R. -/
def RowsR {α : Type} (sz : Nat) (R : α → List Value → PH → Prop) (xs : List α) (v : Value) (h : PH) : Prop :=
  ∃ cells, RowR cells xs.length sz v h ∧ ∀ (i : Nat) (x : α), xs[i]? = some x → R x ((cells.drop (i * sz)).take sz) h
theorem RowsR.mono {α : Type} {sz : Nat} {R : α → List Value → PH → Prop} (hR : ∀ {x cs h h'}, R x cs h → PLe h h' → R x cs h') {xs : List α} {v : Value} {h h' : PH} (r : RowsR sz R xs v h) (l : PLe h h') : RowsR sz R xs v h' :=
  let ⟨c, h1, h2⟩ := r; ⟨c, h1.mono l, fun i x hx => hR (h2 i x hx) l⟩
theorem RowsR.sl {α : Type} {sz : Nat} {R : α → List Value → PH → Prop} {xs : List α} {v : Value} {h : PH} (r : RowsR sz R xs v h) : SlL v xs.length := let ⟨_, h1, _⟩ := r; h1.sl
theorem RowsR.le {α : Type} {sz : Nat} {R : α → List Value → PH → Prop} {xs : List α} {v : Value} {h : PH} (r : RowsR sz R xs v h) : (xs.length : Int) ≤ 9223372036854775807 := by
  obtain ⟨_, ⟨_, a, c, _, ⟨h, _⟩, _⟩, _⟩ := r
  unfold maxLen at h
  omega

section
variable {P : Program} {n : Nat} {w0 : World} {K : Env} {HS : List PH} {d : Option Tmp} {ty : TypeId} {ps : String} {af : Array Edge} {g : Option (Nat × Bool)}
theorem v_idxI {t e' : TypeId} {x ix : Operand} {z : Value} {bytes : Nat} {agg : Bool} {v : Value} {k : IntKind} {i : Int} {xs : List Int} {h : PH} (ht : P.underlying t = some (.slice e')) (he : TyF P e' z 1 bytes agg)
    (hx : ev K x = some v) (hi : ev K ix = some (.int k i)) (r : IntsR xs v h) (h0 : 0 ≤ i) (h1 : i < xs.length) : StepV P n w0 K HS ⟨d, .indexAddr t x ix, ty, ps, af, g⟩ (eltP v i.toNat) := by
  have := v_indexAddr (P := P) (n := n) (w0 := w0) (HS := HS) (d := d) (ty := ty) (ps := ps) (af := af) (g := g) ht he hx hi r (by decide) h0 h1
  rwa [Nat.mul_one] at this
theorem v_loadI {t : TypeId} {z : Value} {bytes k : Nat} {x : Operand} {v : Value} {xs : List Int} {h : PH} (p : Nat) (ht : TyF P t z 1 bytes false) (hx : ev K x = some (eltP v k)) (hp : HS[p]? = some h) (r : IntsR xs v h) (hk : k < xs.length) :
    StepV P n w0 K HS ⟨d, .load t x, ty, ps, af, g⟩ (num (xs.getD k 0)) := v_loadE p ht hx hp r (ints_get hk)
/-- A store of an integer into a slice of the call's own. -/
theorem m_storeI {t : TypeId} {x y : Operand} {z : Value} {bytes : Nat} {agg : Bool} {k : Nat} {sv : Value} {a : Int} {xs : List Int} {h : PH} (p : Nat) (ht : TyF P t z 1 bytes agg) (hx : ev K x = some (eltP sv k)) (hy : ev K y = some (num a))
    (hp' : HS[p]? = some h) (r : IntsO xs sv h) (hk : k < xs.length) :
    StepX P n w0 K HS ⟨d, .store t x y, ty, ps, af, g⟩ h (fun v' h' => v' = undef ∧ IntsO (xs.set k a) sv h') := by
  have hk' : k < (ints xs).length := by rw [ints_length]; exact hk
  have := m_storeE (P := P) (n := n) (w0 := w0) (d := d) (ty := ty) (ps := ps) (af := af) (g := g) p ht hx hy (us := [num a]) rfl rfl (by simp [Value.oneCell']) hp' r (by decide) (by omega); rw [set_eq_parts hk', ints_set] at this
  unfold IntsO
  rw [List.length_set]; exact this
theorem x_makeI {t : TypeId} {x y : Operand} {bytes : Nat} {m : Int} (ht : P.underlying t = some (.slice 3)) (he : TyF P 3 (num 0) 1 bytes false)
    (hx : ev K x = some (.int .i64 m)) (hy : ev K y = some (.int .i64 m)) (h0 : 0 ≤ m) (h1 : bytes * m ≤ 281474976710656) (h2 : m ≤ 9223372036854775807) :
    StepX P n w0 K HS ⟨d, .makeSlice t x y, ty, ps, af, g⟩ emp (IntsO (List.replicate m.toNat 0)) := by
  have := x_make (P := P) (n := n) (w0 := w0) (HS := HS) (d := d) (ty := ty) (ps := ps) (af := af) (g := g) ht he (zs := [num 0]) rfl rfl hx hy h0 h1 h2; have e1 : (List.replicate m.toNat [num 0]).flatten = ints (List.replicate m.toNat 0) := by
    rw [List.flatten_replicate_singleton]; simp [ints]
  rw [e1] at this
  unfold IntsO
  rw [List.length_replicate]; exact this
/-- 'append(s, x...)', integers. -/
theorem m_appI {t : TypeId} {x y : Operand} {xs ys : List Int} {bytes : Nat} {v u : Value} {h hy' : PH} (p q : Nat) (ht : P.underlying t = some (.slice 3)) (he : TyF P 3 (num 0) 1 bytes false) (hb : bytes = 8)
    (hx : ev K x = some v) (hy : ev K y = some u) (hp' : HS[p]? = some h) (r : IntsO xs v h) (hq : HS[q]? = some hy') (ru : IntsR ys u hy')
    (h47 : xs.length + ys.length ≤ 17592186044416) :
    StepX P n w0 K HS ⟨d, .call ⟨.builtin .append, #[x, y], #[t, t]⟩, ty, ps, af, g⟩ h (IntsO (xs ++ ys)) := by
  subst hb; have := m_append (P := P) (n := n) (w0 := w0) (HS := HS) (d := d) (ty := ty) (ps := ps) (af := af) (g := g) p q ht he (zs := [num 0]) rfl rfl (by decide) hx hy hp' r hq ru (ints_one ys) (by unfold maxLen; omega) (by omega)
  unfold IntsO
  rw [List.length_append, ints_append]; exact this
end
end Go.Proofs.YtdkgaejmgnojhaaGreat
namespace Go.Proofs.YtdkgaejmgnojhaaGreat
open Go.ChangeShapes Go.WideShapes Go.ChangeAt Go.RowKit

theorem lift_own : ownKnob Tryz.prog.godebug = none := by kernel_rfl
theorem lift_laid : laidOutB Tryz.prog = true := by kernel_rfl

section
variable {H : Type} {enc : TypeId × Value → H} {P : Program} {w : World} {base : Nat} {sp : Nat → Bool} {hd : Bool}
theorem trodAll_below {W W' : World} (hl : laidOutB P = true) (hb : Below W.heap.size W W') : ∀ {ts : List TypeId} {vs : List Value} {ds : List (DataW H)} {ps : List MemPlace},
    (ts.all fun t => P.readableRec t && decide (t < P.types.size)) = true → DataW.TrodAll enc P W 0 (fun _ => true) true ts vs ds ps → (∀ x ∈ ps, x.block < W.heap.size) →
    DataW.TrodAll enc P W' 0 (fun b => decide (b < W.heap.size)) true ts vs ds ps
  | [], [], [], _, _, h, _ => h
  | t :: ts, v :: vs, d :: ds, ps, hr, h, hlt => by
    simp only [List.all_cons, Bool.and_eq_true, decide_eq_true_eq] at hr; obtain ⟨p, q, h1, h2, rfl⟩ := h; exact ⟨p, q, Below.trod hl hr.1.1 hr.1.2 h1 hb (fun x hx => hlt x (by simp [hx])), trodAll_below hl hb hr.2 h2 (fun x hx => hlt x (by simp [hx])), rfl⟩

theorem mapM_length {α β : Type} {f : α → Option β} : ∀ {l : List α} {r : List β}, l.mapM f = some r → r.length = l.length
  | [], r, h => by simp at h; subst h; rfl
  | a :: l, r, h => by
    cases ha : f a with
    | none => simp [ha] at h
    | some b =>
      cases hl : l.mapM f with
      | none => simp [ha, hl] at h
      | some ys =>
        simp [ha, hl] at h
        subst h
        simp [mapM_length hl]
/-- The cells of a row, all together. -/
theorem flat_get {sz : Nat} : ∀ {ls : List (List Value)} (_ : ∀ l ∈ ls, l.length = sz) {i : Nat} {l : List Value}, ls[i]? = some l → (ls.flatten.drop (i * sz)).take sz = l
  | [], _, i, l, h => by simp at h
  | x :: ls, hl, 0, l, h => by
    simp at h; subst h
    have := hl x (by simp)
    simp [← this]
  | x :: ls, hl, i + 1, l, h => by
    have hx := hl x (by simp); rw [List.flatten_cons, Nat.add_mul, Nat.one_mul, Nat.add_comm, ← List.drop_drop, ← hx, List.drop_left, hx]; exact flat_get (fun l h => hl l (by simp [h])) (by simpa using h)
theorem flat_length {sz : Nat} : ∀ {ls : List (List Value)} (_ : ∀ l ∈ ls, l.length = sz), ls.flatten.length = ls.length * sz
  | [], _ => by simp
  | x :: ls, hl => by
    rw [List.flatten_cons, List.length_append, flat_length (fun l h => hl l (by simp [h])), hl x (by simp), List.length_cons, Nat.add_mul, Nat.one_mul, Nat.add_comm]
theorem choose_list {α : Type} {p : Nat → α → Prop} : ∀ (n : Nat), (∀ i, i < n → ∃ x, p i x) → ∃ l : List α, l.length = n ∧ ∀ (i : Nat) (x : α), l[i]? = some x → p i x
  | 0, _ => ⟨[], rfl, fun i x h => by simp at h⟩
  | n + 1, h => by
    obtain ⟨l, h1, h2⟩ := choose_list n (fun i hi => h i (by omega)); obtain ⟨x, hx⟩ := h n (by omega); refine ⟨l ++ [x], by simp [h1], fun i y hy => ?_⟩
    by_cases hi : i < n
    · exact h2 i y (by rwa [List.getElem?_append_left (by omega)] at hy)
    · have hlt := (List.getElem?_eq_some_iff.1 hy).1
      simp at hlt
      have : i = n := by omega
      subst this; rw [List.getElem?_append_right (by omega), h1] at hy
      simp at hy
      subst hy; exact hx
/-- A slice, element by element. -/
theorem rd_rows {α : Type} {t e' : TypeId} {sz : Nat} {R : α → List Value → PH → Prop} {fuel : Nat} {cs : List Value} {x : DataW H × List MemPlace} (ht : P.underlying t = some (.slice e')) (hsz : P.cellsOf e' = sz) (h0 : sz ≠ 0)
    (hR : ∀ {n : Nat} {us : List Value} {y : DataW H × List MemPlace}, DataW.trod enc P w base sp hd n e' us = some y → ∃ d, R d us (hp w))
    (h : DataW.trod enc P w base sp hd fuel t cs = some x) : ∃ v xs, cs = [v] ∧ RowsR sz R xs v (hp w) := by
  subst hsz
  rcases DataW.trod_slice ht h with ⟨rfl, _⟩ | ⟨a, len, cap, elems, rest, n, _, rfl, _, _, hlc, hcm, hel, hget, _, _⟩
  · exact ⟨_, [], rfl, [], ⟨by simp, none, 0, rfl, by simp, fun h => by simp at h⟩, fun i x hx => by simp at hx⟩
  · have each : ∀ i, i < len → ∃ p : List Value × α, w.cells? base (a.add (i * P.cellsOf e')) (P.cellsOf e') = some p.1 ∧ R p.2 p.1 (hp w) := fun i hi => by
      have h1 := hget i hi; obtain ⟨y, hy⟩ : ∃ y, elems[i]? = some y := ⟨elems[i], by simp [hel, hi]⟩
      rw [hy, Option.bind_eq_some_iff] at h1; obtain ⟨us, h2, h3⟩ := h1; obtain ⟨d, hd'⟩ := hR h3; exact ⟨(us, d), h2, hd'⟩
    obtain ⟨ps, hl, hps⟩ := choose_list len each; have hlen : ∀ l ∈ ps.map (·.1), l.length = P.cellsOf e' := fun l hm => by
      obtain ⟨p, hp1, rfl⟩ := List.mem_map.1 hm; obtain ⟨i, hi⟩ := List.getElem?_of_mem hp1; have h2 := (hps i p hi).1
      unfold World.cells? at h2
      split at h2
      · simpa using mapM_length h2
      · cases h2
    refine ⟨_, ps.map (·.2), rfl, (ps.map (·.1)).flatten, ⟨by rw [flat_length hlen]; simp, some a, cap, by simp [hl], by simp [hl]; omega, fun hpos => ?_⟩, fun i x hx => ?_⟩
    · have cell : ∀ i j u, i < len → (ps.map (·.1)).flatten[i * P.cellsOf e' + j]? = some u → j < P.cellsOf e' → w.cell? ((a.add (i * P.cellsOf e')).add j) = some u := fun i j u hi hu hj => by
        obtain ⟨p, hp1⟩ : ∃ p, ps[i]? = some p := ⟨ps[i], by simp [hl, hi]⟩
        have h2 := (hps i p hp1).1; have h3 : (ps.map (·.1))[i]? = some p.1 := by simp [hp1]
        have h4 := flat_get hlen h3; have h5 : p.1[j]? = some u := by rw [← h4, List.getElem?_take, if_pos hj, List.getElem?_drop]; exact hu
        unfold World.cells? at h2
        split at h2
        · have := mapM_some_get h2 j j (List.getElem?_range hj); rw [this, h5]
        · cases h2
      have ha : ∃ u, w.cell? a = some u := by
        have hpos' : 0 < (ps.map (·.1)).flatten.length := by rw [flat_length hlen]; simpa using hpos
        obtain ⟨u, hu⟩ : ∃ u, (ps.map (·.1)).flatten[0]? = some u := ⟨(ps.map (·.1)).flatten[0], List.getElem?_eq_getElem hpos'⟩
        have hlen0 : 0 < len := by
          rcases Nat.eq_zero_or_pos len with h | h
          · simp [hl, h] at hpos
          · exact h
        have h6 := cell 0 0 u hlen0 (by simpa using hu) (by omega); refine ⟨u, ?_⟩; rw [Nat.zero_mul] at h6; exact h6
      obtain ⟨u0, hu0⟩ := ha; have hspot := World.cell?_spot hu0; obtain ⟨b, o, spot⟩ := a
      simp only at hspot
      subst hspot; refine ⟨b, o, rfl, fun j u hu => ?_⟩; rw [cellP_hp]; have hj : j < len * P.cellsOf e' := by
        have := (List.getElem?_eq_some_iff.1 hu).1; rw [flat_length hlen] at this
        simpa [hl] using this
      have hsp : 0 < P.cellsOf e' := by omega
      have hdm := Nat.div_add_mod j (P.cellsOf e'); have := cell (j / P.cellsOf e') (j % P.cellsOf e') u (Nat.div_lt_of_lt_mul (by rwa [Nat.mul_comm])) (by rw [Nat.mul_comm, hdm]; exact hu) (Nat.mod_lt _ hsp); rw [add_at, add_at, Nat.add_assoc, Nat.mul_comm, hdm] at this; exact this
    · have hx' : ∃ p, ps[i]? = some p ∧ p.2 = x := by simpa using hx
      obtain ⟨p, hp1, rfl⟩ := hx'; rw [flat_get hlen (i := i) (l := p.1) (by simp [hp1])]; exact (hps i p hp1).2
theorem cellsOf_ty {t : TypeId} {z : Value} {sz bytes : Nat} {agg : Bool} (h : TyF P t z sz bytes agg) : P.cellsOf t = sz := by
  obtain ⟨i, h1, _, h3, _⟩ := h.get
  simp [Program.cellsOf, h1, h3]
end

section
variable {H : Type} {enc : TypeId × Value → H} {w : World} {base : Nat} {sp : Nat → Bool} {hd : Bool}
end
end Go.Proofs.YtdkgaejmgnojhaaGreat
namespace Go.Proofs.YtdkgaejmgnojhaaGreat
open Go.RowKit
theorem cd_enter : Go.Program.mayEnter Tryz.pinned.checked.prog = true := by kernel_rfl
theorem cd_lifts : (false == Go.Program.liftsFinal Tryz.pinned.checked.prog) = true := by kernel_rfl
theorem cd_make : (Go.Program.make Tryz.pinned.checked.prog == some (({ program := "", sum := "", func := "", spec := "" } : OpenClaim).make)) = true := by kernel_rfl
theorem cd_and {a b : Bool} (h : a = true) (k : b = true) : (a && b) = true := by rw [h, k]; rfl
theorem cd_lifts' {x : Bool} (h : x = false) : (x == Go.Program.liftsFinal Tryz.pinned.checked.prog) = true := by subst h; exact cd_lifts
theorem cd_make' {x : Make} (h : x = ({ program := "", sum := "", func := "", spec := "" } : OpenClaim).make) : (Go.Program.make Tryz.pinned.checked.prog == some x) = true := by subst h; exact cd_make
end Go.Proofs.YtdkgaejmgnojhaaGreat
namespace Go.Proofs.YtdkgaejmgnojhaaGreat
set_option maxRecDepth 100000
open Go.RowKit

def noDiv (n k : Int) : Prop := ∀ d : Int, 2 ≤ d → d < k → n.tmod d ≠ 0
theorem noDiv_succ {n k : Int} (h : noDiv n k) (h2 : n.tmod k ≠ 0) : noDiv n (k + 1) := by
  intro d hd hk
  by_cases e : d = k
  · subst e; exact h2
  · exact h d hd (by omega)
def primeL (n : Int) : Prop := 2 ≤ n ∧ n ≤ 1000003 ∧ ∀ d : Int, 2 ≤ d → d * d ≤ n → n.tmod d ≠ 0
open Classical in
noncomputable def primeB (n : Int) : Bool := decide (primeL n)
theorem primeB_no {n d : Int} (h2 : 2 ≤ d) (hd : d * d ≤ n) (h : n.tmod d = 0) : primeB n = false := by
  simp only [primeB, decide_eq_false_iff_not]; rintro ⟨_, _, h3⟩; exact h3 d h2 hd h
theorem primeB_out {n : Int} (h : n < 2 ∨ 1000003 < n) : primeB n = false := by
  simp only [primeB, decide_eq_false_iff_not]; rintro ⟨h1, h2, _⟩
  omega
theorem primeB_yes {n k : Int} (h1 : 2 ≤ n) (h2 : n ≤ 1000003) (h : noDiv n k) (hk0 : 0 ≤ k) (hk : n < k * k) : primeB n = true := by
  simp only [primeB, decide_eq_true_eq]; refine ⟨h1, h2, fun d hd hdd => h d hd ?_⟩
  rcases Int.lt_or_le d k with h | h
  · exact h
  · have : k * k ≤ d * d := Int.mul_le_mul h h hk0 (by omega)
    omega
theorem primeB_iff {n : Int} : primeB n = true ↔ primeL n := by simp [primeB]
theorem sq_le {k : Int} (h0 : 0 ≤ k) (h : k ≤ 1002) : I64 (k * k) ∧ 0 ≤ k * k := by
  have h1 : k * k ≤ 1002 * 1002 := Int.mul_le_mul h h h0 (by omega); have h2 : 0 ≤ k * k := Int.mul_nonneg h0 h0; exact ⟨by unfold I64; omega, h2⟩
theorem sq_lim {n k : Int} (h0 : 0 ≤ k) (hn : n ≤ 1000003) (h : k * k ≤ n) : k ≤ 1001 := by
  rcases Int.lt_or_le k 1002 with h1 | h1
  · omega
  · have : 1002 * 1002 ≤ k * k := Int.mul_le_mul h1 h1 (by omega) h0
    omega

theorem prime2 {m : Int} (h : primeB m = true) : 2 ≤ m := (primeB_iff.1 h).1
theorem ct_s_l01In (n lo hi : Int) (w : World) : Calls Tryz.prog 109 [num n, num lo, num hi].toArray w (RetV w (.bool (decide (lo ≤ n ∧ n ≤ hi)))) := by
  refine calls_in Tryz.func109 rfl Tryz.ntmps109 rfl (Sat.start w) (wp_sc (wp_sq (sq_v rfl (v_assign rfl) rfl (sq_end (qs_n (wp_sc (wp_sq (sq_v rfl (v_move rfl) rfl (sq_v rfl (v_move rfl) rfl (sq_v rfl (v_geq rfl rfl) rfl ?_)))))))))); refine sq_bd 9 rfl (fun c9 => ?_) (fun c9 => ?_)
  · refine sq_v rfl (v_move rfl) rfl (sq_v rfl (v_move rfl) rfl (sq_v rfl (v_move rfl) rfl (sq_v rfl (v_leq rfl rfl) rfl (sq_v rfl (v_pickt rfl rfl) rfl (sq_v rfl (v_assign rfl) rfl (sq_end (qs_n (wp_rt ?_)))))))); exact qs_ret1 rfl rfl (fin_q (i := 0) rfl (by simp [c9]))
  · refine sq_v rfl (v_move rfl) rfl (sq_s rfl rfl (sq_s rfl rfl (sq_s rfl rfl (sq_v rfl (v_pickf rfl rfl) rfl (sq_v rfl (v_assign rfl) rfl (sq_end (qs_n (wp_rt ?_)))))))); exact qs_ret1 rfl rfl (fin_q (i := 0) rfl (by simp [c9]))

theorem ct_s_IsPrime (n : Int) (w : World) : Calls Tryz.prog 108 [num n].toArray w (RetV w (.bool (primeB n))) := by
  refine calls_in Tryz.func108 rfl Tryz.ntmps108 rfl (Sat.start w) (wp_sc (wp_sq (sq_v rfl (v_assign rfl) rfl (sq_end (qs_n (wp_sc (wp_sc (wp_sq (sq_v rfl (v_assign rfl) rfl (sq_end (qs_n (wp_bl (wp_lp (fun k : Int => [(0, num n), (3, num k)]) (fun _ => [hp w]) (fun k => 2 ≤ k ∧ k ≤ 1002 ∧ noDiv n k) (fun k => 2000 - k.toNat) 2 ⟨by omega, by omega, fun d _ _ => by omega⟩ ⟨rfl, rfl, trivial⟩ (fun _ s => s) ?_))))))))))))); rintro k ⟨h2, h1002, hnd⟩; have hsq := sq_le (k := k) (by omega) h1002; refine wp_sc (wp_sc (wp_sq (sq_v rfl (v_move rfl) rfl (sq_v rfl (v_move rfl) rfl (sq_v rfl (v_mul rfl rfl (hsq.1)) rfl (sq_v rfl (v_move rfl) rfl (sq_v rfl (v_leq rfl rfl) rfl ?_))))))); refine sq_bd 8 rfl (fun c8 => ?_) (fun c8 => ?_)
  · refine sq_v rfl (v_move rfl) rfl (sq_v rfl (v_move rfl) rfl (sq_v rfl (v_leq rfl rfl) rfl (sq_v rfl (v_pickt rfl rfl) rfl (sq_end (qs_n ?_))))); refine wp_cd rfl (fun c12 => ?_) (fun c12 => ?_)
    · refine wp_sk (qs_n (wp_sc (wp_bl (wp_sc (wp_sq (sq_v rfl (v_move rfl) rfl (sq_v rfl (v_move rfl) rfl (sq_v rfl (v_rem rfl rfl (by omega)) rfl (sq_v rfl (v_eql rfl rfl) rfl (sq_end (qs_n ?_))))))))))); refine wp_cd rfl (fun c18 => ?_) (fun c18 => ?_)
      · refine wp_sc (wp_sq (sq_v rfl (v_assign rfl) rfl (sq_end (qs_n (wp_rt (qs_br (qs_r (qs_r (qs_br (qs_r ?_)))))))))); exact qs_ret1 rfl rfl (fin_q (i := 0) rfl (by rw [primeB_no h2 c8 c18]))
      · refine wp_sk (qs_bn (qs_n (wp_sq (sq_v rfl (v_move rfl) rfl ?_)))); refine sq_v rfl (v_add rfl rfl ((by unfold I64; omega))) rfl ?_; refine sq_v rfl (v_assign rfl) rfl (sq_end ?_); have hl := sq_lim (by omega) c12 c8; exact qs_bk (k + 1) ⟨by omega, by omega, noDiv_succ hnd c18⟩ (by omega) ⟨rfl, rfl, trivial⟩ (fun _ s => s)
    · refine wp_ex (qs_x (qs_x (qs_bx (qs_n (wp_sc (wp_sq (sq_v rfl (v_move rfl) rfl (sq_u rfl (x_callv rfl en_109 (fun w s => ct_s_l01In _ _ _ w)) rfl (sq_v rfl (v_assign rfl) rfl (sq_end (qs_n (wp_rt ?_)))))))))))); exact qs_ret1 rfl rfl (fin_q (i := 0) rfl (by rw [primeB_out (by omega)]; simp; omega))
  · refine sq_v rfl (v_move rfl) rfl (sq_s rfl rfl (sq_s rfl rfl (sq_v rfl (v_pickf rfl rfl) rfl (sq_end (qs_n (wp_cf rfl (wp_ex (qs_x (qs_x (qs_bx (qs_n (wp_sc (wp_sq (sq_v rfl (v_move rfl) rfl (sq_u rfl (x_callv rfl en_109 (fun w s => ct_s_l01In _ _ _ w)) rfl (sq_v rfl (v_assign rfl) rfl (sq_end (qs_n (wp_rt ?_))))))))))))))))))); refine qs_ret1 rfl rfl (fin_q (i := 0) rfl ?_)
    by_cases h : 2 ≤ n ∧ n ≤ 1000003
    · rw [primeB_yes h.1 h.2 hnd (by omega) (by omega)]; simp [h]
    · rw [primeB_out (by omega)]; simp [h]

theorem ct_i_IsPrime (n : Int) (w : World) : Calls Tryz.prog 85 [num n].toArray w (RetV w (.bool (primeB n))) := by
  refine calls_in Tryz.func85 rfl Tryz.ntmps85 rfl (Sat.start w) (wp_sc (wp_sq (sq_v rfl (v_assign rfl) rfl (sq_end (qs_n (wp_sc (wp_sc (wp_sq (sq_v rfl (v_move rfl) rfl (sq_v rfl (v_lss rfl rfl) rfl ?_)))))))))); refine sq_bd 5 rfl (fun c5 => ?_) (fun c5 => ?_)
  · refine sq_v rfl (v_move rfl) rfl (sq_s rfl rfl (sq_s rfl rfl (sq_v rfl (v_pickt rfl rfl) rfl (sq_end (qs_n (wp_ct rfl (wp_sc (wp_sq (sq_v rfl (v_assign rfl) rfl (sq_end (qs_n (wp_rt (qs_r ?_))))))))))))); exact qs_ret1 rfl rfl (fin_q (i := 0) rfl (by rw [primeB_out (by omega)]))
  · refine sq_v rfl (v_move rfl) rfl (sq_v rfl (v_move rfl) rfl (sq_v rfl (v_gtr rfl rfl) rfl (sq_v rfl (v_pickf rfl rfl) rfl (sq_end (qs_n ?_))))); refine wp_cd rfl (fun c9 => ?_) (fun c9 => ?_)
    · refine wp_sc (wp_sq (sq_v rfl (v_assign rfl) rfl (sq_end (qs_n (wp_rt (qs_r ?_)))))); exact qs_ret1 rfl rfl (fin_q (i := 0) rfl (by rw [primeB_out (by omega)]))
    · refine wp_sk (qs_n (wp_sc (wp_sc (wp_sq (sq_v rfl (v_assign rfl) rfl (sq_end (qs_n (wp_bl (wp_lp (fun k : Int => [(0, num n), (3, num k)]) (fun _ => [hp w]) (fun k => 2 ≤ k ∧ k ≤ 1002 ∧ noDiv n k) (fun k => 2000 - k.toNat) 2 ⟨by omega, by omega, fun d _ _ => by omega⟩ ⟨rfl, rfl, trivial⟩ (fun _ s => s) ?_))))))))); rintro k ⟨h2, h1002, hnd⟩; have hsq := sq_le (k := k) (by omega) h1002; refine wp_sc (wp_sc (wp_sq (sq_v rfl (v_move rfl) rfl (sq_v rfl (v_move rfl) rfl (sq_v rfl (v_mul rfl rfl (hsq.1)) rfl (sq_v rfl (v_move rfl) rfl (sq_v rfl (v_leq rfl rfl) rfl (sq_end (qs_n ?_))))))))); refine wp_cd rfl (fun c14 => ?_) (fun c14 => ?_)
      · refine wp_sk (qs_n (wp_sc (wp_bl (wp_sc (wp_sq (sq_v rfl (v_move rfl) rfl (sq_v rfl (v_move rfl) rfl (sq_v rfl (v_rem rfl rfl (by omega)) rfl (sq_v rfl (v_eql rfl rfl) rfl (sq_end (qs_n ?_))))))))))); refine wp_cd rfl (fun c20 => ?_) (fun c20 => ?_)
        · refine wp_sc (wp_sq (sq_v rfl (v_assign rfl) rfl (sq_end (qs_n (wp_rt (qs_br (qs_r (qs_r (qs_br (qs_r ?_)))))))))); exact qs_ret1 rfl rfl (fin_q (i := 0) rfl (by rw [primeB_no h2 c14 c20]))
        · refine wp_sk (qs_bn (qs_n (wp_sq (sq_v rfl (v_move rfl) rfl ?_)))); refine sq_v rfl (v_add rfl rfl ((by unfold I64; omega))) rfl ?_; refine sq_v rfl (v_assign rfl) rfl (sq_end ?_); have hl := sq_lim (by omega) (by omega) c14; exact qs_bk (k + 1) ⟨by omega, by omega, noDiv_succ hnd c20⟩ (by omega) ⟨rfl, rfl, trivial⟩ (fun _ s => s)
      · refine wp_ex (qs_x (qs_x (qs_bx (qs_n (wp_sc (wp_sq (sq_v rfl (v_assign rfl) rfl (sq_end (qs_n (wp_rt ?_)))))))))); exact qs_ret1 rfl rfl (fin_q (i := 0) rfl (by rw [primeB_yes (by omega) (by omega) hnd (by omega) (by omega)]))

end Go.Proofs.YtdkgaejmgnojhaaGreat
namespace Go.Proofs.YtdkgaejmgnojhaaGreat
set_option maxRecDepth 100000
open Go.RowKit

def ringL (k m p : Int) : Prop := (k = 1 ∧ m = 0 ∧ p = 0) ∨ (k = 2 ∧ primeB m = true ∧ p = 0) ∨ ((k = 3 ∨ k = 4 ∨ k = 5) ∧ (1 ≤ m ∧ m ≤ 1000000) ∧ p = 0) ∨
  (k = 6 ∧ m = 0 ∧ 1 ≤ p ∧ p ≤ 20) ∨ (k = 7 ∧ primeB m = true ∧ 1 ≤ p ∧ p ≤ 6) ∨ (k = 8 ∧ primeB m = true ∧ m ≠ 2 ∧ p = 0)
open Classical in
noncomputable def ringB (k m p : Int) : Bool := decide (ringL k m p)
theorem rb {x : Bool} {k m p : Int} (h : x = true ↔ ringL k m p) : Value.bool x = .bool (ringB k m p) := by
  congr 1
  cases x <;> simp [ringB] at h ⊢ <;> exact h

abbrev ringV (k m p : Int) : Value := .agg [num k, num m, num p].toArray
theorem ct_s_RingOk (k m p : Int) (w : World) : Calls Tryz.prog 93 [ringV k m p].toArray w (RetV w (.bool (ringB k m p))) := by
  refine calls_in Tryz.func93 rfl Tryz.ntmps93 rfl (Sat.start w) (wp_sc (wp_sq ?_)); refine sq_x rfl (x_box rfl rfl) rfl ?_; rintro _ _ ⟨b1, rfl, rfl⟩; refine sq_v rfl (v_assign rfl) rfl (sq_end (qs_n (wp_sc (wp_sc (wp_sq (sq_v rfl (v_fieldAddr fd_24_0 ty_3 (by decide) rfl) rfl (sq_v rfl (v_loadB 0 ty_3 rfl rfl rfl) rfl (sq_end (qs_n (wp_bl (wp_sc (wp_sq (sq_v rfl (v_eql rfl rfl) rfl (sq_v rfl (v_assign rfl) rfl (sq_end (qs_n ?_)))))))))))))))); refine wp_cd rfl (fun c5 => ?_) (fun c5 => ?_)
  · refine wp_sc (wp_sq (sq_v rfl (v_fieldAddr fd_24_1 ty_3 (by decide) rfl) rfl (sq_v rfl (v_loadB 0 ty_3 rfl rfl rfl) rfl (sq_v rfl (v_eql rfl rfl) rfl ?_)))); refine sq_bd 9 rfl (fun c9 => ?_) (fun c9 => ?_)
    · refine sq_v rfl (v_move rfl) rfl (sq_v rfl (v_fieldAddr fd_24_2 ty_3 (by decide) rfl) rfl (sq_v rfl (v_loadB 0 ty_3 rfl rfl rfl) rfl (sq_v rfl (v_eql rfl rfl) rfl (sq_v rfl (v_pickt rfl rfl) rfl (sq_v rfl (v_assign rfl) rfl (sq_end (qs_n (wp_rt (qs_br (qs_r ?_)))))))))); exact qs_ret1 rfl rfl (fin_q (i := 1) rfl (rb (by simp [ringL, *] <;> omega)))
    · refine sq_v rfl (v_move rfl) rfl (sq_s rfl rfl (sq_s rfl rfl (sq_s rfl rfl (sq_v rfl (v_pickf rfl rfl) rfl (sq_v rfl (v_assign rfl) rfl (sq_end (qs_n (wp_rt (qs_br (qs_r ?_)))))))))); exact qs_ret1 rfl rfl (fin_q (i := 1) rfl (rb (by simp [ringL, *] <;> omega)))
  · refine wp_sc (wp_sq (sq_v rfl (v_eql rfl rfl) rfl (sq_v rfl (v_assign rfl) rfl (sq_end (qs_n ?_))))); refine wp_cd rfl (fun c15 => ?_) (fun c15 => ?_)
    · refine wp_sc (wp_sq (sq_v rfl (v_fieldAddr fd_24_1 ty_3 (by decide) rfl) rfl (sq_v rfl (v_loadB 0 ty_3 rfl rfl rfl) rfl (sq_u rfl (x_callv rfl en_108 (fun w s => ct_s_IsPrime _ w)) rfl ?_)))); refine sq_bb 19 rfl (fun c19 => ?_) (fun c19 => ?_)
      · refine sq_v rfl (v_move rfl) rfl (sq_v rfl (v_fieldAddr fd_24_2 ty_3 (by decide) rfl) rfl (sq_v rfl (v_loadB 0 ty_3 rfl rfl rfl) rfl (sq_v rfl (v_eql rfl rfl) rfl (sq_v rfl (v_pickt rfl rfl) rfl (sq_v rfl (v_assign rfl) rfl (sq_end (qs_n (wp_rt (qs_br (qs_r ?_)))))))))); exact qs_ret1 rfl rfl (fin_q (i := 1) rfl (rb (by simp [ringL, *] <;> omega)))
      · refine sq_v rfl (v_move rfl) rfl (sq_s rfl rfl (sq_s rfl rfl (sq_s rfl rfl (sq_v rfl (v_pickf rfl rfl) rfl (sq_v rfl (v_assign rfl) rfl (sq_end (qs_n (wp_rt (qs_br (qs_r ?_)))))))))); exact qs_ret1 rfl rfl (fin_q (i := 1) rfl (rb (by simp [ringL, *] <;> omega)))
    · refine wp_sc (wp_sc (wp_sq (sq_v rfl (v_eql rfl rfl) rfl (sq_v rfl (v_assign rfl) rfl (sq_end (qs_n ?_)))))); refine wp_cSd rfl (fun c25 => ?_) (fun c25 => ?_)
      · refine wp_sk (qs_n (wp_ct rfl (wp_sc (wp_sq (sq_v rfl (v_fieldAddr fd_24_1 ty_3 (by decide) rfl) rfl (sq_v rfl (v_loadB 0 ty_3 rfl rfl rfl) rfl (sq_u rfl (x_callv rfl en_109 (fun w s => ct_s_l01In _ _ _ w)) rfl ?_))))))); refine sq_bd 31 rfl (fun c31 => ?_) (fun c31 => ?_)
        · refine sq_v rfl (v_move rfl) rfl (sq_v rfl (v_fieldAddr fd_24_2 ty_3 (by decide) rfl) rfl (sq_v rfl (v_loadB 0 ty_3 rfl rfl rfl) rfl (sq_v rfl (v_eql rfl rfl) rfl (sq_v rfl (v_pickt rfl rfl) rfl (sq_v rfl (v_assign rfl) rfl (sq_end (qs_n (wp_rt (qs_br (qs_r ?_)))))))))); exact qs_ret1 rfl rfl (fin_q (i := 1) rfl (rb (by simp [ringL, *] <;> omega)))
        · refine sq_v rfl (v_move rfl) rfl (sq_s rfl rfl (sq_s rfl rfl (sq_s rfl rfl (sq_v rfl (v_pickf rfl rfl) rfl (sq_v rfl (v_assign rfl) rfl (sq_end (qs_n (wp_rt (qs_br (qs_r ?_)))))))))); exact qs_ret1 rfl rfl (fin_q (i := 1) rfl (rb (by simp [ringL, *] <;> omega)))
      · refine wp_sc (wp_sq (sq_v rfl (v_eql rfl rfl) rfl (sq_v rfl (v_assign rfl) rfl (sq_end (qs_n ?_))))); refine wp_cSd rfl (fun c25 => ?_) (fun c25 => ?_)
        · refine wp_sk (qs_n (wp_ct rfl (wp_sc (wp_sq (sq_v rfl (v_fieldAddr fd_24_1 ty_3 (by decide) rfl) rfl (sq_v rfl (v_loadB 0 ty_3 rfl rfl rfl) rfl (sq_u rfl (x_callv rfl en_109 (fun w s => ct_s_l01In _ _ _ w)) rfl ?_))))))); refine sq_bd 31 rfl (fun c31 => ?_) (fun c31 => ?_)
          · refine sq_v rfl (v_move rfl) rfl (sq_v rfl (v_fieldAddr fd_24_2 ty_3 (by decide) rfl) rfl (sq_v rfl (v_loadB 0 ty_3 rfl rfl rfl) rfl (sq_v rfl (v_eql rfl rfl) rfl (sq_v rfl (v_pickt rfl rfl) rfl (sq_v rfl (v_assign rfl) rfl (sq_end (qs_n (wp_rt (qs_br (qs_r ?_)))))))))); exact qs_ret1 rfl rfl (fin_q (i := 1) rfl (rb (by simp [ringL, *] <;> omega)))
          · refine sq_v rfl (v_move rfl) rfl (sq_s rfl rfl (sq_s rfl rfl (sq_s rfl rfl (sq_v rfl (v_pickf rfl rfl) rfl (sq_v rfl (v_assign rfl) rfl (sq_end (qs_n (wp_rt (qs_br (qs_r ?_)))))))))); exact qs_ret1 rfl rfl (fin_q (i := 1) rfl (rb (by simp [ringL, *] <;> omega)))
        · refine wp_sq (sq_v rfl (v_eql rfl rfl) rfl (sq_v rfl (v_assign rfl) rfl (sq_end (qs_n ?_)))); refine wp_cSd rfl (fun c25 => ?_) (fun c25 => ?_)
          · refine wp_sc (wp_sq (sq_v rfl (v_fieldAddr fd_24_1 ty_3 (by decide) rfl) rfl (sq_v rfl (v_loadB 0 ty_3 rfl rfl rfl) rfl (sq_u rfl (x_callv rfl en_109 (fun w s => ct_s_l01In _ _ _ w)) rfl ?_)))); refine sq_bd 31 rfl (fun c31 => ?_) (fun c31 => ?_)
            · refine sq_v rfl (v_move rfl) rfl (sq_v rfl (v_fieldAddr fd_24_2 ty_3 (by decide) rfl) rfl (sq_v rfl (v_loadB 0 ty_3 rfl rfl rfl) rfl (sq_v rfl (v_eql rfl rfl) rfl (sq_v rfl (v_pickt rfl rfl) rfl (sq_v rfl (v_assign rfl) rfl (sq_end (qs_n (wp_rt (qs_br (qs_r ?_)))))))))); exact qs_ret1 rfl rfl (fin_q (i := 1) rfl (rb (by simp [ringL, *] <;> omega)))
            · refine sq_v rfl (v_move rfl) rfl (sq_s rfl rfl (sq_s rfl rfl (sq_s rfl rfl (sq_v rfl (v_pickf rfl rfl) rfl (sq_v rfl (v_assign rfl) rfl (sq_end (qs_n (wp_rt (qs_br (qs_r ?_)))))))))); exact qs_ret1 rfl rfl (fin_q (i := 1) rfl (rb (by simp [ringL, *] <;> omega)))
          · refine wp_sc (wp_sq (sq_v rfl (v_eql rfl rfl) rfl (sq_v rfl (v_assign rfl) rfl (sq_end (qs_n ?_))))); refine wp_cd rfl (fun c37 => ?_) (fun c37 => ?_)
            · refine wp_sc (wp_sq (sq_v rfl (v_fieldAddr fd_24_1 ty_3 (by decide) rfl) rfl (sq_v rfl (v_loadB 0 ty_3 rfl rfl rfl) rfl (sq_v rfl (v_eql rfl rfl) rfl ?_)))); refine sq_bd 41 rfl (fun c41 => ?_) (fun c41 => ?_)
              · refine sq_v rfl (v_move rfl) rfl (sq_v rfl (v_fieldAddr fd_24_2 ty_3 (by decide) rfl) rfl (sq_v rfl (v_loadB 0 ty_3 rfl rfl rfl) rfl (sq_u rfl (x_callv rfl en_109 (fun w s => ct_s_l01In _ _ _ w)) rfl (sq_v rfl (v_pickt rfl rfl) rfl (sq_v rfl (v_assign rfl) rfl (sq_end (qs_n (wp_rt (qs_br (qs_r ?_)))))))))); exact qs_ret1 rfl rfl (fin_q (i := 1) rfl (rb (by simp [ringL, *] <;> omega)))
              · refine sq_v rfl (v_move rfl) rfl (sq_s rfl rfl (sq_s rfl rfl (sq_s rfl rfl (sq_v rfl (v_pickf rfl rfl) rfl (sq_v rfl (v_assign rfl) rfl (sq_end (qs_n (wp_rt (qs_br (qs_r ?_)))))))))); exact qs_ret1 rfl rfl (fin_q (i := 1) rfl (rb (by simp [ringL, *] <;> omega)))
            · refine wp_sc (wp_sq (sq_v rfl (v_eql rfl rfl) rfl (sq_v rfl (v_assign rfl) rfl (sq_end (qs_n ?_))))); refine wp_cd rfl (fun c47 => ?_) (fun c47 => ?_)
              · refine wp_sc (wp_sq (sq_v rfl (v_fieldAddr fd_24_1 ty_3 (by decide) rfl) rfl (sq_v rfl (v_loadB 0 ty_3 rfl rfl rfl) rfl (sq_u rfl (x_callv rfl en_108 (fun w s => ct_s_IsPrime _ w)) rfl ?_)))); refine sq_bb 51 rfl (fun c51 => ?_) (fun c51 => ?_)
                · refine sq_v rfl (v_move rfl) rfl (sq_v rfl (v_fieldAddr fd_24_2 ty_3 (by decide) rfl) rfl (sq_v rfl (v_loadB 0 ty_3 rfl rfl rfl) rfl (sq_u rfl (x_callv rfl en_109 (fun w s => ct_s_l01In _ _ _ w)) rfl (sq_v rfl (v_pickt rfl rfl) rfl (sq_v rfl (v_assign rfl) rfl (sq_end (qs_n (wp_rt (qs_br (qs_r ?_)))))))))); exact qs_ret1 rfl rfl (fin_q (i := 1) rfl (rb (by simp [ringL, *] <;> omega)))
                · refine sq_v rfl (v_move rfl) rfl (sq_s rfl rfl (sq_s rfl rfl (sq_s rfl rfl (sq_v rfl (v_pickf rfl rfl) rfl (sq_v rfl (v_assign rfl) rfl (sq_end (qs_n (wp_rt (qs_br (qs_r ?_)))))))))); exact qs_ret1 rfl rfl (fin_q (i := 1) rfl (rb (by simp [ringL, *] <;> omega)))
              · refine wp_sc (wp_sq (sq_v rfl (v_eql rfl rfl) rfl (sq_v rfl (v_assign rfl) rfl (sq_end (qs_n ?_))))); refine wp_cd rfl (fun c57 => ?_) (fun c57 => ?_)
                · refine wp_sc (wp_sq (sq_v rfl (v_fieldAddr fd_24_1 ty_3 (by decide) rfl) rfl (sq_v rfl (v_loadB 0 ty_3 rfl rfl rfl) rfl (sq_u rfl (x_callv rfl en_108 (fun w s => ct_s_IsPrime _ w)) rfl ?_)))); refine sq_bb 61 rfl (fun c61 => ?_) (fun c61 => ?_)
                  · refine sq_v rfl (v_move rfl) rfl (sq_v rfl (v_fieldAddr fd_24_1 ty_3 (by decide) rfl) rfl (sq_v rfl (v_loadB 0 ty_3 rfl rfl rfl) rfl (sq_v rfl (v_gtr rfl rfl) rfl (sq_v rfl (v_pickt rfl rfl) rfl ?_)))); refine sq_bd 66 rfl (fun c66 => ?_) (fun c66 => ?_)
                    · refine sq_v rfl (v_move rfl) rfl (sq_v rfl (v_fieldAddr fd_24_2 ty_3 (by decide) rfl) rfl (sq_v rfl (v_loadB 0 ty_3 rfl rfl rfl) rfl (sq_v rfl (v_eql rfl rfl) rfl (sq_v rfl (v_pickt rfl rfl) rfl (sq_v rfl (v_assign rfl) rfl (sq_end (qs_n (wp_rt (qs_br (qs_r ?_)))))))))); exact qs_ret1 rfl rfl (fin_q (i := 1) rfl (rb (by first | (have := prime2 c61; simp [ringL, *] <;> omega) | (simp [ringL, *] <;> omega) | simp [ringL, *])))
                    · refine sq_v rfl (v_move rfl) rfl (sq_s rfl rfl (sq_s rfl rfl (sq_s rfl rfl (sq_v rfl (v_pickf rfl rfl) rfl (sq_v rfl (v_assign rfl) rfl (sq_end (qs_n (wp_rt (qs_br (qs_r ?_)))))))))); exact qs_ret1 rfl rfl (fin_q (i := 1) rfl (rb (by first | (have := prime2 c61; simp [ringL, *] <;> omega) | (simp [ringL, *] <;> omega) | simp [ringL, *])))
                  · refine sq_v rfl (v_move rfl) rfl (sq_s rfl rfl (sq_s rfl rfl (sq_s rfl rfl (sq_v rfl (v_pickf rfl rfl) rfl (sq_v rfl (v_move rfl) rfl (sq_s rfl rfl (sq_s rfl rfl (sq_s rfl rfl (sq_v rfl (v_pickf rfl rfl) rfl ?_))))))))); refine sq_v rfl (v_assign rfl) rfl (sq_end (qs_n (wp_rt (qs_br (qs_r ?_))))); exact qs_ret1 rfl rfl (fin_q (i := 1) rfl (rb (by first | (have := prime2 c61; simp [ringL, *] <;> omega) | (simp [ringL, *] <;> omega) | simp [ringL, *])))
                · refine wp_sk (qs_bn (qs_n (wp_sc (wp_sq (sq_v rfl (v_assign rfl) rfl (sq_end (qs_n (wp_rt ?_)))))))); exact qs_ret1 rfl rfl (fin_q (i := 1) rfl (rb (by simp [ringL, *] <;> omega)))
theorem ct_i_RingOk (k m p : Int) (w : World) : Calls Tryz.prog 51 [ringV k m p].toArray w (RetV w (.bool (ringB k m p))) := by
  refine calls_in Tryz.func51 rfl Tryz.ntmps51 rfl (Sat.start w) (wp_sc (wp_sq ?_)); refine sq_x rfl (x_box rfl rfl) rfl ?_; rintro _ _ ⟨b1, rfl, rfl⟩; refine sq_v rfl (v_assign rfl) rfl (sq_end (qs_n (wp_sc (wp_sc (wp_sq (sq_v rfl (v_fieldAddr fd_24_0 ty_3 (by decide) rfl) rfl (sq_v rfl (v_loadB 0 ty_3 rfl rfl rfl) rfl (sq_end (qs_n (wp_bl (wp_sc (wp_sq (sq_v rfl (v_eql rfl rfl) rfl (sq_v rfl (v_assign rfl) rfl (sq_end (qs_n ?_)))))))))))))))); refine wp_cd rfl (fun c5 => ?_) (fun c5 => ?_)
  · refine wp_sc (wp_sq (sq_v rfl (v_fieldAddr fd_24_1 ty_3 (by decide) rfl) rfl (sq_v rfl (v_loadB 0 ty_3 rfl rfl rfl) rfl (sq_v rfl (v_eql rfl rfl) rfl ?_)))); refine sq_bd 9 rfl (fun c9 => ?_) (fun c9 => ?_)
    · refine sq_v rfl (v_move rfl) rfl (sq_v rfl (v_fieldAddr fd_24_2 ty_3 (by decide) rfl) rfl (sq_v rfl (v_loadB 0 ty_3 rfl rfl rfl) rfl (sq_v rfl (v_eql rfl rfl) rfl (sq_v rfl (v_pickt rfl rfl) rfl (sq_v rfl (v_assign rfl) rfl (sq_end (qs_n (wp_rt (qs_br (qs_r ?_)))))))))); exact qs_ret1 rfl rfl (fin_q (i := 1) rfl (rb (by simp [ringL, *] <;> omega)))
    · refine sq_v rfl (v_move rfl) rfl (sq_s rfl rfl (sq_s rfl rfl (sq_s rfl rfl (sq_v rfl (v_pickf rfl rfl) rfl (sq_v rfl (v_assign rfl) rfl (sq_end (qs_n (wp_rt (qs_br (qs_r ?_)))))))))); exact qs_ret1 rfl rfl (fin_q (i := 1) rfl (rb (by simp [ringL, *] <;> omega)))
  · refine wp_sc (wp_sq (sq_v rfl (v_eql rfl rfl) rfl (sq_v rfl (v_assign rfl) rfl (sq_end (qs_n ?_))))); refine wp_cd rfl (fun c15 => ?_) (fun c15 => ?_)
    · refine wp_sc (wp_sq (sq_v rfl (v_fieldAddr fd_24_1 ty_3 (by decide) rfl) rfl (sq_v rfl (v_loadB 0 ty_3 rfl rfl rfl) rfl (sq_u rfl (x_callv rfl en_85 (fun w s => ct_i_IsPrime _ w)) rfl ?_)))); refine sq_bb 19 rfl (fun c19 => ?_) (fun c19 => ?_)
      · refine sq_v rfl (v_move rfl) rfl (sq_v rfl (v_fieldAddr fd_24_2 ty_3 (by decide) rfl) rfl (sq_v rfl (v_loadB 0 ty_3 rfl rfl rfl) rfl (sq_v rfl (v_eql rfl rfl) rfl (sq_v rfl (v_pickt rfl rfl) rfl (sq_v rfl (v_assign rfl) rfl (sq_end (qs_n (wp_rt (qs_br (qs_r ?_)))))))))); exact qs_ret1 rfl rfl (fin_q (i := 1) rfl (rb (by simp [ringL, *] <;> omega)))
      · refine sq_v rfl (v_move rfl) rfl (sq_s rfl rfl (sq_s rfl rfl (sq_s rfl rfl (sq_v rfl (v_pickf rfl rfl) rfl (sq_v rfl (v_assign rfl) rfl (sq_end (qs_n (wp_rt (qs_br (qs_r ?_)))))))))); exact qs_ret1 rfl rfl (fin_q (i := 1) rfl (rb (by simp [ringL, *] <;> omega)))
    · refine wp_sc (wp_sc (wp_sq (sq_v rfl (v_eql rfl rfl) rfl (sq_v rfl (v_assign rfl) rfl (sq_end (qs_n ?_)))))); refine wp_cSd rfl (fun c25 => ?_) (fun c25 => ?_)
      · refine wp_sk (qs_n (wp_ct rfl (wp_sc (wp_sq (sq_v rfl (v_fieldAddr fd_24_1 ty_3 (by decide) rfl) rfl (sq_v rfl (v_loadB 0 ty_3 rfl rfl rfl) rfl (sq_v rfl (v_geq rfl rfl) rfl ?_))))))); refine sq_bd 31 rfl (fun c31 => ?_) (fun c31 => ?_)
        · refine sq_v rfl (v_move rfl) rfl (sq_v rfl (v_fieldAddr fd_24_1 ty_3 (by decide) rfl) rfl (sq_v rfl (v_loadB 0 ty_3 rfl rfl rfl) rfl (sq_v rfl (v_leq rfl rfl) rfl (sq_v rfl (v_pickt rfl rfl) rfl ?_)))); refine sq_bd 36 rfl (fun c36 => ?_) (fun c36 => ?_)
          · refine sq_v rfl (v_move rfl) rfl (sq_v rfl (v_fieldAddr fd_24_2 ty_3 (by decide) rfl) rfl (sq_v rfl (v_loadB 0 ty_3 rfl rfl rfl) rfl (sq_v rfl (v_eql rfl rfl) rfl (sq_v rfl (v_pickt rfl rfl) rfl (sq_v rfl (v_assign rfl) rfl (sq_end (qs_n (wp_rt (qs_br (qs_r ?_)))))))))); exact qs_ret1 rfl rfl (fin_q (i := 1) rfl (rb (by simp [ringL, *] <;> omega)))
          · refine sq_v rfl (v_move rfl) rfl (sq_s rfl rfl (sq_s rfl rfl (sq_s rfl rfl (sq_v rfl (v_pickf rfl rfl) rfl (sq_v rfl (v_assign rfl) rfl (sq_end (qs_n (wp_rt (qs_br (qs_r ?_)))))))))); exact qs_ret1 rfl rfl (fin_q (i := 1) rfl (rb (by simp [ringL, *] <;> omega)))
        · refine sq_v rfl (v_move rfl) rfl (sq_s rfl rfl (sq_s rfl rfl (sq_s rfl rfl (sq_v rfl (v_pickf rfl rfl) rfl (sq_v rfl (v_move rfl) rfl (sq_s rfl rfl (sq_s rfl rfl (sq_s rfl rfl (sq_v rfl (v_pickf rfl rfl) rfl ?_))))))))); refine sq_v rfl (v_assign rfl) rfl (sq_end (qs_n (wp_rt (qs_br (qs_r ?_))))); exact qs_ret1 rfl rfl (fin_q (i := 1) rfl (rb (by simp [ringL, *] <;> omega)))
      · refine wp_sc (wp_sq (sq_v rfl (v_eql rfl rfl) rfl (sq_v rfl (v_assign rfl) rfl (sq_end (qs_n ?_))))); refine wp_cSd rfl (fun c25 => ?_) (fun c25 => ?_)
        · refine wp_sk (qs_n (wp_ct rfl (wp_sc (wp_sq (sq_v rfl (v_fieldAddr fd_24_1 ty_3 (by decide) rfl) rfl (sq_v rfl (v_loadB 0 ty_3 rfl rfl rfl) rfl (sq_v rfl (v_geq rfl rfl) rfl ?_))))))); refine sq_bd 31 rfl (fun c31 => ?_) (fun c31 => ?_)
          · refine sq_v rfl (v_move rfl) rfl (sq_v rfl (v_fieldAddr fd_24_1 ty_3 (by decide) rfl) rfl (sq_v rfl (v_loadB 0 ty_3 rfl rfl rfl) rfl (sq_v rfl (v_leq rfl rfl) rfl (sq_v rfl (v_pickt rfl rfl) rfl ?_)))); refine sq_bd 36 rfl (fun c36 => ?_) (fun c36 => ?_)
            · refine sq_v rfl (v_move rfl) rfl (sq_v rfl (v_fieldAddr fd_24_2 ty_3 (by decide) rfl) rfl (sq_v rfl (v_loadB 0 ty_3 rfl rfl rfl) rfl (sq_v rfl (v_eql rfl rfl) rfl (sq_v rfl (v_pickt rfl rfl) rfl (sq_v rfl (v_assign rfl) rfl (sq_end (qs_n (wp_rt (qs_br (qs_r ?_)))))))))); exact qs_ret1 rfl rfl (fin_q (i := 1) rfl (rb (by simp [ringL, *] <;> omega)))
            · refine sq_v rfl (v_move rfl) rfl (sq_s rfl rfl (sq_s rfl rfl (sq_s rfl rfl (sq_v rfl (v_pickf rfl rfl) rfl (sq_v rfl (v_assign rfl) rfl (sq_end (qs_n (wp_rt (qs_br (qs_r ?_)))))))))); exact qs_ret1 rfl rfl (fin_q (i := 1) rfl (rb (by simp [ringL, *] <;> omega)))
          · refine sq_v rfl (v_move rfl) rfl (sq_s rfl rfl (sq_s rfl rfl (sq_s rfl rfl (sq_v rfl (v_pickf rfl rfl) rfl (sq_v rfl (v_move rfl) rfl (sq_s rfl rfl (sq_s rfl rfl (sq_s rfl rfl (sq_v rfl (v_pickf rfl rfl) rfl ?_))))))))); refine sq_v rfl (v_assign rfl) rfl (sq_end (qs_n (wp_rt (qs_br (qs_r ?_))))); exact qs_ret1 rfl rfl (fin_q (i := 1) rfl (rb (by simp [ringL, *] <;> omega)))
        · refine wp_sq (sq_v rfl (v_eql rfl rfl) rfl (sq_v rfl (v_assign rfl) rfl (sq_end (qs_n ?_)))); refine wp_cSd rfl (fun c25 => ?_) (fun c25 => ?_)
          · refine wp_sc (wp_sq (sq_v rfl (v_fieldAddr fd_24_1 ty_3 (by decide) rfl) rfl (sq_v rfl (v_loadB 0 ty_3 rfl rfl rfl) rfl (sq_v rfl (v_geq rfl rfl) rfl ?_)))); refine sq_bd 31 rfl (fun c31 => ?_) (fun c31 => ?_)
            · refine sq_v rfl (v_move rfl) rfl (sq_v rfl (v_fieldAddr fd_24_1 ty_3 (by decide) rfl) rfl (sq_v rfl (v_loadB 0 ty_3 rfl rfl rfl) rfl (sq_v rfl (v_leq rfl rfl) rfl (sq_v rfl (v_pickt rfl rfl) rfl ?_)))); refine sq_bd 36 rfl (fun c36 => ?_) (fun c36 => ?_)
              · refine sq_v rfl (v_move rfl) rfl (sq_v rfl (v_fieldAddr fd_24_2 ty_3 (by decide) rfl) rfl (sq_v rfl (v_loadB 0 ty_3 rfl rfl rfl) rfl (sq_v rfl (v_eql rfl rfl) rfl (sq_v rfl (v_pickt rfl rfl) rfl (sq_v rfl (v_assign rfl) rfl (sq_end (qs_n (wp_rt (qs_br (qs_r ?_)))))))))); exact qs_ret1 rfl rfl (fin_q (i := 1) rfl (rb (by simp [ringL, *] <;> omega)))
              · refine sq_v rfl (v_move rfl) rfl (sq_s rfl rfl (sq_s rfl rfl (sq_s rfl rfl (sq_v rfl (v_pickf rfl rfl) rfl (sq_v rfl (v_assign rfl) rfl (sq_end (qs_n (wp_rt (qs_br (qs_r ?_)))))))))); exact qs_ret1 rfl rfl (fin_q (i := 1) rfl (rb (by simp [ringL, *] <;> omega)))
            · refine sq_v rfl (v_move rfl) rfl (sq_s rfl rfl (sq_s rfl rfl (sq_s rfl rfl (sq_v rfl (v_pickf rfl rfl) rfl (sq_v rfl (v_move rfl) rfl (sq_s rfl rfl (sq_s rfl rfl (sq_s rfl rfl (sq_v rfl (v_pickf rfl rfl) rfl ?_))))))))); refine sq_v rfl (v_assign rfl) rfl (sq_end (qs_n (wp_rt (qs_br (qs_r ?_))))); exact qs_ret1 rfl rfl (fin_q (i := 1) rfl (rb (by simp [ringL, *] <;> omega)))
          · refine wp_sc (wp_sq (sq_v rfl (v_eql rfl rfl) rfl (sq_v rfl (v_assign rfl) rfl (sq_end (qs_n ?_))))); refine wp_cd rfl (fun c42 => ?_) (fun c42 => ?_)
            · refine wp_sc (wp_sq (sq_v rfl (v_fieldAddr fd_24_1 ty_3 (by decide) rfl) rfl (sq_v rfl (v_loadB 0 ty_3 rfl rfl rfl) rfl (sq_v rfl (v_eql rfl rfl) rfl ?_)))); refine sq_bd 46 rfl (fun c46 => ?_) (fun c46 => ?_)
              · refine sq_v rfl (v_move rfl) rfl (sq_v rfl (v_fieldAddr fd_24_2 ty_3 (by decide) rfl) rfl (sq_v rfl (v_loadB 0 ty_3 rfl rfl rfl) rfl (sq_v rfl (v_geq rfl rfl) rfl (sq_v rfl (v_pickt rfl rfl) rfl ?_)))); refine sq_bd 51 rfl (fun c51 => ?_) (fun c51 => ?_)
                · refine sq_v rfl (v_move rfl) rfl (sq_v rfl (v_fieldAddr fd_24_2 ty_3 (by decide) rfl) rfl (sq_v rfl (v_loadB 0 ty_3 rfl rfl rfl) rfl (sq_v rfl (v_leq rfl rfl) rfl (sq_v rfl (v_pickt rfl rfl) rfl (sq_v rfl (v_assign rfl) rfl (sq_end (qs_n (wp_rt (qs_br (qs_r ?_)))))))))); exact qs_ret1 rfl rfl (fin_q (i := 1) rfl (rb (by simp [ringL, *] <;> omega)))
                · refine sq_v rfl (v_move rfl) rfl (sq_s rfl rfl (sq_s rfl rfl (sq_s rfl rfl (sq_v rfl (v_pickf rfl rfl) rfl (sq_v rfl (v_assign rfl) rfl (sq_end (qs_n (wp_rt (qs_br (qs_r ?_)))))))))); exact qs_ret1 rfl rfl (fin_q (i := 1) rfl (rb (by simp [ringL, *] <;> omega)))
              · refine sq_v rfl (v_move rfl) rfl (sq_s rfl rfl (sq_s rfl rfl (sq_s rfl rfl (sq_v rfl (v_pickf rfl rfl) rfl (sq_v rfl (v_move rfl) rfl (sq_s rfl rfl (sq_s rfl rfl (sq_s rfl rfl (sq_v rfl (v_pickf rfl rfl) rfl ?_))))))))); refine sq_v rfl (v_assign rfl) rfl (sq_end (qs_n (wp_rt (qs_br (qs_r ?_))))); exact qs_ret1 rfl rfl (fin_q (i := 1) rfl (rb (by simp [ringL, *] <;> omega)))
            · refine wp_sc (wp_sq (sq_v rfl (v_eql rfl rfl) rfl (sq_v rfl (v_assign rfl) rfl (sq_end (qs_n ?_))))); refine wp_cd rfl (fun c57 => ?_) (fun c57 => ?_)
              · refine wp_sc (wp_sq (sq_v rfl (v_fieldAddr fd_24_1 ty_3 (by decide) rfl) rfl (sq_v rfl (v_loadB 0 ty_3 rfl rfl rfl) rfl (sq_u rfl (x_callv rfl en_85 (fun w s => ct_i_IsPrime _ w)) rfl ?_)))); refine sq_bb 61 rfl (fun c61 => ?_) (fun c61 => ?_)
                · refine sq_v rfl (v_move rfl) rfl (sq_v rfl (v_fieldAddr fd_24_2 ty_3 (by decide) rfl) rfl (sq_v rfl (v_loadB 0 ty_3 rfl rfl rfl) rfl (sq_v rfl (v_geq rfl rfl) rfl (sq_v rfl (v_pickt rfl rfl) rfl ?_)))); refine sq_bd 66 rfl (fun c66 => ?_) (fun c66 => ?_)
                  · refine sq_v rfl (v_move rfl) rfl (sq_v rfl (v_fieldAddr fd_24_2 ty_3 (by decide) rfl) rfl (sq_v rfl (v_loadB 0 ty_3 rfl rfl rfl) rfl (sq_v rfl (v_leq rfl rfl) rfl (sq_v rfl (v_pickt rfl rfl) rfl (sq_v rfl (v_assign rfl) rfl (sq_end (qs_n (wp_rt (qs_br (qs_r ?_)))))))))); exact qs_ret1 rfl rfl (fin_q (i := 1) rfl (rb (by simp [ringL, *] <;> omega)))
                  · refine sq_v rfl (v_move rfl) rfl (sq_s rfl rfl (sq_s rfl rfl (sq_s rfl rfl (sq_v rfl (v_pickf rfl rfl) rfl (sq_v rfl (v_assign rfl) rfl (sq_end (qs_n (wp_rt (qs_br (qs_r ?_)))))))))); exact qs_ret1 rfl rfl (fin_q (i := 1) rfl (rb (by simp [ringL, *] <;> omega)))
                · refine sq_v rfl (v_move rfl) rfl (sq_s rfl rfl (sq_s rfl rfl (sq_s rfl rfl (sq_v rfl (v_pickf rfl rfl) rfl (sq_v rfl (v_move rfl) rfl (sq_s rfl rfl (sq_s rfl rfl (sq_s rfl rfl (sq_v rfl (v_pickf rfl rfl) rfl ?_))))))))); refine sq_v rfl (v_assign rfl) rfl (sq_end (qs_n (wp_rt (qs_br (qs_r ?_))))); exact qs_ret1 rfl rfl (fin_q (i := 1) rfl (rb (by simp [ringL, *] <;> omega)))
              · refine wp_sc (wp_sq (sq_v rfl (v_eql rfl rfl) rfl (sq_v rfl (v_assign rfl) rfl (sq_end (qs_n ?_))))); refine wp_cd rfl (fun c72 => ?_) (fun c72 => ?_)
                · refine wp_sc (wp_sq (sq_v rfl (v_fieldAddr fd_24_1 ty_3 (by decide) rfl) rfl (sq_v rfl (v_loadB 0 ty_3 rfl rfl rfl) rfl (sq_u rfl (x_callv rfl en_85 (fun w s => ct_i_IsPrime _ w)) rfl ?_)))); refine sq_bb 76 rfl (fun c76 => ?_) (fun c76 => ?_)
                  · refine sq_v rfl (v_move rfl) rfl (sq_v rfl (v_fieldAddr fd_24_1 ty_3 (by decide) rfl) rfl (sq_v rfl (v_loadB 0 ty_3 rfl rfl rfl) rfl (sq_v rfl (v_neq rfl rfl) rfl (sq_v rfl (v_pickt rfl rfl) rfl ?_)))); refine sq_bd 81 rfl (fun c81 => ?_) (fun c81 => ?_)
                    · refine sq_v rfl (v_move rfl) rfl (sq_v rfl (v_fieldAddr fd_24_2 ty_3 (by decide) rfl) rfl (sq_v rfl (v_loadB 0 ty_3 rfl rfl rfl) rfl (sq_v rfl (v_eql rfl rfl) rfl (sq_v rfl (v_pickt rfl rfl) rfl (sq_v rfl (v_assign rfl) rfl (sq_end (qs_n (wp_rt (qs_br (qs_r ?_)))))))))); exact qs_ret1 rfl rfl (fin_q (i := 1) rfl (rb (by simp [ringL, *] <;> omega)))
                    · refine sq_v rfl (v_move rfl) rfl (sq_s rfl rfl (sq_s rfl rfl (sq_s rfl rfl (sq_v rfl (v_pickf rfl rfl) rfl (sq_v rfl (v_assign rfl) rfl (sq_end (qs_n (wp_rt (qs_br (qs_r ?_)))))))))); exact qs_ret1 rfl rfl (fin_q (i := 1) rfl (rb (by simp [ringL, *] <;> omega)))
                  · refine sq_v rfl (v_move rfl) rfl (sq_s rfl rfl (sq_s rfl rfl (sq_s rfl rfl (sq_v rfl (v_pickf rfl rfl) rfl (sq_v rfl (v_move rfl) rfl (sq_s rfl rfl (sq_s rfl rfl (sq_s rfl rfl (sq_v rfl (v_pickf rfl rfl) rfl ?_))))))))); refine sq_v rfl (v_assign rfl) rfl (sq_end (qs_n (wp_rt (qs_br (qs_r ?_))))); exact qs_ret1 rfl rfl (fin_q (i := 1) rfl (rb (by simp [ringL, *] <;> omega)))
                · refine wp_sk (qs_bn (qs_n (wp_sc (wp_sq (sq_v rfl (v_assign rfl) rfl (sq_end (qs_n (wp_rt ?_)))))))); exact qs_ret1 rfl rfl (fin_q (i := 1) rfl (rb (by simp [ringL, *] <;> omega)))
end Go.Proofs.YtdkgaejmgnojhaaGreat
namespace Go.Proofs.YtdkgaejmgnojhaaGreat
set_option maxRecDepth 100000
open Go.RowKit
theorem set_prefix {xs : List Int} {i : Nat} (h : i < xs.length) : (xs.take i ++ List.replicate (xs.length - i) 0).set i (xs.getD i 0) = xs.take (i + 1) ++ List.replicate (xs.length - (i + 1)) 0 := by
  apply List.ext_getElem
  · simp; omega
  · intro k h1 h2; rw [List.getElem_set]
    split
    · rename_i e; subst e
      rw [List.getElem_append_left (by simp; omega)]
      simp [h]
    · rename_i e
      rcases Nat.lt_or_ge k i with hk | hk
      · rw [List.getElem_append_left (by simp; omega), List.getElem_append_left (by simp; omega)]
        simp
      · rw [List.getElem_append_right (by simp; omega), List.getElem_append_right (by simp; omega)]
        simp
end Go.Proofs.YtdkgaejmgnojhaaGreat
