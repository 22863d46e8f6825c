/-
  Many parts of a heap as one, and a variable-length list of parts at the end of a state's parts.
  Conditions: none; every theorem here speaks of any program.
-/
import Derived.Test.YtikeobneipjfnaaAlt
namespace Go.Proofs.Ytikeobneipjfnaa
open Go.RowKit

def joinP (l : List PH) : PH := l.foldr PUn emp
theorem PDj.join {h : PH} : ∀ {l : List PH}, (∀ x ∈ l, PDj h x) → PDj h (joinP l)
  | [], _ => PDj.symm (PDj.emp h)
  | x :: r, hl => PDj.symm (PDj.un (PDj.symm (hl x (by simp))) (PDj.symm (PDj.join (fun y hy => hl y (by simp [hy])))))
theorem PLe.join : ∀ {l : List PH}, sepL l → ∀ h ∈ l, PLe h (joinP l)
  | [], _, h, hm => by simp at hm
  | x :: r, hs, h, hm => by
    rcases List.mem_cons.1 hm with rfl | hm
    · exact PLe.un_l _ _
    · exact (PLe.join hs.2 h hm).trans (PLe.un_r (PDj.join hs.1))
theorem joinP_dom : ∀ {l : List PH} {k : Nat} {o : Obj}, joinP l k = some o → ∃ h ∈ l, h k = some o
  | [], k, o, e => by simp [joinP, emp] at e
  | x :: r, k, o, e => by
    have e' : PUn x (joinP r) k = some o := e
    unfold PUn at e'
    split at e'
    · rename_i y hy; cases e'; exact ⟨x, by simp, hy⟩
    · obtain ⟨h, hm, he⟩ := joinP_dom e'
      exact ⟨h, by simp [hm], he⟩
/-- 'h' is made of the parts 'l'. -/
structure Made (h : PH) (l : List PH) : Prop where
  sep : sepL l
  le : ∀ x ∈ l, PLe x h
  dom : ∀ k o, h k = some o → ∃ x ∈ l, x k = some o
theorem Made.join {l : List PH} (h : sepL l) : Made (joinP l) l := ⟨h, PLe.join h, fun _ _ e => joinP_dom e⟩
theorem sepL_append : ∀ {a b : List PH}, sepL (a ++ b) ↔ sepL a ∧ sepL b ∧ ∀ x ∈ a, ∀ y ∈ b, PDj x y
  | [], b => by simp [sepL]
  | x :: r, b => by
    simp only [List.cons_append, sepL, sepL_append (a := r), List.mem_append, List.mem_cons]
    constructor
    · rintro ⟨h1, h2, h3, h4⟩
      exact ⟨⟨fun y hy => h1 y (.inl hy), h2⟩, h3, fun y hy z hz => by
        rcases hy with rfl | hy
        · exact h1 z (.inr hz)
        · exact h4 y hy z hz⟩
    · rintro ⟨⟨h1, h2⟩, h3, h4⟩
      exact ⟨fun y hy => hy.elim (h1 y) (h4 x (.inl rfl) y), h2, h3, fun y hy z hz => h4 y (.inr hy) z hz⟩
theorem sepL_comm {a b : List PH} (h : sepL (a ++ b)) : sepL (b ++ a) := by
  rw [sepL_append] at *
  exact ⟨h.2.1, h.1, fun x hx y hy => (h.2.2 y hy x hx).symm⟩
section
variable {w0 w : World} {HS : List PH}
theorem Sat.comm {A B : List PH} (s : Sat w0 (A ++ B) w) : Sat w0 (B ++ A) w :=
  ⟨s.os, s.tape, s.output, s.size, sepL_comm s.sep, fun x hx => s.le x (by simp only [List.mem_append] at *; exact hx.symm)⟩
/-- New parts to the end. -/
theorem Sat.toEnd (X A : List PH) {hs : List PH} (s : Sat w0 (X ++ A ++ hs) w) : Sat w0 (A ++ (hs ++ X)) w := by
  rw [List.append_assoc] at s
  have := s.comm
  rwa [List.append_assoc] at this
/-- A part made of many is parted; the many go to the end. -/
theorem Sat.open {h : PH} {l A : List PH} (m : Made h l) (s : Sat w0 (h :: A) w) : Sat w0 (A ++ l) w := by
  refine ⟨s.os, s.tape, s.output, s.size, sepL_append.2 ⟨s.sep.2, m.sep, fun x hx y hy => ?_⟩, fun x hx => ?_⟩
  · exact ((s.sep.1 x hx).mono (m.le y hy)).symm
  · rcases List.mem_append.1 hx with hx | hx
    · exact s.le x (by simp [hx])
    · exact (m.le x hx).trans (s.le h (by simp))
/-- The parts at the end made one. -/
theorem Sat.close {A l : List PH} (s : Sat w0 (A ++ l) w) : Sat w0 (joinP l :: A) w ∧ Made (joinP l) l := by
  have h := sepL_append.1 s.sep
  refine ⟨⟨s.os, s.tape, s.output, s.size, ⟨fun x hx => ?_, h.1⟩, fun x hx => ?_⟩, Made.join h.2.1⟩
  · exact (PDj.join (fun y hy => h.2.2 x hx y hy)).symm
  · rcases List.mem_cons.1 hx with rfl | hx
    · intro k o e
      obtain ⟨y, hy, e'⟩ := joinP_dom e
      exact s.le y (by simp [hy]) k o e'
    · exact s.le x (by simp [hx])
/-- Some parts ahead of the list, chosen by their places. -/
theorem Sat.pickT {A A' hs : List PH} (s : Sat w0 (A ++ hs) w) (l : List Nat) (hl : l.Nodup) (h : l.map (A[·]?) = A'.map some) : Sat w0 (A' ++ hs) w := by
  have h0 := sepL_append.1 s.sep
  have s1 : Sat w0 A w := ⟨s.os, s.tape, s.output, s.size, h0.1, fun x hx => s.le x (by simp [hx])⟩
  have s2 := s1.pick l hl h
  refine ⟨s.os, s.tape, s.output, s.size, sepL_append.2 ⟨s2.sep, h0.2.1, fun x hx y hy => ?_⟩, fun x hx => ?_⟩
  · obtain ⟨j, hj⟩ := List.getElem?_of_mem hx
    have h1 : (A'.map some)[j]? = some (some x) := by simp [hj]
    rw [← h] at h1
    simp only [List.getElem?_map, Option.map_eq_some_iff] at h1
    obtain ⟨i, _, h3⟩ := h1
    exact h0.2.2 x (List.mem_of_getElem? h3) y hy
  · rcases List.mem_append.1 hx with hx | hx
    · exact s2.le x hx
    · exact s.le x (by simp [hx])
/-- Some of the first m parts, chosen by their places; the rest as it is. -/
theorem Sat.pickF (s : Sat w0 HS w) (m : Nat) (l : List Nat) (hl : l.Nodup) (hm : l.all (fun i => decide (i < m)) = true) (hv : l.map (HS[·]?) = (l.filterMap (HS[·]?)).map some) : Sat w0 (l.filterMap (HS[·]?) ++ HS.drop m) w := by
  refine Sat.pickT (A := HS.take m) (by rw [List.take_append_drop]; exact s) l hl ?_
  rw [← hv]
  refine List.map_congr_left fun i hi => ?_
  have := List.all_eq_true.1 hm i hi
  rw [List.getElem?_take, if_pos (of_decide_eq_true this)]
end
section
variable {P : Program} {n : Nat} {w0 : World} {K : Env} {Q : Exit → Act → World → Prop} {ops : Array Oper} {rest : List Oper}
/-- An operation turns a part inside the list at the end. -/
theorem sq_mT {A hs : List PH} {o : Oper} (i p : Nat) {h : PH} {T : Value → PH → Prop} (hp : p = A.length + i) (hw : wantK ops K o.guard = some true) (hi : hs[i]? = some h) (hx : (A ++ hs)[p]? = some h → StepX P n w0 K (A ++ hs) o h T) (hf : fitsK n o.dst = true)
    (k : ∀ v h', T v h' → SQ P n w0 ops rest Q (putK o.dst v K) (A ++ hs.set i h')) : SQ P n w0 ops (o :: rest) Q K (A ++ hs) := by
  subst hp
  have h1 : (A ++ hs)[A.length + i]? = some h := by rw [List.getElem?_append_right (by omega), Nat.add_sub_cancel_left]; exact hi
  refine sq_m (A.length + i) hw h1 (hx h1) hf (fun v h' t => ?_)
  have h2 : (A ++ hs).set (A.length + i) h' = A ++ hs.set i h' := by
    rw [List.set_append_right _ _ (by omega), Nat.add_sub_cancel_left]
  rw [h2]
  exact k v h' t
theorem Sat.getT {w : World} {A hs : List PH} (s : Sat w0 (A ++ hs) w) {i : Nat} {h : PH} (hi : hs[i]? = some h) : PLe h (hp w) := s.le h (by have := List.mem_of_getElem? hi; simp [this])
end
end Go.Proofs.Ytikeobneipjfnaa
