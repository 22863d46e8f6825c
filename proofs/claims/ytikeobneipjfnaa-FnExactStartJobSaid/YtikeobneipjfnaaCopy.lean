/-
  Copies of tensors and of networks, in the program and in the reference.
  Conditions: none.
-/
import Derived.Test.YtikeobneipjfnaaPerm2
import Derived.Test.YtikeobneipjfnaaOrd4
namespace Go.Proofs.Ytikeobneipjfnaa
set_option maxRecDepth 100000
open Go.RowKit
theorem Made.un {a b : PH} {la lb : List PH} (ma : Made a la) (mb : Made b lb) (hd : PDj a b) : Made (PUn a b) (la ++ lb) := by
  refine ⟨sepL_append.2 ⟨ma.sep, mb.sep, fun x hx y hy => (((hd.mono (ma.le x hx)).symm).mono (mb.le y hy)).symm⟩, fun x hx => ?_, fun k o e => ?_⟩
  · rcases List.mem_append.1 hx with hx | hx
    · exact (ma.le x hx).trans (PLe.un_l _ _)
    · exact (mb.le x hx).trans (PLe.un_r hd)
  · unfold PUn at e
    split at e
    · rename_i y hy
      cases e
      obtain ⟨x, hx, hxe⟩ := ma.dom k _ hy
      exact ⟨x, by simp [hx], hxe⟩
    · obtain ⟨x, hx, hxe⟩ := mb.dom k _ e
      exact ⟨x, by simp [hx], hxe⟩
/-- Slices that own their cells, all in one part. -/
def OwnH (xss : List (List Int)) (vs : List Value) (h : PH) : Prop := ∃ l, OwnL xss vs l ∧ Made h l
theorem OwnH.nil : OwnH [] [] emp := ⟨[], OwnL.nil, ⟨trivial, fun x hx => by simp at hx, fun k o e => by cases e⟩⟩
theorem OwnH.snoc {ts : List Ten} {t : Ten} {vs : List Value} {a b c : Value} {h h' : PH} (o : OwnH (flat ts) vs h) (r : TriO t a b c h') (hd : PDj h h') : OwnH (flat (ts ++ [t])) (vs ++ [a, b, c]) (PUn h h') := by
  obtain ⟨l, ol, m⟩ := o
  obtain ⟨h1, h2, h3, r1, r2, r3, m'⟩ := r
  refine ⟨l ++ [h1, h2, h3], ?_, m.un m' hd⟩
  rw [flat_append]
  exact ol.append (OwnL.three r1 r2 r3)
theorem ten_len {k p n : Int} {t : Ten} (h : tensorL k p n t.l t.d t.x) : t.l.length ≤ 12 ∧ t.d.length ≤ 12 ∧ t.x.length ≤ 17592186044416 := by
  have hax := tensor_axes h
  have h1 := prodI_one fun d hd => (dims_mem (axes_dims hax) d hd).1
  have := elt_fits h (i := 0) (by omega)
  exact ⟨hax.1, by have := hax.2.1; have := hax.1; omega, this.2⟩
end Go.Proofs.Ytikeobneipjfnaa
