/-
  The law's marks in a tensor, and answers of a network or a tensor with a yes or no.
  Conditions: none.
-/
import Derived.Test.YtikeobneipjfnaaLaw4
namespace Go.Proofs.Ytikeobneipjfnaa
set_option maxRecDepth 100000
open Go.RowKit
theorem ct_L_markTensor (t : Ten) (a b c : Value) (k : Int) (w : World) (h : PH) (hle : PLe h (hp w)) (r : TriO t a b c h) (hk : 0 ≤ k ∧ k + tenSize t ≤ 4611686018427387904) :
    Calls Try.prog 23 [tenV a b c, num k].toArray w (Ret w h (TenM a b c k (k + tenSize t))) := by
  obtain ⟨h1, h2, h3, r1, r2, r3, md⟩ := r
  unfold tenSize at hk
  have hent : Sat w [h1, h2, h3, restP w h] w := by
    have s1 := Sat.open (A := [restP w h]) md (Sat.start2 hle)
    exact s1.pick [1, 2, 3, 0] (by decide) rfl
  refine calls_in Try.func23 rfl Try.ntmps23 rfl hent ?_
  refine wp_sc ?_
  refine wp_sq ?_
  refine sq_x rfl (x_box rfl rfl) rfl ?_; rintro _ _ ⟨b2, rfl, rfl⟩
  refine sq_v rfl (v_assign rfl) rfl ?_
  refine sq_end ?_
  refine qs_n ?_
  refine wp_sc ?_
  refine wp_sq ?_
  refine sq_v rfl (v_fieldAddr fd_28_0 ty_24 (by decide) rfl) rfl ?_
  refine sq_v rfl (v_loadB 0 ty_24 rfl rfl rfl) rfl ?_
  refine sq_v rfl (v_move rfl) rfl ?_
  refine sq_m 1 rfl rfl (x_call rfl en_24 (fun w s => ct_l_markIntS t.l _ _ w _ (s.get 1 rfl) r1 (by omega))) rfl ?_; rintro _ h8 ⟨rfl, r8⟩
  refine sq_v rfl (v_assign rfl) rfl ?_
  refine sq_end ?_
  refine qs_n ?_
  refine wp_sc ?_
  refine wp_sq ?_
  refine sq_v rfl (v_fieldAddr fd_28_1 ty_24 (by decide) rfl) rfl ?_
  refine sq_v rfl (v_loadB 0 ty_24 rfl rfl rfl) rfl ?_
  refine sq_v rfl (v_move rfl) rfl ?_
  refine sq_m 2 rfl rfl (x_call rfl en_24 (fun w s => ct_l_markIntS t.d _ _ w _ (s.get 2 rfl) r2 (by omega))) rfl ?_; rintro _ h12 ⟨rfl, r12⟩
  refine sq_v rfl (v_assign rfl) rfl ?_
  refine sq_end ?_
  refine qs_n ?_
  refine wp_sc ?_
  refine wp_sq ?_
  refine sq_v rfl (v_fieldAddr fd_28_2 ty_24 (by decide) rfl) rfl ?_
  refine sq_v rfl (v_loadB 0 ty_24 rfl rfl rfl) rfl ?_
  refine sq_v rfl (v_move rfl) rfl ?_
  refine sq_m 3 rfl rfl (x_call rfl en_24 (fun w s => ct_l_markIntS t.x _ _ w _ (s.get 3 rfl) r3 (by omega))) rfl ?_; rintro _ h16 ⟨rfl, r16⟩
  refine sq_v rfl (v_assign rfl) rfl ?_
  refine sq_end ?_
  refine qs_n ?_
  refine wp_sc ?_
  refine wp_sq ?_
  refine sq_v rfl (v_move rfl) rfl ?_
  refine sq_v rfl (v_assign rfl) rfl ?_
  refine sq_end ?_
  refine qs_n ?_
  refine wp_rt ?_
  refine qs_close [restP w h] [h8, h12, h16] (fun _ s => s.pick [4, 1, 2, 3] (by decide) rfl) (fun md' => ?_)
  exact qs_ret1 rfl rfl (fin_m (i := 1) 0 rfl rfl rfl ⟨by congr 1; unfold tenSize; omega, ⟨_, _, _⟩, ⟨h8, h12, h16, r8, r12, r16, md'⟩, held_three k _ _ _ (by unfold tenSize; omega)⟩)
theorem ct_L_heldTensor (t : Ten) (a b c : Value) (k k' : Int) (w : World) (r1 : IntsR t.l a (hp w)) (r2 : IntsR t.d b (hp w)) (r3 : IntsR t.x c (hp w)) (hh : HeldL k [t.l, t.d, t.x] k') (hk : 0 ≤ k ∧ k' ≤ 4611686018427387904) :
    Calls Try.prog 25 [tenV a b c, num k].toArray w (RetV w (num k')) := by
  obtain ⟨g1, g2, g3, g4⟩ := hh
  have g4 : k + t.l.length + t.d.length + t.x.length = k' := g4
  refine calls_in Try.func25 rfl Try.ntmps25 rfl (Sat.start w) ?_
  refine wp_sc ?_
  refine wp_sq ?_
  refine sq_x rfl (x_box rfl rfl) rfl ?_; rintro _ _ ⟨b2, rfl, rfl⟩
  refine sq_v rfl (v_assign rfl) rfl ?_
  refine sq_end ?_
  refine qs_n ?_
  refine wp_sc ?_
  refine wp_sq ?_
  refine sq_v rfl (v_fieldAddr fd_28_0 ty_24 (by decide) rfl) rfl ?_
  refine sq_v rfl (v_loadB 0 ty_24 rfl rfl rfl) rfl ?_
  refine sq_v rfl (v_move rfl) rfl ?_
  refine sq_u rfl (x_callv rfl en_48 (fun w s => ct_l_heldIntS _ _ _ w (r1.mono (s.get 1 rfl)) g1 (by omega))) rfl ?_
  refine sq_v rfl (v_assign rfl) rfl ?_
  refine sq_end ?_
  refine qs_n ?_
  refine wp_sc ?_
  refine wp_sc ?_
  refine wp_sq ?_
  refine sq_v rfl (v_move rfl) rfl ?_
  refine sq_v rfl (v_lss rfl rfl) rfl ?_
  refine sq_end ?_
  refine qs_n ?_
  refine wp_cd rfl (fun c10 => ?_) (fun c10 => ?_)
  · refine wp_sc ?_
    refine wp_sq ?_
    refine sq_v rfl (v_assign rfl) rfl ?_
    refine sq_end ?_
    refine qs_n ?_
    refine wp_rt ?_
    refine qs_r ?_
    exact absurd c10 (by omega)
  · refine wp_sk ?_
    refine qs_n ?_
    refine wp_sc ?_
    refine wp_sq ?_
    refine sq_v rfl (v_fieldAddr fd_28_1 ty_24 (by decide) rfl) rfl ?_
    refine sq_v rfl (v_loadB 0 ty_24 rfl rfl rfl) rfl ?_
    refine sq_v rfl (v_move rfl) rfl ?_
    refine sq_u rfl (x_callv rfl en_48 (fun w s => ct_l_heldIntS _ _ _ w (r2.mono (s.get 1 rfl)) g2 (by omega))) rfl ?_
    refine sq_v rfl (v_assign rfl) rfl ?_
    refine sq_end ?_
    refine qs_n ?_
    refine wp_sc ?_
    refine wp_sc ?_
    refine wp_sq ?_
    refine sq_v rfl (v_move rfl) rfl ?_
    refine sq_v rfl (v_lss rfl rfl) rfl ?_
    refine sq_end ?_
    refine qs_n ?_
    refine wp_cd rfl (fun c16 => ?_) (fun c16 => ?_)
    · refine wp_sc ?_
      refine wp_sq ?_
      refine sq_v rfl (v_assign rfl) rfl ?_
      refine sq_end ?_
      refine qs_n ?_
      refine wp_rt ?_
      refine qs_r ?_
      exact absurd c16 (by omega)
    · refine wp_sk ?_
      refine qs_n ?_
      refine wp_sc ?_
      refine wp_sq ?_
      refine sq_v rfl (v_fieldAddr fd_28_2 ty_24 (by decide) rfl) rfl ?_
      refine sq_v rfl (v_loadB 0 ty_24 rfl rfl rfl) rfl ?_
      refine sq_v rfl (v_move rfl) rfl ?_
      refine sq_u rfl (x_callv rfl en_48 (fun w s => ct_l_heldIntS _ _ _ w (r3.mono (s.get 1 rfl)) g3 (by omega))) rfl ?_
      refine sq_v rfl (v_assign rfl) rfl ?_
      refine sq_end ?_
      refine qs_n ?_
      refine wp_sc ?_
      refine wp_sc ?_
      refine wp_sq ?_
      refine sq_v rfl (v_move rfl) rfl ?_
      refine sq_v rfl (v_lss rfl rfl) rfl ?_
      refine sq_end ?_
      refine qs_n ?_
      refine wp_cd rfl (fun c22 => ?_) (fun c22 => ?_)
      · refine wp_sc ?_
        refine wp_sq ?_
        refine sq_v rfl (v_assign rfl) rfl ?_
        refine sq_end ?_
        refine qs_n ?_
        refine wp_rt ?_
        refine qs_r ?_
        exact absurd c22 (by omega)
      · refine wp_sk ?_
        refine qs_n ?_
        refine wp_sc ?_
        refine wp_sq ?_
        refine sq_v rfl (v_move rfl) rfl ?_
        refine sq_v rfl (v_assign rfl) rfl ?_
        refine sq_end ?_
        refine qs_n ?_
        refine wp_rt ?_
        exact qs_ret1 rfl rfl (fin_q (i := 1) rfl (by rw [g4]))
/-- A network and whether there is one. -/
def NetB (k p n : Int) (ts : List Ten) (op : List Int) (b : Bool) (x : Value) (h : PH) : Prop := ∃ vt vo, x = .tuple [netV k p n vt vo, .bool b].toArray ∧ NetO ts op vt vo h
def TenB (t : Ten) (b : Bool) (x : Value) (h : PH) : Prop := ∃ va vb vc, x = .tuple [tenV va vb vc, .bool b].toArray ∧ TriO t va vb vc h
end Go.Proofs.Ytikeobneipjfnaa
