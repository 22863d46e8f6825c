/-
  Parts of the proof of FnMarginals: laws of heaps, contracts of functions.
  Conditions: none.
-/
import Derived.Test.YtdkgaejmgnojhaaGreatQFnMarginals8
namespace Go.Proofs.YtdkgaejmgnojhaaGreat
set_option maxRecDepth 100000
open Go.RowKit
theorem dimG_in {x : Int} (h : 0 ≤ x ∧ x ≤ 5) : 1 ≤ dimG x ∧ dimG x ≤ 3 := by
  have h1 := Int.tmod_nonneg 3 (show 0 ≤ x + 1 by omega); have h2 := Int.tmod_lt_of_pos (x + 1) (show (0 : Int) < 3 by omega)
  unfold dimG
  omega
section
variable {ls : List Int}
end
theorem putL_in {S : Int → Prop} {xs ys : List Int} {lo : Nat} (hx : ∀ a ∈ xs, S a) (hy : ∀ a ∈ ys, S a) : ∀ a ∈ putL xs lo ys, S a := fun a ha => by
  unfold putL at ha
  rcases List.mem_append.1 ha with h | h
  · rcases List.mem_append.1 h with h | h
    · exact hx a (List.mem_of_mem_take h)
    · exact hy a h
  · exact hx a (List.mem_of_mem_drop h)
def GenT (k p n : Int) (t : Ten) : Prop := tensorL k p n t.l t.d t.x ∧ (t.l.Nodup ∧ ∀ x ∈ t.l, 0 ≤ x ∧ x ≤ 5) ∧ t.d = t.l.map dimG ∧ t.l.length ≤ 3
def FillM (k p n : Int) (vb vp : Value) (u : Value) (h : PH) : Prop := ∃ hc ht t, CurO vb vp hc ∧ TenT t u ht ∧ GenT k p n t ∧ Made h [hc, ht]
theorem dimZ_in {x : Int} (h : 0 ≤ x) : 1 ≤ dimG x ∧ dimG x ≤ 3 := by
  have h1 := Int.tmod_nonneg 3 (show 0 ≤ x + 1 by omega); have h2 := Int.tmod_lt_of_pos (x + 1) (show (0 : Int) < 3 by omega)
  unfold dimG
  omega
section
variable {ls : List Int}
theorem genZ_dims (h : ∀ x ∈ ls, 0 ≤ x ∧ x ≤ 99) : dimsIn (ls.map dimG) := fun j hj => by
  rw [List.length_map] at hj; rw [map_getD hj]; have := dimZ_in (h _ (mem_getD hj)).1
  omega
theorem genZ_axes (hn : ls.Nodup) (h : ∀ x ∈ ls, 0 ≤ x ∧ x ≤ 99) (hl : ls.length ≤ 3) : axesL ls (ls.map dimG) := by
  refine ⟨by omega, by simp, fun j hj => ⟨?_, ?_, nodup_not_take hn hj⟩⟩
  · have := h _ (mem_getD hj); omega
  · rw [map_getD hj]; have := dimZ_in (h _ (mem_getD hj)).1; omega
theorem genZ_prod (h : ∀ x ∈ ls, 0 ≤ x ∧ x ≤ 99) (hl : ls.length ≤ 3) : 1 ≤ prodI (ls.map dimG) ∧ prodI (ls.map dimG) ≤ 27 := by
  have M : ∀ a b A B : Int, 1 ≤ a ∧ a ≤ A → 1 ≤ b ∧ b ≤ B → 1 ≤ a * b ∧ a * b ≤ A * B := fun a b A B ha hb => by
    have h1 : 1 * 1 ≤ a * b := Int.mul_le_mul ha.1 hb.1 (by omega) (by omega); have h2 : a * b ≤ A * B := Int.mul_le_mul ha.2 hb.2 (by omega) (by omega)
    omega
  match ls, h, hl with
  | [], _, _ => exact ⟨by decide, by decide⟩
  | [a], h, _ =>
    have ha := dimZ_in (h a (by simp)).1; have := M 1 (dimG a) 1 3 (by omega) ha
    show 1 ≤ 1 * dimG a ∧ 1 * dimG a ≤ 27
    omega
  | [a, b], h, _ =>
    have ha := dimZ_in (h a (by simp)).1; have hb := dimZ_in (h b (by simp)).1; have h1 := M 1 (dimG a) 1 3 (by omega) ha; have h2 := M (1 * dimG a) (dimG b) (1 * 3) 3 h1 hb
    show 1 ≤ 1 * dimG a * dimG b ∧ 1 * dimG a * dimG b ≤ 27
    omega
  | [a, b, c], h, _ =>
    have ha := dimZ_in (h a (by simp)).1; have hb := dimZ_in (h b (by simp)).1; have hc := dimZ_in (h c (by simp)).1; have h1 := M 1 (dimG a) 1 3 (by omega) ha; have h2 := M (1 * dimG a) (dimG b) (1 * 3) 3 h1 hb; have h3 := M (1 * dimG a * dimG b) (dimG c) (1 * 3 * 3) 3 h2 hc
    show 1 ≤ 1 * dimG a * dimG b * dimG c ∧ 1 * dimG a * dimG b * dimG c ≤ 27
    omega
  | a :: b :: c :: d :: r, _, hl => simp at hl
end
/-- A tensor drawn over given labels. -/
def FillZ (k p n : Int) (ls : List Int) (vb vp : Value) (u : Value) (h : PH) : Prop := ∃ hc ht x a b c, u = tenV a b c ∧ CurO vb vp hc ∧ TriO ⟨ls, ls.map dimG, x⟩ a b c ht ∧ tensorL k p n ls (ls.map dimG) x ∧ Made h [hc, ht] ∧ IntsR ls a h ∧ IntsR (ls.map dimG) b h ∧ IntsR x c h
set_option maxHeartbeats 2000000 in
theorem ct_q_l05FillZ (k p n : Int) (xs ls : List Int) (vb vp va vd : Value) (w : World) (h : PH) (hle : PLe h (hp w)) (rc : CurO vb vp h) (rb : BytesR xs vb (restP w h)) (rl : IntsR ls va (restP w h)) (rd : IntsR (ls.map dimG) vd (restP w h)) (hr : ringL k p n) (hn : ls.Nodup) (hs : ∀ x ∈ ls, 0 ≤ x ∧ x ≤ 99) (hl : ls.length ≤ 3) :
    Calls Tryz.prog 41 [vp, ringV k p n, va, vd].toArray w (Ret w h (FillZ k p n ls vb vp)) := by
  have hwr := width_range hr; have htop := top_range hr; have hpr := genZ_prod hs hl; have hdi := genZ_dims hs; have hdl : (ls.map dimG).length ≤ 12 := by rw [List.length_map]; omega
  obtain ⟨Z, hZ⟩ : ∃ Z, Z = (List.replicate (prodI (ls.map dimG)).toNat (zeroL k p n)).flatten := ⟨_, rfl⟩
  have hz := zeroL_in hr; have hZl : Z.length = (prodI (ls.map dimG)).toNat * (widthI k n).toNat := by rw [hZ, List.length_flatten, List.map_replicate, hz.1]; simp
  have hZr : ∀ a ∈ Z, 0 ≤ a ∧ a ≤ topI k p n := fun a ha => by
    rw [hZ] at ha; obtain ⟨l, hl1, hl2⟩ := List.mem_flatten.1 ha; rw [(List.mem_replicate.1 hl1).2] at hl2; exact hz.2 a hl2
  refine calls_in Tryz.func41 rfl Tryz.ntmps41 rfl (Sat.start2 hle) ?_; have hle1 := rb.le; have hle2 := rl.le; have hle3 := rd.le; refine wp_sc (wp_sq ?_); refine sq_x rfl (x_box rfl rfl) rfl ?_; rintro _ _ ⟨b5, rfl, rfl⟩; refine sq_x rfl (x_alloc ty_40 rfl) rfl ?_; rintro _ _ ⟨b8, rfl, rfl⟩; refine sq_end (qs_n (wp_sc (wp_sq (sq_v rfl (v_loadNB 1 ty_24 rfl rfl rfl rfl) rfl (sq_v rfl (v_move rfl) rfl (sq_v rfl (v_move rfl) rfl ?_)))))); refine sq_x rfl (x_call rfl en_61 (fun w s => ct_s_l05Zero _ _ _ _ _ _ _ w hr (rl.mono (s.get 3 rfl)) (rd.mono (s.get 3 rfl)) hdi (by omega) (by omega) hdl)) rfl ?_; rintro _ h14 ⟨va14, vb14, vc14, rfl, o14⟩; refine sq_x rfl (x_alloc ty_40 rfl) rfl ?_; rintro _ _ ⟨b9, rfl, rfl⟩; refine sq_m 0 rfl rfl (m_store 0 ty_40 rfl rfl rfl rfl (by simp [o14.toR.1.sl.one, o14.toR.2.1.sl.one, o14.toR.2.2.sl.one]) rfl (Nat.le_of_ble_eq_true rfl)) rfl ?_; rintro _ _ ⟨rfl, rfl⟩; refine sq_end ?_; obtain ⟨ha14, hb14, hc14, ra14, rb14, rc14, md14⟩ := o14; rw [← hZ] at rc14; refine qs_s [box b9 [va14, vb14, vc14] 40, box b8 [.slice none 0 0, .slice none 0 0, .slice none 0 0] 40, box b5 [num k, num p, num n] 24, h, (restP w h), ha14, hb14, hc14] (fun _ s => Sat.open (A := [box b9 [va14, vb14, vc14] 40, box b8 [.slice none 0 0, .slice none 0 0, .slice none 0 0] 40, box b5 [num k, num p, num n] 24, h, (restP w h)]) md14 (s.pick [1, 0, 2, 3, 4, 5] (by decide) rfl)) ?_
  skip
  refine qs_n (wp_sc (wp_sc (wp_sq (sq_v rfl (v_assign rfl) rfl (sq_end (qs_n (wp_bl ?_))))))); refine wp_lp (σ := Nat × PH × PH × (List Int)) (fun z_ => [(0, vp), (3, vd), (5, .pointer (some ⟨b5, 0, none⟩)), (8, .pointer (some ⟨b8, 0, none⟩)), (9, .pointer (some ⟨b9, 0, none⟩)), (10, num z_.1)]) (fun z_ => [box b9 [va14, vb14, vc14] 40, box b8 [.slice none 0 0, .slice none 0 0, .slice none 0 0] 40, box b5 [num k, num p, num n] 24, z_.2.1, (restP w h), ha14, hb14, z_.2.2.1]) (fun z_ => z_.1 ≤ (prodI (ls.map dimG)).toNat ∧ z_.2.2.2.length = (prodI (ls.map dimG)).toNat * (widthI k n).toNat ∧ (∀ a ∈ z_.2.2.2, 0 ≤ a ∧ a ≤ topI k p n) ∧ CurO vb vp z_.2.1 ∧ IntsO z_.2.2.2 vc14 z_.2.2.1) (fun z_ => (prodI (ls.map dimG)).toNat - z_.1) (0, h, hc14, Z) (⟨by (try dsimp only); omega, hZl, hZr, rc, rc14⟩) ⟨rfl, rfl, rfl, rfl, rfl, (by first | rfl | exact ksub rfl (by first | omega | (simp; done) | (simp; omega))), trivial⟩ (fun _ s => s) ?_; rintro ⟨i, hc, hx, ys⟩ ⟨hi, hyl, hyr, cu, q⟩; dsimp only at hi hyl hyr cu q ⊢; have hle_q := q.toR.le; have hyb : ys.length ≤ 1000000 := by have h9 : (prodI (ls.map dimG)).toNat * (widthI k n).toNat ≤ 27 * 6 := Nat.mul_le_mul (by omega) (by omega); omega
  refine wp_sc (wp_sc (wp_sq (sq_v rfl (v_move rfl) rfl (sq_v rfl (v_move rfl) rfl (sq_u rfl (x_callv rfl en_60 (fun w s => ct_s_l05Product _ _ _ w (rd.mono (s.get 4 rfl)) hdi (by omega))) rfl (sq_v rfl (v_lss rfl rfl) rfl (sq_end (qs_n ?_)))))))); refine wp_cd rfl (fun c18 => ?_) (fun c18 => ?_)
  · refine wp_sk (qs_n (wp_sc (wp_bl (wp_rk [false, false, false, true, false, false, false, false] 6 [(0, true), (1, true), (2, true), (3, true), (4, true), (5, false), (6, false)] mixed_ok (by kernel_rfl) (rk_v rfl rfl (v_loadNB 2 ty_24 rfl rfl rfl rfl) rfl (rk_v rfl rfl (v_loadNB 0 ty_40 rfl rfl rfl rfl) rfl (rk_v rfl rfl (v_move rfl) rfl (rk_v rfl rfl (v_move rfl) rfl (rk_v rfl rfl (v_loadNB 2 ty_24 rfl rfl rfl rfl) rfl ?_))))))))); have hb9 : (i : Int) * widthI k n + widthI k n ≤ ys.length := (by have h8 : (i + 1) * (widthI k n).toNat ≤ (prodI (ls.map dimG)).toNat * (widthI k n).toNat := Nat.mul_le_mul_right _ (by omega); have h7 : (((i + 1) * (widthI k n).toNat : Nat) : Int) = (i : Int) * widthI k n + widthI k n := (by rw [Int.natCast_mul, Int.toNat_of_nonneg (by omega)]; rw [show ((i + 1 : Nat) : Int) = (i : Int) + 1 by omega, Int.add_mul, Int.one_mul]); rw [hyl, ← h7]; omega)
    refine rk_m 3 rfl rfl rfl rfl (x_call rfl en_82 (fun w s => ct_s_l02Draw k p n xs vb vp w _ (s.get 3 rfl) cu (rb.mono (s.getR 3 4 rfl rfl (by decide))) hr)) rfl ?_; rintro v26 h26 ⟨hc26, hx26, e26, cu26, r26, hin26, md26⟩; refine rk_mt 7 rfl rfl rfl rfl (x_call rfl en_65 (fun w s => ct_s_l05Put k p n i ls (ls.map dimG) ys e26 va14 vb14 vc14 v26 w _ hr (s.get 7 rfl) (ra14.toR.mono (s.getR 7 5 rfl rfl (by decide))) (rb14.toR.mono (s.getR 7 6 rfl rfl (by decide))) q (r26.toR.mono ((md26.le hx26 (by simp)).trans (s.getR 7 3 rfl rfl (by decide)))) hin26.1 (by omega) hb9 hyb)) rfl ?_; rintro _ h27 r27; refine rk_end (qs_s [box b9 [va14, vb14, vc14] 40, box b8 [.slice none 0 0, .slice none 0 0, .slice none 0 0] 40, box b5 [num k, num p, num n] 24, (restP w h), ha14, hb14, h27, hc26, hx26] (fun _ s => Sat.open (A := [box b9 [va14, vb14, vc14] 40, box b8 [.slice none 0 0, .slice none 0 0, .slice none 0 0] 40, box b5 [num k, num p, num n] 24, (restP w h), ha14, hb14, h27]) md26 (s.pick [3, 0, 1, 2, 4, 5, 6, 7] (by decide) rfl)) ?_); have hlo : ((i : Int) * widthI k n).toNat + e26.length ≤ ys.length := by have h6 := hin26.1; have h5 : 0 ≤ (i : Int) * widthI k n := Int.mul_nonneg (by omega) (by omega); omega
    refine qs_bn (qs_n (wp_sq (sq_v rfl (v_move rfl) rfl ?_))); refine sq_v rfl (v_add rfl rfl ((by unfold I64; omega))) rfl ?_; refine sq_v rfl (v_assign rfl) rfl (sq_end ?_); exact qs_bk (i + 1, hc26, h27, (putL ys ((i : Int) * widthI k n).toNat e26)) ⟨by (try dsimp only); omega, by (try dsimp only); rw [putL_len hlo]; exact hyl, putL_in hyr hin26.2, cu26, r27⟩ (by simp only; omega) ⟨rfl, rfl, rfl, rfl, rfl, (by first | rfl | exact ksub rfl (by first | omega | (simp; done) | (simp; omega))), trivial⟩ (fun _ s => s.pick [0, 1, 2, 7, 3, 4, 5, 6] (by decide) rfl)
  · refine wp_ex (qs_x (qs_x (qs_bx (qs_n (wp_sc (wp_sq (sq_v rfl (v_loadNB 0 ty_40 rfl rfl rfl rfl) rfl ?_))))))); refine sq_m 1 rfl rfl (m_store 1 ty_40 rfl rfl rfl rfl (by simp [ra14.toR.sl.one, rb14.toR.sl.one, q.toR.sl.one]) rfl (Nat.le_of_ble_eq_true rfl)) rfl ?_; rintro _ _ ⟨rfl, rfl⟩; refine sq_end (qs_n (wp_rt ?_)); refine qs_close [restP w h, hc, _] [ha14, hb14, hx] (fun _ s => s.pick [4, 3, 1, 5, 6, 7] (by decide) rfl) (fun md1 => ?_); refine qs_close [restP w h, _] [hc, joinP [ha14, hb14, hx]] (fun _ s => s.pick [1, 3, 2, 0] (by decide) rfl) (fun md2 => ?_); have hsz : sizeI ls (ls.map dimG) = prodI (ls.map dimG) := sizeI_yes (genZ_axes hn hs hl) (by omega); have hgt : tensorL k p n ls (ls.map dimG) ys := ⟨hr, by rw [hsz]; omega, by rw [hsz, hyl, Int.natCast_mul, Int.toNat_of_nonneg (by omega), Int.toNat_of_nonneg (by omega)], hyr⟩
    have ho : TriO ⟨ls, ls.map dimG, ys⟩ va14 vb14 vc14 (joinP [ha14, hb14, hx]) := ⟨ha14, hb14, hx, ra14, rb14, q, md1⟩
    exact qs_retc 2 rfl ty_40 rfl rfl rfl (fin_m (i := 1) 0 rfl rfl rfl ⟨hc, _, ys, _, _, _, rfl, cu, ho, hgt, md2, ho.toR.1.mono (md2.le _ (by simp)), ho.toR.2.1.mono (md2.le _ (by simp)), ho.toR.2.2.mono (md2.le _ (by simp))⟩)
theorem ct_s_l05Fill (k p n : Int) (xs ls : List Int) (vb vp va vd : Value) (w : World) (h : PH) (hle : PLe h (hp w)) (rc : CurO vb vp h) (rb : BytesR xs vb (restP w h)) (rl : IntsR ls va (restP w h)) (rd : IntsR (ls.map dimG) vd (restP w h)) (hr : ringL k p n) (hn : ls.Nodup) (hs : ∀ x ∈ ls, 0 ≤ x ∧ x ≤ 5) (hl : ls.length ≤ 3) :
    Calls Tryz.prog 41 [vp, ringV k p n, va, vd].toArray w (Ret w h (FillM k p n vb vp)) :=
  (ct_q_l05FillZ k p n xs ls vb vp va vd w h hle rc rb rl rd hr hn (fun x hx => ⟨(hs x hx).1, by have := (hs x hx).2; omega⟩) hl).mono fun _ _ ⟨u, h', he, up, hc, ht, x, a, b, c, hu, cu, o, hgt, md, _, _, _⟩ => ⟨u, h', he, up, hc, ht, ⟨ls, ls.map dimG, x⟩, cu, ⟨a, b, c, hu, o⟩, ⟨hgt, ⟨hn, hs⟩, rfl, hl⟩, md⟩
end Go.Proofs.YtdkgaejmgnojhaaGreat
namespace Go.Proofs.YtdkgaejmgnojhaaGreat
set_option maxRecDepth 100000
open Go.RowKit
set_option maxHeartbeats 1000000 in
theorem ct_s_l05Draw (k p n : Int) (xs : List Int) (vb vp : Value) (w : World) (h : PH) (hle : PLe h (hp w)) (rc : CurO vb vp h) (rb : BytesR xs vb (restP w h)) (hr : ringL k p n) :
    Calls Tryz.prog 78 [vp, ringV k p n].toArray w (Ret w h (FillM k p n vb vp)) := by
  refine calls_in Tryz.func78 rfl Tryz.ntmps78 rfl (Sat.start2 hle) ?_; have hle1 := rb.le; refine wp_sc (wp_sq ?_); refine sq_x rfl (x_box rfl rfl) rfl ?_; rintro _ _ ⟨b3, rfl, rfl⟩; refine sq_x rfl (x_alloc ty_40 rfl) rfl ?_; rintro _ _ ⟨b4, rfl, rfl⟩; refine sq_end (qs_n (wp_sc (wp_sq (sq_v rfl (v_move rfl) rfl ?_)))); refine sq_m 2 rfl rfl (x_call rfl en_103 (fun w s => ct_s_l05Labels xs vb vp w _ (s.get 2 rfl) rc (rb.mono (s.getR 2 3 rfl rfl (by decide))))) rfl ?_; rintro _ h9 ⟨hc9, ha9, hd9, va9, vd9, ls9, rfl, cu9, ra9, rd9, hls9, hl9, md9⟩; refine sq_v rfl (v_move rfl) rfl (sq_v rfl (v_extract rfl rfl) rfl (sq_v rfl (v_extract rfl rfl) rfl (sq_v rfl (v_assign rfl) rfl (sq_v rfl (v_assign rfl) rfl (sq_end (qs_s [box b4 [.slice none 0 0, .slice none 0 0, .slice none 0 0] 40, box b3 [num k, num p, num n] 24, (restP w h), hc9, ha9, hd9] (fun _ s => Sat.open (A := [box b4 [.slice none 0 0, .slice none 0 0, .slice none 0 0] 40, box b3 [num k, num p, num n] 24, (restP w h)]) md9 (s.pick [2, 0, 1, 3] (by decide) rfl)) ?_))))))
  skip
  refine qs_n (wp_sc (wp_sq (sq_v rfl (v_move rfl) rfl (sq_v rfl (v_loadNB 1 ty_24 rfl rfl rfl rfl) rfl (sq_v rfl (v_move rfl) rfl (sq_v rfl (v_move rfl) rfl ?_)))))); refine sq_m 3 rfl rfl (x_call rfl en_41 (fun w s => ct_s_l05Fill k p n xs ls9 vb vp va9 vd9 w _ (s.get 3 rfl) cu9 (rb.mono (s.getR 3 2 rfl rfl (by decide))) (ra9.toR.mono (s.getR 3 4 rfl rfl (by decide))) (rd9.toR.mono (s.getR 3 5 rfl rfl (by decide))) hr hls9.1 hls9.2 hl9)) rfl ?_; rintro _ h16 ⟨hc16, ht16, t16, cu16, ⟨a16, b16, c16, rfl, o16⟩, hg16, md16⟩; refine sq_m 0 rfl rfl (m_store 0 ty_40 rfl rfl rfl rfl (by simp [o16.toR.1.sl.one, o16.toR.2.1.sl.one, o16.toR.2.2.sl.one]) rfl (Nat.le_of_ble_eq_true rfl)) rfl ?_; rintro _ _ ⟨rfl, rfl⟩; refine sq_end (qs_n (wp_rt ?_)); exact qs_retc 0 rfl ty_40 rfl rfl rfl (fin_m (i := 2) 3 rfl rfl rfl ⟨hc16, ht16, t16, cu16, ⟨_, _, _, rfl, o16⟩, hg16, md16⟩)
def GenN (k p n : Int) (ts : List Ten) (op : List Int) : Prop := (∀ t ∈ ts, GenT k p n t) ∧ ts.length ≤ 4 ∧ op.Nodup ∧ ∀ x ∈ op, x ∈ labelsL ts
def NetGM (k p n : Int) (vb vp : Value) (u : Value) (h : PH) : Prop := ∃ hc hn ts op, CurO vb vp hc ∧ NetT k p n ts op u hn ∧ GenN k p n ts op ∧ Made h [hc, hn]
end Go.Proofs.YtdkgaejmgnojhaaGreat
namespace Go.Proofs.YtdkgaejmgnojhaaGreat
set_option maxRecDepth 100000
open Go.RowKit
def FillR (k p n : Int) (vb vp : Value) (u : Value) (h : PH) : Prop := ∃ hc ht t a b c, u = tenV a b c ∧ CurO vb vp hc ∧ TriO t a b c ht ∧ GenT k p n t ∧ Made h [hc, ht] ∧ IntsR t.l a h ∧ IntsR t.d b h ∧ IntsR t.x c h
theorem ct_s_l05DrawR (k p n : Int) (xs : List Int) (vb vp : Value) (w : World) (h : PH) (hle : PLe h (hp w)) (rc : CurO vb vp h) (rb : BytesR xs vb (restP w h)) (hr : ringL k p n) :
    Calls Tryz.prog 78 [vp, ringV k p n].toArray w (Ret w h (FillR k p n vb vp)) :=
  (ct_s_l05Draw k p n xs vb vp w h hle rc rb hr).mono fun e w' ⟨u, h', he, up, hc, ht, t, cu, ⟨a, b, c, hu, o⟩, hg, md⟩ =>
    ⟨u, h', he, up, hc, ht, t, a, b, c, hu, cu, o, hg, md, o.toR.1.mono (md.le ht (by simp)), o.toR.2.1.mono (md.le ht (by simp)), o.toR.2.2.mono (md.le ht (by simp))⟩
set_option maxHeartbeats 2000000 in
theorem ct_s_l12Net (k p n : Int) (xs : List Int) (vb vp : Value) (w : World) (h : PH) (hle : PLe h (hp w)) (rc : CurO vb vp h) (rb : BytesR xs vb (restP w h)) (hr : ringL k p n) :
    Calls Tryz.prog 37 [vp, ringV k p n, num 4].toArray w (Ret w h (NetGM k p n vb vp)) := by
  refine calls_in Tryz.func37 rfl Tryz.ntmps37 rfl (Sat.start2 hle) ?_; have hle1 := rb.le; refine wp_sc (wp_sq ?_); refine sq_x rfl (x_box rfl rfl) rfl ?_; rintro _ _ ⟨b4, rfl, rfl⟩; refine sq_x rfl (x_alloc ty_28 rfl) rfl ?_; rintro _ _ ⟨b6, rfl, rfl⟩; refine sq_end (qs_n (wp_sc (wp_sq (sq_v rfl (v_loadNB 1 ty_24 rfl rfl rfl rfl) rfl (sq_v rfl (v_build [num k, num p, num n, .slice none 0 0, .slice none 0 0] rfl (by kernel_rfl)) rfl ?_))))); refine sq_x rfl (x_alloc ty_28 rfl) rfl ?_; rintro _ _ ⟨b7, rfl, rfl⟩; refine sq_m 0 rfl rfl (m_store 0 ty_28 rfl rfl rfl rfl (by simp [one_int, one_sl]) rfl (Nat.le_of_ble_eq_true rfl)) rfl ?_; rintro _ _ ⟨rfl, rfl⟩; refine sq_end (qs_n (wp_sc (wp_sc (wp_sq (sq_v rfl (v_move rfl) rfl (sq_v rfl (v_move rfl) rfl ?_)))))); refine sq_v rfl (v_add rfl rfl ((by unfold I64; omega))) rfl ?_; refine sq_m 3 rfl rfl (x_call rfl en_39 (fun w s => ct_s_l01Below _ _ _ _ w _ (s.get 3 rfl) rc (rb.mono (s.getR 3 4 rfl rfl (by decide))) (by omega))) rfl ?_; rintro _ h16 ⟨x16, rfl, hx16, hy16, cu16⟩; refine sq_v rfl (v_assign rfl) rfl (sq_end (qs_n (wp_bl ?_))); refine wp_lp (σ := Int × PH × Value × PH × (List Value) × PH × (List Ten)) (fun z_ => [(0, vp), (4, .pointer (some ⟨b4, 0, none⟩)), (6, .pointer (some ⟨b6, 0, none⟩)), (7, .pointer (some ⟨b7, 0, none⟩)), (8, num z_.1)]) (fun z_ => [z_.2.2.2.1, z_.2.2.2.2.2.1, box b7 [num k, num p, num n, z_.2.2.1, .slice none 0 0] 28, box b6 [num 0, num 0, num 0, .slice none 0 0, .slice none 0 0] 28, box b4 [num k, num p, num n] 24, z_.2.1, (restP w h)]) (fun z_ => (0 ≤ z_.1 ∧ z_.1 + z_.2.2.2.2.2.2.length ≤ 4) ∧ OwnH (flat z_.2.2.2.2.2.2) z_.2.2.2.2.1 z_.2.2.2.2.2.1 ∧ (∀ t ∈ z_.2.2.2.2.2.2, GenT k p n t) ∧ CurO vb vp z_.2.1 ∧ RowO (40) z_.2.2.2.2.1 z_.2.2.2.2.2.2.length 3 z_.2.2.1 z_.2.2.2.1) (fun z_ => z_.1.toNat) (x16, h16, .slice none 0 0, emp, [], emp, []) (⟨by (try dsimp only); simp; omega, OwnH.nil, (fun t ht => (List.not_mem_nil ht).elim), cu16, RowO.nil⟩) ⟨rfl, rfl, rfl, rfl, (by first | rfl | exact ksub rfl (by first | omega | (simp; done) | (simp; omega))), trivial⟩ (fun _ s => (emp_sat (emp_sat s))) ?_; rintro ⟨e, hc, vt, ht, cs, ho, ts⟩ ⟨he, how, hts, cu, q⟩; dsimp only at he how hts cu q ⊢; refine wp_sc (wp_sc (wp_sq (sq_v rfl (v_move rfl) rfl (sq_v rfl (v_gtr rfl rfl) rfl (sq_end (qs_n ?_)))))); refine wp_cd rfl (fun c18 => ?_) (fun c18 => ?_)
  · refine wp_sk (qs_n (wp_sc (wp_bl (wp_rk [false, false, false, false, false, true, false] 6 [(0, true), (1, true), (2, true), (3, true), (4, false), (5, false), (6, false), (7, false), (8, false)] mixed_ok (by kernel_rfl) (rk_v rfl rfl (v_fieldAddr fd_28_1 ty_25 (by decide) rfl) rfl (rk_v rfl rfl (v_loadB 2 ty_25 rfl rfl rfl) rfl (rk_v rfl rfl (v_move rfl) rfl (rk_v rfl rfl (v_loadNB 4 ty_24 rfl rfl rfl rfl) rfl ?_)))))))); refine rk_m 5 rfl rfl rfl rfl (x_call rfl en_78 (fun w s => ct_s_l05DrawR k p n xs vb vp w _ (s.get 5 rfl) cu (rb.mono (s.getR 5 6 rfl rfl (by decide))) hr)) rfl ?_; rintro _ h25 ⟨hc25, ht25, t25, a25, b25, c25, rfl, cu25, o25, hg25, md25, ra25, rb25, rc25⟩; refine rk_x rfl rfl (x_buildS [.agg [a25, b25, c25].toArray] Tryz.underlying25 ty_40 (by decide) rfl rfl rfl (by decide) (by decide) (by intro v hv; simp at hv; subst hv; rfl)) rfl ?_; intro v26 h26 (r26 : RowO 40 [a25, b25, c25] 1 3 v26 h26); refine rk_mt 1 rfl rfl rfl rfl (m_append 1 0 Tryz.underlying25 ty_40 rfl rfl (by decide) rfl rfl rfl q rfl r26.toR (by simp [ra25.sl.one, rb25.sl.one, rc25.sl.one]) (by unfold maxLen; omega) (by omega)) rfl ?_; intro v27 h_r27 (r27 : RowO 40 (cs ++ [a25, b25, c25]) (ts.length + 1) 3 v27 h_r27); refine rk_fv rfl rfl (v_fieldAddr fd_28_1 ty_25 (by decide) rfl) rfl ?_; refine rk_mt 3 rfl rfl rfl rfl (m_store1 3 ty_25 rfl rfl r27.toR.sl.one rfl (Nat.le_of_ble_eq_true rfl)) rfl ?_; rintro _ _ ⟨rfl, rfl⟩; refine rk_end (qs_s [h26, h_r27, ho, box b7 [num k, num p, num n, v27, .slice none 0 0] 28, box b6 [num 0, num 0, num 0, .slice none 0 0, .slice none 0 0] 28, box b4 [num k, num p, num n] 24, (restP w h), hc25, ht25] (fun _ s => Sat.open (A := [h26, h_r27, ho, box b7 [num k, num p, num n, v27, .slice none 0 0] 28, box b6 [num 0, num 0, num 0, .slice none 0 0, .slice none 0 0] 28, box b4 [num k, num p, num n] 24, (restP w h)]) md25 (s.pick [6, 0, 1, 2, 3, 4, 5, 7] (by decide) rfl)) ?_); refine qs_dj 2 8 rfl rfl rfl (fun hd1 => ?_); refine qs_s [PUn ho ht25, _, _, _, _, _, _] (fun _ s => Sat.merge (s.pick [2, 8, 6, 7, 1, 3, 4, 5] (by decide) rfl)) (qs_bn (qs_n (wp_sq (sq_v rfl (v_move rfl) rfl ?_)))); refine sq_v rfl (v_sub rfl rfl ((by unfold I64; omega))) rfl ?_; refine sq_v rfl (v_assign rfl) rfl (sq_end ?_); exact qs_bk ((e - 1), hc25, v27, h_r27, (cs ++ [a25, b25, c25]), (PUn ho ht25), (ts ++ [t25])) ⟨by (try dsimp only); simp; omega, how.snoc o25 hd1, (fun t h9 => by rcases List.mem_append.1 h9 with h8 | h8; exact hts t h8; rw [List.mem_singleton.1 h8]; exact hg25), cu25, by (try dsimp only); rw [List.length_append]; exact r27⟩ (by simp only; omega) ⟨rfl, rfl, rfl, rfl, (by first | rfl | exact ksub rfl (by first | omega | (simp; done) | (simp; omega))), trivial⟩ (fun _ s => s.pick [3, 0, 4, 5, 6, 2, 1] (by decide) rfl)
  · refine wp_ex (qs_x (qs_x (qs_bx (qs_n (wp_sc (wp_sc (wp_sq (sq_v rfl (v_move rfl) rfl (sq_v rfl (v_fieldAddr fd_28_1 ty_25 (by decide) rfl) rfl (sq_v rfl (v_loadB 2 ty_25 rfl rfl rfl) rfl ?_)))))))))); refine sq_x rfl (x_call rfl en_58 (fun w s => ct_s_l12Labels ts _ w (OwnH.tensR how q.toR (s.get 0 rfl) (s.get 1 rfl)) (fun t h9 => axes_ok (tensor_axes (hts t h9).1)))) rfl ?_; rintro v32 h32 r32; have hlb : (labelsL ts).length ≤ 100 := labels_len ts 100; refine sq_m 6 rfl rfl (x_call rfl en_79 (fun w s => ct_s_l06Shuffle (fun x => x ∈ labelsL ts) xs (labelsL ts) vb vp v32 w _ (s.get 6 rfl) cu (rb.mono (s.getR 6 7 rfl rfl (by decide))) (r32.toR.mono (s.getR 6 0 rfl rfl (by decide))) (labels_nodup ts 100) (fun _ h9 => h9) (by omega))) rfl ?_; rintro v33 h33 ⟨hc33, hx33, ys33, cu33, r33, hl33, hn33, hs33, md33⟩; refine sq_v rfl (v_len Tryz.underlying26 rfl (r33.toR.mono (md33.le hx33 (by simp))).sl) rfl (sq_v rfl (v_move rfl) rfl (sq_end (qs_s [h32, ht, ho, box b7 [num k, num p, num n, vt, .slice none 0 0] 28, box b6 [num 0, num 0, num 0, .slice none 0 0, .slice none 0 0] 28, box b4 [num k, num p, num n] 24, (restP w h), hc33, hx33] (fun _ s => Sat.open (A := [h32, ht, ho, box b7 [num k, num p, num n, vt, .slice none 0 0] 28, box b6 [num 0, num 0, num 0, .slice none 0 0, .slice none 0 0] 28, box b4 [num k, num p, num n] 24, (restP w h)]) md33 (s.pick [6, 0, 1, 2, 3, 4, 5, 7] (by decide) rfl)) ?_)))
    skip
    refine qs_n (wp_bl ?_); refine wp_lp (σ := Nat × PH × Value × PH × (List Int)) (fun z_ => [(0, vp), (6, .pointer (some ⟨b6, 0, none⟩)), (7, .pointer (some ⟨b7, 0, none⟩)), (33, v33), (34, num ys33.length), (35, num z_.1)]) (fun z_ => [z_.2.2.2.1, h32, ht, ho, box b7 [num k, num p, num n, vt, z_.2.2.1] 28, box b6 [num 0, num 0, num 0, .slice none 0 0, .slice none 0 0] 28, box b4 [num k, num p, num n] 24, (restP w h), z_.2.1, hx33]) (fun z_ => z_.1 ≤ ys33.length ∧ z_.2.2.2.2.length ≤ z_.1 ∧ (z_.2.2.2.2.Nodup ∧ ∀ x ∈ z_.2.2.2.2, x ∈ ys33.take z_.1) ∧ CurO vb vp z_.2.1 ∧ IntsO z_.2.2.2.2 z_.2.2.1 z_.2.2.2.1) (fun z_ => ys33.length - z_.1) (0, hc33, .slice none 0 0, emp, []) (⟨by (try dsimp only); omega, Nat.le_refl _, ⟨List.nodup_nil, fun x hx => (List.not_mem_nil hx).elim⟩, cu33, IntsO.nil⟩) ⟨rfl, rfl, rfl, rfl, rfl, (by first | rfl | exact ksub rfl (by first | omega | (simp; done) | (simp; omega))), trivial⟩ (fun _ s => (emp_sat s)) ?_; rintro ⟨j, hc, vo, hop, op⟩ ⟨hj, hol, hon, cu2, qo⟩; dsimp only at hj hol hon cu2 qo ⊢; have hle_qo := qo.toR.le; refine wp_sc (wp_sq (sq_v rfl (v_lss rfl rfl) rfl (sq_end (qs_n (wp_sc ?_))))); refine wp_cd rfl (fun c36 => ?_) (fun c36 => ?_)
    · refine wp_sk (qs_n (wp_sc (wp_bl (wp_sc (wp_sq ?_))))); refine sq_v rfl (v_idxI Tryz.underlying26 ty_3 rfl rfl r33.toR (by first | omega | (simp; omega) | (simp only [List.length_append, List.length_cons, List.length_nil]; omega) | (rw [List.length_set]; omega)) (by first | omega | (simp; omega) | (simp only [List.length_append, List.length_cons, List.length_nil]; omega) | (rw [List.length_set]; omega))) rfl ?_; refine sq_v rfl (v_loadI (k := j) 9 ty_3 rfl rfl r33.toR (by first | omega | (simp; omega) | (simp only [List.length_append, List.length_cons, List.length_nil]; omega) | (rw [List.length_set]; omega))) rfl ?_; refine sq_v rfl (v_assign rfl) rfl (sq_end ?_); have htk : ys33.take (j + 1) = ys33.take j ++ [ys33.getD j 0] := take_succ (by omega); have hnt := nodup_not_take hn33 (show j < ys33.length by omega); refine qs_n (wp_sc (wp_sq (sq_v rfl (v_move rfl) rfl ?_))); refine sq_m 8 rfl rfl (x_call rfl en_40 (fun w s => ct_s_l01Once _ _ _ _ w _ (s.get 8 rfl) cu2 (rb.mono (s.getR 8 7 rfl rfl (by decide))) (by omega))) rfl ?_; rintro _ h40 ⟨y40, rfl, cu40⟩; refine sq_end (qs_n ?_); refine wp_cb _ rfl (fun c40 => ?_) (fun c40 => ?_)
      · refine wp_sq (sq_v rfl (v_fieldAddr fd_28_2 ty_26 (by decide) rfl) rfl (sq_v rfl (v_loadB 4 ty_26 rfl rfl rfl) rfl (sq_v rfl (v_move rfl) rfl ?_))); refine sq_x rfl (x_buildS [num (ys33.getD j 0)] Tryz.underlying26 ty_3 (by decide) rfl rfl rfl (by decide) (by decide) (by intro v hv; simp at hv; rcases hv with rfl <;> rfl)) rfl ?_; intro v44 h44 (r44 : IntsO [ys33.getD j 0] v44 h44); refine sq_m 1 rfl rfl (m_appI 1 0 Tryz.underlying26 ty_3 rfl rfl rfl rfl qo rfl r44.toR (by first | omega | (simp; omega) | (simp only [List.length_append, List.length_cons, List.length_nil]; omega) | (rw [List.length_set]; omega))) rfl ?_; intro v45 h_r45 r45; refine sq_v rfl (v_fieldAddr fd_28_2 ty_26 (by decide) rfl) rfl ?_; refine sq_m 5 rfl rfl (m_store1 5 ty_26 rfl rfl r45.toR.sl.one rfl (Nat.le_of_ble_eq_true rfl)) rfl ?_; rintro _ _ ⟨rfl, rfl⟩; refine sq_end (qs_bn (qs_n (wp_sq ?_))); refine sq_v rfl (v_add rfl rfl ((by unfold I64; omega))) rfl ?_; refine sq_v rfl (v_move rfl) rfl (sq_end ?_); exact qs_bk (j + 1, h40, v45, h_r45, (op ++ [ys33.getD j 0])) ⟨by (try dsimp only); omega, by (try dsimp only); simp; omega, ⟨List.nodup_append.2 ⟨hon.1, by simp, fun a ha b hb => by rw [List.mem_singleton.1 hb]; intro e9; exact hnt (e9 ▸ hon.2 a ha)⟩, fun x hx => by rw [htk]; rcases List.mem_append.1 hx with h9 | h9; exact List.mem_append_left _ (hon.2 x h9); exact List.mem_append_right _ h9⟩, cu40, r45⟩ (by simp only; omega) ⟨rfl, rfl, rfl, rfl, rfl, (by first | rfl | exact ksub rfl (by first | omega | (simp; done) | (simp; omega))), trivial⟩ (fun _ s => s.pick [1, 2, 3, 4, 5, 6, 7, 8, 9, 10] (by decide) rfl)
      · refine wp_sk (qs_bn (qs_n (wp_sq ?_))); refine sq_v rfl (v_add rfl rfl ((by unfold I64; omega))) rfl ?_; refine sq_v rfl (v_move rfl) rfl (sq_end ?_); exact qs_bk (j + 1, h40, vo, hop, op) ⟨by (try dsimp only); omega, by (try dsimp only); omega, ⟨hon.1, fun x hx => by rw [htk]; exact List.mem_append_left _ (hon.2 x hx)⟩, cu40, qo⟩ (by simp only; omega) ⟨rfl, rfl, rfl, rfl, rfl, (by first | rfl | exact ksub rfl (by first | omega | (simp; done) | (simp; omega))), trivial⟩ (fun _ s => s)
    · refine wp_ex (qs_x (qs_x (qs_bx (qs_n (wp_sc (wp_sq (sq_v rfl (v_loadNB 4 ty_28 rfl rfl rfl rfl) rfl ?_))))))); refine sq_m 5 rfl rfl (m_store 5 ty_28 rfl rfl rfl rfl (by simp [one_int, q.toR.sl.one, qo.toR.sl.one]) rfl (Nat.le_of_ble_eq_true rfl)) rfl ?_; rintro _ _ ⟨rfl, rfl⟩; refine sq_end (qs_n (wp_rt ?_)); refine qs_close [restP w h, hc, _] [ht, hop, ho] (fun _ s => s.pick [7, 8, 5, 2, 0, 3] (by decide) rfl) (fun md1 => ?_); refine qs_close [restP w h, _] [hc, joinP [ht, hop, ho]] (fun _ s => s.pick [1, 3, 2, 0] (by decide) rfl) (fun md2 => ?_); exact qs_retc 2 rfl ty_28 rfl rfl rfl (fin_m (i := 1) 0 rfl rfl rfl ⟨hc, _, ts, op, cu2, ⟨vt, vo, rfl, NetO.join q qo how md1⟩, ⟨hts, by omega, hon.1, fun x hx => hs33 x (List.mem_of_mem_take (hon.2 x hx))⟩, md2⟩)
end Go.Proofs.YtdkgaejmgnojhaaGreat
namespace Go.Proofs.YtdkgaejmgnojhaaGreat
set_option maxRecDepth 100000
open Go.RowKit
/-- A new tensor's labels: one may be old, the others are all new ones. -/
def LabZ (c c2 : Nat) (ll : List Int) : Prop := (ll.Nodup ∧ ∀ x ∈ ll, 0 ≤ x ∧ x < c2) ∧ (∀ j, 0 < j → j < ll.length → (c : Int) ≤ ll.getD j 0) ∧ ∀ x : Nat, c ≤ x → x < c2 → (x : Int) ∈ ll
theorem LabZ.nil (c : Nat) : LabZ c c [] := ⟨⟨List.nodup_nil, fun x hx => (List.not_mem_nil hx).elim⟩, fun j _ hj => by simp at hj, fun x h1 h2 => by omega⟩
theorem LabZ.one {c : Nat} {x : Int} (h : x ∈ nodesR c) : LabZ c c [x] := by
  obtain ⟨i, hi, rfl⟩ := List.mem_map.1 h; have := List.mem_range.1 hi; exact ⟨⟨by simp, fun y hy => by rw [List.mem_singleton.1 hy]; constructor <;> simp <;> omega⟩, fun j h1 h2 => by simp at h2; omega, fun y h1 h2 => by omega⟩
theorem LabZ.snoc {c c2 : Nat} {ll : List Int} (h : LabZ c c2 ll) (hc : c ≤ c2) : LabZ c (c2 + 1) (ll ++ [(c2 : Int)]) := by
  refine ⟨⟨List.nodup_append.2 ⟨h.1.1, by simp, fun a ha b hb => ?_⟩, fun x hx => ?_⟩, fun j h1 h2 => ?_, fun x h1 h2 => ?_⟩
  · rw [List.mem_singleton.1 hb]; have := h.1.2 a ha
    omega
  · rcases List.mem_append.1 hx with hx | hx
    · have := h.1.2 x hx; omega
    · rw [List.mem_singleton.1 hx]; omega
  · rw [List.length_append, List.length_singleton] at h2
    by_cases e : j < ll.length
    · have := h.2.1 j h1 e; have e2 : (ll ++ [(c2 : Int)]).getD j 0 = ll.getD j 0 := by simp [List.getD, List.getElem?_append_left e]
      rw [e2]; exact this
    · have e2 : (ll ++ [(c2 : Int)]).getD j 0 = c2 := by
        rw [show j = ll.length by omega]
        simp [List.getD]
      rw [e2]; omega
  · by_cases e : x < c2
    · exact List.mem_append_left _ (h.2.2 x h1 e)
    · rw [show x = c2 by omega]; simp
theorem nodesR_step (m : Nat) : nodesR (m + 1) = nodesR m ++ [(m : Int)] := by simp [nodesR, List.range_succ]
/-- What the generator of forests makes. -/
def GenF (k p n : Int) (ts : List Ten) (c : Nat) : Prop := (∀ t ∈ ts, tensorL k p n t.l t.d t.x ∧ t.d = t.l.map dimG ∧ t.l.Nodup ∧ ∀ x ∈ t.l, 0 ≤ x ∧ x < c) ∧
  (∀ i j q, i < ts.length → 0 < j → j < (ts.getD i noTen).l.length → q < i → (ts.getD i noTen).l.getD j 0 ∉ (ts.getD q noTen).l) ∧ ∀ x : Nat, x < c → ∃ t ∈ ts, (x : Int) ∈ t.l
theorem GenF.nil (k p n : Int) : GenF k p n [] 0 := ⟨fun t ht => (List.not_mem_nil ht).elim, fun i _ _ hi => by simp at hi, fun x hx => by omega⟩
theorem getD_left {ts : List Ten} {t : Ten} {i : Nat} (h : i < ts.length) : (ts ++ [t]).getD i noTen = ts.getD i noTen := by simp [List.getD, List.getElem?_append_left h]
theorem getD_last {ts : List Ten} {t : Ten} : (ts ++ [t]).getD ts.length noTen = t := by simp [List.getD]
theorem GenF.snoc {k p n : Int} {ts : List Ten} {c c2 : Nat} (h : GenF k p n ts c) (hc : c ≤ c2) {ll x : List Int} (hl : LabZ c c2 ll) (ht : tensorL k p n ll (ll.map dimG) x) : GenF k p n (ts ++ [⟨ll, ll.map dimG, x⟩]) c2 := by
  refine ⟨fun t htm => ?_, fun i j q hi hj hjl hq => ?_, fun y hy => ?_⟩
  · rcases List.mem_append.1 htm with h1 | h1
    · obtain ⟨a, b, d, e⟩ := h.1 t h1; exact ⟨a, b, d, fun y hy => by have := e y hy; omega⟩
    · rw [List.mem_singleton.1 h1]; exact ⟨ht, rfl, hl.1.1, hl.1.2⟩
  · rw [List.length_append, List.length_singleton] at hi
    by_cases e : i < ts.length
    · rw [getD_left e] at hjl ⊢; rw [getD_left (show q < ts.length by omega)]; exact h.2.1 i j q e hj hjl hq
    · have e2 : i = ts.length := by omega
      subst e2; rw [getD_last] at hjl ⊢; rw [getD_left hq]; intro hm; have h1 := hl.2.1 j hj hjl; have h2 := (h.1 (ts.getD q noTen) (by simp [List.getD, hq])).2.2.2 _ hm; have h3 : ll.getD j 0 < c := h2.2
      omega
  · by_cases e : y < c
    · obtain ⟨t, h1, h2⟩ := h.2.2 y e; exact ⟨t, List.mem_append_left _ h1, h2⟩
    · exact ⟨_, List.mem_append_right _ (List.mem_singleton.2 rfl), hl.2.2 y (by omega) hy⟩
def ForM (vb vp : Value) (u : Value) (h : PH) : Prop := ∃ hc hn k p n ts op c, CurO vb vp hc ∧ NetT k p n ts op u hn ∧ ringL k p n ∧ GenF k p n ts c ∧ (ts.length ≤ 4 ∧ c ≤ 8 ∧ op.length ≤ 1 ∧ ∀ x ∈ op, x ∈ nodesR c) ∧ Made h [hc, hn]
theorem wp_lpS {P : Program} {n : Nat} {w0 : World} {σ : Type} {c : Code} {Q Q0 : Exit → Act → World → Prop} {e0 : Exit} {K0 : Env} {H0 : List PH} (Kf : σ → Env) (Hf : σ → List PH) (φ : σ → Prop) (μ : σ → Nat)
    (k : (∀ {K : Env} {HS : List PH} (s0 : σ), φ s0 → SubK K (Kf s0) → (∀ w, Sat w0 HS w → Sat w0 (Hf s0) w) → WP P n w0 (.loop c) Q K HS) → QS n w0 Q0 e0 K0 H0)
    (round : ∀ s, φ s → WP P n w0 c (Exit.then (Back n w0 Kf Hf φ μ (μ s)) Q) (Kf s) (Hf s)) : QS n w0 Q0 e0 K0 H0 := k fun s0 h0 hk hs => wp_lp Kf Hf φ μ s0 h0 hk hs round
set_option maxHeartbeats 4000000 in
theorem ct_s_l28Forest (xs : List Int) (vb vp : Value) (w : World) (h : PH) (hle : PLe h (hp w)) (rc : CurO vb vp h) (rb : BytesR xs vb (restP w h)) :
    Calls Tryz.prog 16 [vp].toArray w (Ret w h (ForM vb vp)) := by
  refine calls_in Tryz.func16 rfl Tryz.ntmps16 rfl (Sat.start2 hle) ?_; have hle1 := rb.le; refine wp_sc (wp_sq ?_); refine sq_x rfl (x_alloc ty_28 rfl) rfl ?_; rintro _ _ ⟨b2, rfl, rfl⟩; refine sq_end (qs_n (wp_sc (wp_sq (sq_v rfl (v_move rfl) rfl ?_)))); refine sq_m 1 rfl rfl (x_call rfl en_38 (fun w s => ct_s_l02Ring xs vb vp w _ (s.get 1 rfl) rc (rb.mono (s.getR 1 2 rfl rfl (by decide))))) rfl ?_; rintro _ h13 ⟨k, p, n, rfl, hr, cu13⟩; refine sq_x rfl (x_alloc ty_24 rfl) rfl ?_; rintro _ _ ⟨b3, rfl, rfl⟩; refine sq_m 0 rfl rfl (m_store 0 ty_24 rfl rfl rfl rfl (by simp [Value.oneCell']) rfl (Nat.le_of_ble_eq_true rfl)) rfl ?_; rintro _ _ ⟨rfl, rfl⟩; refine sq_end ?_
  skip
  refine qs_n (wp_sc (wp_sq (sq_v rfl (v_loadNB 0 ty_24 rfl rfl rfl rfl) rfl (sq_v rfl (v_build [num k, num p, num n, .slice none 0 0, .slice none 0 0] rfl (by kernel_rfl)) rfl ?_)))); refine sq_x rfl (x_alloc ty_28 rfl) rfl ?_; rintro _ _ ⟨b4, rfl, rfl⟩; refine sq_m 0 rfl rfl (m_store 0 ty_28 rfl rfl rfl rfl (by simp [one_int, one_sl]) rfl (Nat.le_of_ble_eq_true rfl)) rfl ?_; rintro _ _ ⟨rfl, rfl⟩; refine sq_end (qs_n (wp_sc (wp_sq ?_))); refine sq_x rfl (x_build0 Tryz.underlying26 ty_3) rfl ?_; intro v16 h16 (r16 : IntsO [] v16 h16); refine sq_v rfl (v_assign rfl) rfl (sq_end (qs_n (wp_sc (wp_sc (wp_sq (sq_v rfl (v_move rfl) rfl ?_)))))); refine sq_m 4 rfl rfl (x_call rfl en_39 (fun w s => ct_s_l01Below _ _ _ _ w _ (s.get 4 rfl) cu13 (rb.mono (s.getR 4 5 rfl rfl (by decide))) (by omega))) rfl ?_; rintro _ h18 ⟨x18, rfl, hx18, hy18, cu18⟩; refine sq_v rfl (v_add rfl rfl ((by unfold I64; omega))) rfl ?_; refine sq_v rfl (v_assign rfl) rfl (sq_end (qs_n (wp_bl ?_))); refine wp_lp (σ := Int × PH × Value × PH × (List Value) × PH × (List Ten) × Value × PH × Nat) (fun z_ => [(0, vp), (2, .pointer (some ⟨b2, 0, none⟩)), (3, .pointer (some ⟨b3, 0, none⟩)), (4, .pointer (some ⟨b4, 0, none⟩)), (5, z_.2.2.2.2.2.2.2.1), (6, num z_.1)]) (fun z_ => [z_.2.2.2.1, z_.2.2.2.2.2.1, z_.2.2.2.2.2.2.2.2.1, box b4 [num k, num p, num n, z_.2.2.1, .slice none 0 0] 28, box b3 [num k, num p, num n] 24, box b2 [num 0, num 0, num 0, .slice none 0 0, .slice none 0 0] 28, z_.2.1, (restP w h)]) (fun z_ => (0 ≤ z_.1 ∧ z_.1 + z_.2.2.2.2.2.2.1.length ≤ 4) ∧ z_.2.2.2.2.2.2.2.2.2 ≤ 2 * z_.2.2.2.2.2.2.1.length ∧ OwnH (flat z_.2.2.2.2.2.2.1) z_.2.2.2.2.1 z_.2.2.2.2.2.1 ∧ GenF k p n z_.2.2.2.2.2.2.1 z_.2.2.2.2.2.2.2.2.2 ∧ CurO vb vp z_.2.1 ∧ RowO (40) z_.2.2.2.2.1 z_.2.2.2.2.2.2.1.length 3 z_.2.2.1 z_.2.2.2.1 ∧ IntsO (nodesR z_.2.2.2.2.2.2.2.2.2) z_.2.2.2.2.2.2.2.1 z_.2.2.2.2.2.2.2.2.1) (fun z_ => z_.1.toNat) ((1 + x18), h18, .slice none 0 0, emp, [], emp, [], v16, h16, 0) (⟨by (try dsimp only); simp; omega, by (try dsimp only); simp, OwnH.nil, GenF.nil k p n, cu18, RowO.nil, r16⟩) ⟨rfl, rfl, rfl, rfl, (by first | rfl | exact ksub rfl (by first | omega | (simp; done) | (simp; omega))), (by first | rfl | exact ksub rfl (by first | omega | (simp; done) | (simp; omega))), trivial⟩ (fun _ s => (emp_sat (emp_sat s))) ?_; rintro ⟨e, hc, vt, ht, cs, ho, ts, vl, hl, c⟩ ⟨he, hcc, how, hts, cu, q, ql⟩; dsimp only at he hcc how hts cu q ql ⊢; have hle_ql := ql.toR.le; have hnl0 := nodesR_len c; refine wp_sc (wp_sc (wp_sq (sq_v rfl (v_move rfl) rfl (sq_v rfl (v_gtr rfl rfl) rfl (sq_end (qs_n ?_)))))); refine wp_cd rfl (fun c21 => ?_) (fun c21 => ?_)
  · refine wp_sk (qs_n (wp_sc (wp_bl (wp_sc (wp_sq ?_))))); refine sq_x rfl (x_build0 Tryz.underlying26 ty_3) rfl ?_; intro v24 h24 (r24 : IntsO [] v24 h24); refine sq_v rfl (v_assign rfl) rfl (sq_end ?_); refine wp_lpS (P := Tryz.prog) (c := ?_) (Q := ?_) (σ := Int × Value × PH × (List Int) × Value × PH × Nat × PH) (fun z_ => [(0, vp), (2, .pointer (some ⟨b2, 0, none⟩)), (3, .pointer (some ⟨b3, 0, none⟩)), (4, .pointer (some ⟨b4, 0, none⟩)), (5, z_.2.2.2.2.1), (6, num e), (7, z_.2.1), (8, num z_.1), (20, num e), (21, .bool (decide ((0 : Int) < e))), (24, v24)]) (fun z_ => [z_.2.2.1, ht, ho, z_.2.2.2.2.2.1, box b4 [num k, num p, num n, vt, .slice none 0 0] 28, box b3 [num k, num p, num n] 24, box b2 [num 0, num 0, num 0, .slice none 0 0, .slice none 0 0] 28, z_.2.2.2.2.2.2.2, (restP w h)]) (fun z_ => (0 ≤ z_.1 ∧ (z_.2.2.2.2.2.2.1 : Int) + z_.1 ≤ c + 2 ∧ c ≤ z_.2.2.2.2.2.2.1 ∧ z_.2.2.2.1.length + z_.1 ≤ 3) ∧ LabZ c z_.2.2.2.2.2.2.1 z_.2.2.2.1 ∧ CurO vb vp z_.2.2.2.2.2.2.2 ∧ IntsO z_.2.2.2.1 z_.2.1 z_.2.2.1 ∧ IntsO (nodesR z_.2.2.2.2.2.2.1) z_.2.2.2.2.1 z_.2.2.2.2.2.1) (fun z_ => z_.1.toNat) (fun keyT => ?_) ?_
    rotate_left 2
    · refine qs_n (wp_sc (wp_sc (wp_sq (sq_v rfl (v_move rfl) rfl (sq_v rfl (v_len Tryz.underlying26 rfl ql.toR.sl) rfl (sq_v rfl (v_gtr rfl rfl) rfl ?_)))))); refine sq_bd 27 rfl (fun c27 => ?_) (fun c27 => ?_)
      · refine sq_v rfl (v_move rfl) rfl (sq_v rfl (v_move rfl) rfl ?_); refine sq_m 7 rfl rfl (x_call rfl en_40 (fun w s => ct_s_l01Once _ _ _ _ w _ (s.get 7 rfl) cu (rb.mono (s.getR 7 8 rfl rfl (by decide))) (by first | assumption | omega))) rfl ?_; rintro _ h30 ⟨y30, rfl, cu30⟩; refine sq_v rfl (v_not rfl) rfl (sq_v rfl (v_pickt rfl rfl) rfl (sq_end (qs_n ?_))); refine wp_cn _ rfl (fun c32 => ?_) (fun c32 => ?_)
        · refine wp_sq (sq_v rfl (v_move rfl) rfl (sq_v rfl (v_move rfl) rfl (sq_v rfl (v_move rfl) rfl (sq_v rfl (v_move rfl) rfl (sq_v rfl (v_len Tryz.underlying26 rfl ql.toR.sl) rfl ?_))))); refine sq_m 7 rfl rfl (x_call rfl en_39 (fun w s => ct_s_l01Below _ _ _ _ w _ (s.get 7 rfl) cu30 (rb.mono (s.getR 7 8 rfl rfl (by decide))) (by first | assumption | omega))) rfl ?_; rintro _ h38 ⟨x38, rfl, hx38, hy38, cu38⟩; refine sq_v rfl (v_idxI Tryz.underlying26 ty_3 rfl rfl ql.toR (by first | omega | (simp; omega) | (simp only [List.length_append, List.length_cons, List.length_nil]; omega) | (rw [List.length_set]; omega)) (by first | omega | (simp; omega) | (simp only [List.length_append, List.length_cons, List.length_nil]; omega) | (rw [List.length_set]; omega))) rfl ?_; refine sq_v rfl (v_loadI  3 ty_3 rfl rfl ql.toR (by first | omega | (simp; omega) | (simp only [List.length_append, List.length_cons, List.length_nil]; omega) | (rw [List.length_set]; omega))) rfl ?_; refine sq_x rfl (x_buildS [num (((nodesR c).getD (x38 : Int).toNat 0))] Tryz.underlying26 ty_3 (by decide) rfl rfl rfl (by decide) (by decide) (by intro v hv; simp at hv; rcases hv with rfl <;> rfl)) rfl ?_; intro v41 h41 (r41 : IntsO [((nodesR c).getD (x38 : Int).toNat 0)] v41 h41); refine sq_m 1 rfl rfl (m_appI 1 0 Tryz.underlying26 ty_3 rfl rfl rfl rfl r24 rfl r41.toR (by first | omega | (simp; omega) | (simp only [List.length_append, List.length_cons, List.length_nil]; omega) | (rw [List.length_set]; omega))) rfl ?_; intro v42 h_r42 r42; refine sq_v rfl (v_assign rfl) rfl (sq_end (qs_n (wp_sc (wp_sc (wp_sq (sq_v rfl (v_move rfl) rfl ?_)))))); refine sq_m 8 rfl rfl (x_call rfl en_39 (fun w s => ct_s_l01Below _ _ _ _ w _ (s.get 8 rfl) cu38 (rb.mono (s.getR 8 9 rfl rfl (by decide))) (by first | assumption | omega))) rfl ?_; rintro _ h44 ⟨x44, rfl, hx44, hy44, cu44⟩; refine sq_v rfl (v_assign rfl) rfl (sq_end (qs_n (wp_bl ?_))); refine keyT (x44, v42, h_r42, [((nodesR c).getD (x38 : Int).toNat 0)], vl, hl, c, h44) ?_ ?_ ?_; exact ⟨by (try dsimp only); (try simp only [List.length_cons, List.length_nil]); omega, LabZ.one (mem_getD (by omega)), cu44, r42, ql⟩
          exact ⟨rfl, rfl, rfl, rfl, (by first | rfl | exact ksub rfl (by first | omega | (simp; done) | (simp; omega))), rfl, (by first | rfl | exact ksub rfl (by first | omega | (simp; done) | (simp; omega))), (by first | rfl | exact ksub rfl (by first | omega | (simp; done) | (simp; omega))), rfl, rfl, rfl, trivial⟩
          exact (fun _ s => s.pick [1, 2, 3, 4, 5, 6, 7, 8, 9] (by decide) rfl)
        · refine wp_sk (qs_n (wp_sc (wp_sc (wp_sq (sq_v rfl (v_move rfl) rfl ?_))))); refine sq_m 7 rfl rfl (x_call rfl en_39 (fun w s => ct_s_l01Below _ _ _ _ w _ (s.get 7 rfl) cu30 (rb.mono (s.getR 7 8 rfl rfl (by decide))) (by first | assumption | omega))) rfl ?_; rintro _ h44 ⟨x44, rfl, hx44, hy44, cu44⟩; refine sq_v rfl (v_assign rfl) rfl (sq_end (qs_n (wp_bl ?_))); refine keyT (x44, v24, h24, [], vl, hl, c, h44) ?_ ?_ ?_; exact ⟨by (try dsimp only); (try simp only [List.length_cons, List.length_nil]); omega, LabZ.nil c, cu44, r24, ql⟩
          exact ⟨rfl, rfl, rfl, rfl, (by first | rfl | exact ksub rfl (by first | omega | (simp; done) | (simp; omega))), rfl, (by first | rfl | exact ksub rfl (by first | omega | (simp; done) | (simp; omega))), (by first | rfl | exact ksub rfl (by first | omega | (simp; done) | (simp; omega))), rfl, rfl, rfl, trivial⟩
          exact (fun _ s => s)
      · refine sq_v rfl (v_move rfl) rfl (sq_s rfl rfl (sq_s rfl rfl (sq_s rfl rfl (sq_v rfl (v_pickf rfl rfl) rfl (sq_end (qs_n (wp_cf rfl (wp_sk (qs_n (wp_sc (wp_sc (wp_sq (sq_v rfl (v_move rfl) rfl ?_))))))))))))); refine sq_m 7 rfl rfl (x_call rfl en_39 (fun w s => ct_s_l01Below _ _ _ _ w _ (s.get 7 rfl) cu (rb.mono (s.getR 7 8 rfl rfl (by decide))) (by first | assumption | omega))) rfl ?_; rintro _ h44 ⟨x44, rfl, hx44, hy44, cu44⟩; refine sq_v rfl (v_assign rfl) rfl (sq_end (qs_n (wp_bl ?_))); refine keyT (x44, v24, h24, [], vl, hl, c, h44) ?_ ?_ ?_; exact ⟨by (try dsimp only); (try simp only [List.length_cons, List.length_nil]); omega, LabZ.nil c, cu44, r24, ql⟩
        exact ⟨rfl, rfl, rfl, rfl, (by first | rfl | exact ksub rfl (by first | omega | (simp; done) | (simp; omega))), rfl, (by first | rfl | exact ksub rfl (by first | omega | (simp; done) | (simp; omega))), (by first | rfl | exact ksub rfl (by first | omega | (simp; done) | (simp; omega))), rfl, rfl, rfl, trivial⟩
        exact (fun _ s => s)
    · rintro ⟨m, lv, lh, ll, vl2, hl2, c2, hc2⟩ ⟨hm, hll, cu2, q1, q2⟩; dsimp only at hm hll cu2 q1 q2 ⊢; have hle_q1 := q1.toR.le; have hle_q2 := q2.toR.le; have hnl := nodesR_len c2; refine wp_sc (wp_sc (wp_sq (sq_v rfl (v_move rfl) rfl (sq_v rfl (v_gtr rfl rfl) rfl (sq_end (qs_n ?_)))))); refine wp_cd rfl (fun c46 => ?_) (fun c46 => ?_)
      · refine wp_sk (qs_n (wp_sc (wp_bl (wp_sc (wp_sq (sq_v rfl (v_move rfl) rfl (sq_v rfl (v_move rfl) rfl (sq_v rfl (v_len Tryz.underlying26 rfl q2.toR.sl) rfl ?_)))))))); refine sq_x rfl (x_buildS [num ((nodesR c2).length)] Tryz.underlying26 ty_3 (by decide) rfl rfl rfl (by decide) (by decide) (by intro v hv; simp at hv; rcases hv with rfl <;> rfl)) rfl ?_; intro v52 h52 (r52 : IntsO [(nodesR c2).length] v52 h52); refine sq_m 1 rfl rfl (m_appI 1 0 Tryz.underlying26 ty_3 rfl rfl rfl rfl q1 rfl r52.toR (by first | omega | (simp; omega) | (simp only [List.length_append, List.length_cons, List.length_nil]; omega) | (rw [List.length_set]; omega))) rfl ?_; intro v53 h_r53 r53; refine sq_v rfl (v_assign rfl) rfl (sq_end (qs_n (wp_sq (sq_v rfl (v_move rfl) rfl (sq_v rfl (v_move rfl) rfl (sq_v rfl (v_len Tryz.underlying26 rfl q2.toR.sl) rfl ?_)))))); refine sq_x rfl (x_buildS [num ((nodesR c2).length)] Tryz.underlying26 ty_3 (by decide) rfl rfl rfl (by decide) (by decide) (by intro v hv; simp at hv; rcases hv with rfl <;> rfl)) rfl ?_; intro v57 h57 (r57 : IntsO [(nodesR c2).length] v57 h57); refine sq_m 5 rfl rfl (m_appI 5 0 Tryz.underlying26 ty_3 rfl rfl rfl rfl q2 rfl r57.toR (by first | omega | (simp; omega) | (simp only [List.length_append, List.length_cons, List.length_nil]; omega) | (rw [List.length_set]; omega))) rfl ?_; intro v58 h_r58 r58; refine sq_v rfl (v_assign rfl) rfl (sq_end (qs_bn (qs_n (wp_sq (sq_v rfl (v_move rfl) rfl ?_))))); refine sq_v rfl (v_sub rfl rfl ((by unfold I64; omega))) rfl ?_; refine sq_v rfl (v_assign rfl) rfl (sq_end ?_); exact qs_bk (m - 1, v53, h_r53, (ll ++ [(c2 : Int)]), v58, h_r58, c2 + 1, hc2) ⟨by (try dsimp only); (try simp only [List.length_append, List.length_cons, List.length_nil]); omega, hll.snoc hm.2.2.1, cu2, by (try dsimp only); rw [hnl] at r53; exact r53, by (try dsimp only); rw [nodesR_step]; rw [hnl] at r58; exact r58⟩ (by simp only; omega) ⟨rfl, rfl, rfl, rfl, (by first | rfl | exact ksub rfl (by first | omega | (simp; done) | (simp; omega))), rfl, (by first | rfl | exact ksub rfl (by first | omega | (simp; done) | (simp; omega))), (by first | rfl | exact ksub rfl (by first | omega | (simp; done) | (simp; omega))), rfl, rfl, rfl, trivial⟩ (fun _ s => s.pick [2, 3, 4, 5, 6, 7, 8, 9, 10] (by decide) rfl)
      · refine wp_ex (qs_x (qs_x (qs_bx (qs_n (wp_sc (wp_sq ?_)))))); refine sq_x rfl (x_build0 Tryz.underlying26 ty_3) rfl ?_; intro v59 h59 (r59 : IntsO [] v59 h59); refine sq_v rfl (v_assign rfl) rfl (sq_end (qs_n (wp_sc (wp_sc (wp_sq (sq_v rfl (v_move rfl) rfl (sq_v rfl (v_len Tryz.underlying26 rfl q1.toR.sl) rfl (sq_v rfl (v_move rfl) rfl (sq_end (qs_n (wp_bl ?_))))))))))); refine wp_lp (σ := Nat × Value × PH) (fun z_ => [(0, vp), (2, .pointer (some ⟨b2, 0, none⟩)), (3, .pointer (some ⟨b3, 0, none⟩)), (4, .pointer (some ⟨b4, 0, none⟩)), (5, vl2), (6, num e), (7, lv), (8, num m), (9, z_.2.1), (20, num e), (21, .bool (decide ((0 : Int) < e))), (24, v24), (45, num m), (46, .bool (decide ((0 : Int) < m))), (59, v59), (60, lv), (61, num ll.length), (62, num z_.1)]) (fun z_ => [z_.2.2, lh, ht, ho, hl2, box b4 [num k, num p, num n, vt, .slice none 0 0] 28, box b3 [num k, num p, num n] 24, box b2 [num 0, num 0, num 0, .slice none 0 0, .slice none 0 0] 28, hc2, (restP w h)]) (fun z_ => z_.1 ≤ ll.length ∧ IntsO ((ll.take z_.1).map dimG) z_.2.1 z_.2.2) (fun z_ => ll.length - z_.1) (0, v59, h59) (⟨by (try dsimp only); omega, r59⟩) ⟨rfl, rfl, rfl, rfl, rfl, rfl, rfl, rfl, (by first | rfl | exact ksub rfl (by first | omega | (simp; done) | (simp; omega))), rfl, rfl, rfl, rfl, rfl, rfl, rfl, rfl, (by first | rfl | exact ksub rfl (by first | omega | (simp; done) | (simp; omega))), trivial⟩ (fun _ s => s) ?_; rintro ⟨i, dv, dh⟩ ⟨hi, q3⟩; dsimp only at hi q3 ⊢; have hle_q3 := q3.toR.le; have hdl : ((ll.take i).map dimG).length ≤ 3 := by rw [List.length_map, List.length_take]; omega
        refine wp_sc (wp_sq (sq_v rfl (v_lss rfl rfl) rfl (sq_end (qs_n (wp_sc ?_))))); refine wp_cd rfl (fun c63 => ?_) (fun c63 => ?_)
        · refine wp_sk (qs_n (wp_sc (wp_bl (wp_sc (wp_sq ?_))))); refine sq_v rfl (v_idxI Tryz.underlying26 ty_3 rfl rfl q1.toR (by first | omega | (simp; omega) | (simp only [List.length_append, List.length_cons, List.length_nil]; omega) | (rw [List.length_set]; omega)) (by first | omega | (simp; omega) | (simp only [List.length_append, List.length_cons, List.length_nil]; omega) | (rw [List.length_set]; omega))) rfl ?_; refine sq_v rfl (v_loadI (k := i) 1 ty_3 rfl rfl q1.toR (by first | omega | (simp; omega) | (simp only [List.length_append, List.length_cons, List.length_nil]; omega) | (rw [List.length_set]; omega))) rfl ?_; refine sq_v rfl (v_assign rfl) rfl (sq_end ?_); have hx0 := hll.1.2 (ll.getD i 0) (mem_getD (by omega)); refine qs_n (wp_sq (sq_v rfl (v_move rfl) rfl (sq_v rfl (v_move rfl) rfl ?_))); refine sq_v rfl (v_add rfl rfl ((by unfold I64; omega))) rfl ?_; refine sq_v rfl (v_remG rfl rfl (by omega) rfl) rfl ?_; refine sq_v rfl (v_add (a := 1) (b := (ll.getD i 0 + 1).tmod 3) rfl rfl (by have h1 := Int.tmod_nonneg 3 (show 0 ≤ ll.getD i 0 + 1 by omega); have h2 := Int.tmod_lt_of_pos (ll.getD i 0 + 1) (show (0 : Int) < 3 by omega); unfold I64; omega)) rfl ?_; refine sq_x rfl (x_buildS [num (1 + (ll.getD i 0 + 1).tmod 3)] Tryz.underlying26 ty_3 (by decide) rfl rfl rfl (by decide) (by decide) (by intro v hv; simp at hv; rcases hv with rfl <;> rfl)) rfl ?_; intro v71 h71 (r71 : IntsO [1 + (ll.getD i 0 + 1).tmod 3] v71 h71); refine sq_m 1 rfl rfl (m_appI 1 0 Tryz.underlying26 ty_3 rfl rfl rfl rfl q3 rfl r71.toR (by first | omega | (simp; omega) | (simp only [List.length_append, List.length_cons, List.length_nil]; omega) | (rw [List.length_set]; omega))) rfl ?_; intro v72 h_r72 r72; refine sq_v rfl (v_assign rfl) rfl (sq_end (qs_bn (qs_n (wp_sq ?_)))); refine sq_v rfl (v_add rfl rfl ((by unfold I64; omega))) rfl ?_; refine sq_v rfl (v_move rfl) rfl (sq_end ?_); exact qs_bk (i + 1, v72, h_r72) ⟨by (try dsimp only); omega, by (try dsimp only); rw [take_succ (by omega), List.map_append]; exact r72⟩ (by simp only; omega) ⟨rfl, rfl, rfl, rfl, rfl, rfl, rfl, rfl, (by first | rfl | exact ksub rfl (by first | omega | (simp; done) | (simp; omega))), rfl, rfl, rfl, rfl, rfl, rfl, rfl, rfl, (by first | rfl | exact ksub rfl (by first | omega | (simp; done) | (simp; omega))), trivial⟩ (fun _ s => s.pick [1, 2, 3, 4, 5, 6, 7, 8, 9, 10] (by decide) rfl)
        · refine wp_ex (qs_x (qs_x (qs_bx (qs_n (wp_rk [false, false, false, false, false, false, false, false, true, false] 8 [(0, true), (1, true), (2, true), (3, true), (4, true), (5, true), (6, false), (7, false), (8, false), (9, false), (10, false)] mixed_ok (by kernel_rfl) ?_))))); have ei : i = ll.length := (by omega); subst ei; rw [List.take_length] at q3; have hs99 : ∀ x ∈ ll, 0 ≤ x ∧ x ≤ 99 := (fun x hx => (by have := hll.1.2 x hx; omega))
          refine rk_v rfl rfl (v_fieldAddr fd_28_1 ty_25 (by decide) rfl) rfl (rk_v rfl rfl (v_loadB 5 ty_25 rfl rfl rfl) rfl (rk_v rfl rfl (v_move rfl) rfl (rk_v rfl rfl (v_loadNB 6 ty_24 rfl rfl rfl rfl) rfl (rk_v rfl rfl (v_move rfl) rfl (rk_v rfl rfl (v_move rfl) rfl ?_))))); refine rk_m 8 rfl rfl rfl rfl (x_call rfl en_41 (fun w s => ct_q_l05FillZ k p n xs ll vb vp lv dv w _ (s.get 8 rfl) cu2 (rb.mono (s.getR 8 9 rfl rfl (by decide))) (q1.toR.mono (s.getR 8 1 rfl rfl (by decide))) (q3.toR.mono (s.getR 8 0 rfl rfl (by decide))) hr hll.1.1 hs99 (by omega))) rfl ?_; rintro _ h80 ⟨hc80, ht80, x80, a80, b80, c80, rfl, cu80, o80, hg80, md80, ra80, rb80, rc80⟩; refine rk_x rfl rfl (x_buildS [.agg [a80, b80, c80].toArray] Tryz.underlying25 ty_40 (by decide) rfl rfl rfl (by decide) (by decide) (by intro v hv; simp at hv; subst hv; rfl)) rfl ?_; intro v81 h81 (r81 : RowO 40 [a80, b80, c80] 1 3 v81 h81); refine rk_mt 3 rfl rfl rfl rfl (m_append 3 0 Tryz.underlying25 ty_40 rfl rfl (by decide) rfl rfl rfl q rfl r81.toR (by simp [ra80.sl.one, rb80.sl.one, rc80.sl.one]) (by unfold maxLen; omega) (by omega)) rfl ?_; intro v82 h_r82 (r82 : RowO 40 (cs ++ [a80, b80, c80]) (ts.length + 1) 3 v82 h_r82); refine rk_fv rfl rfl (v_fieldAddr fd_28_1 ty_25 (by decide) rfl) rfl ?_; refine rk_mt 6 rfl rfl rfl rfl (m_store1 6 ty_25 rfl rfl r82.toR.sl.one rfl (Nat.le_of_ble_eq_true rfl)) rfl ?_; rintro _ _ ⟨rfl, rfl⟩; refine rk_end (qs_s [h81, dh, lh, h_r82, ho, hl2, box b4 [num k, num p, num n, v82, .slice none 0 0] 28, box b3 [num k, num p, num n] 24, box b2 [num 0, num 0, num 0, .slice none 0 0, .slice none 0 0] 28, (restP w h), hc80, ht80] (fun _ s => Sat.open (A := [h81, dh, lh, h_r82, ho, hl2, box b4 [num k, num p, num n, v82, .slice none 0 0] 28, box b3 [num k, num p, num n] 24, box b2 [num 0, num 0, num 0, .slice none 0 0, .slice none 0 0] 28, (restP w h)]) md80 (s.pick [9, 0, 1, 2, 3, 4, 5, 6, 7, 8, 10] (by decide) rfl)) ?_); refine qs_dj 4 11 rfl rfl rfl (fun hd1 => ?_); refine qs_s [PUn ho ht80, _, _, _, _, _, _, _] (fun _ s => Sat.merge (s.pick [4, 11, 9, 10, 3, 5, 6, 7, 8] (by decide) rfl)) (qs_bn (qs_n (wp_sq (sq_v rfl (v_move rfl) rfl ?_)))); refine sq_v rfl (v_sub rfl rfl ((by unfold I64; omega))) rfl ?_; refine sq_v rfl (v_assign rfl) rfl (sq_end ?_); exact qs_bk ((e - 1), hc80, v82, h_r82, (cs ++ [a80, b80, c80]), (PUn ho ht80), (ts ++ [⟨ll, ll.map dimG, x80⟩]), vl2, hl2, c2) ⟨by (try dsimp only); (try simp only [List.length_append, List.length_cons, List.length_nil]); omega, by (try dsimp only); (try simp only [List.length_append, List.length_cons, List.length_nil]); omega, how.snoc o80 hd1, hts.snoc hm.2.2.1 hll hg80, cu80, by (try dsimp only); rw [List.length_append]; exact r82, q2⟩ (by simp only; omega) ⟨rfl, rfl, rfl, rfl, (by first | rfl | exact ksub rfl (by first | omega | (simp; done) | (simp; omega))), (by first | rfl | exact ksub rfl (by first | omega | (simp; done) | (simp; omega))), trivial⟩ (fun _ s => s.pick [3, 0, 4, 5, 6, 7, 2, 1] (by decide) rfl)
  · refine wp_ex (qs_x (qs_x (qs_bx (qs_n (wp_sc (wp_sc (wp_sq (sq_v rfl (v_move rfl) rfl (sq_v rfl (v_len Tryz.underlying26 rfl ql.toR.sl) rfl (sq_v rfl (v_gtr rfl rfl) rfl ?_)))))))))); refine sq_bd 86 rfl (fun c86 => ?_) (fun c86 => ?_)
    · refine sq_v rfl (v_move rfl) rfl (sq_v rfl (v_move rfl) rfl ?_); refine sq_m 6 rfl rfl (x_call rfl en_40 (fun w s => ct_s_l01Once _ _ _ _ w _ (s.get 6 rfl) cu (rb.mono (s.getR 6 7 rfl rfl (by decide))) (by first | assumption | omega))) rfl ?_; rintro _ h89 ⟨y89, rfl, cu89⟩; refine sq_v rfl (v_pickt rfl rfl) rfl (sq_end (qs_n ?_)); refine wp_cb _ rfl (fun c90 => ?_) (fun c90 => ?_)
      · refine wp_sq (sq_v rfl (v_move rfl) rfl (sq_v rfl (v_move rfl) rfl (sq_v rfl (v_move rfl) rfl (sq_v rfl (v_len Tryz.underlying26 rfl ql.toR.sl) rfl ?_)))); refine sq_m 6 rfl rfl (x_call rfl en_39 (fun w s => ct_s_l01Below _ _ _ _ w _ (s.get 6 rfl) cu89 (rb.mono (s.getR 6 7 rfl rfl (by decide))) (by first | assumption | omega))) rfl ?_; rintro _ h95 ⟨x95, rfl, hx95, hy95, cu95⟩; refine sq_v rfl (v_idxI Tryz.underlying26 ty_3 rfl rfl ql.toR (by first | omega | (simp; omega) | (simp only [List.length_append, List.length_cons, List.length_nil]; omega) | (rw [List.length_set]; omega)) (by first | omega | (simp; omega) | (simp only [List.length_append, List.length_cons, List.length_nil]; omega) | (rw [List.length_set]; omega))) rfl ?_; refine sq_v rfl (v_loadI  2 ty_3 rfl rfl ql.toR (by first | omega | (simp; omega) | (simp only [List.length_append, List.length_cons, List.length_nil]; omega) | (rw [List.length_set]; omega))) rfl ?_; refine sq_x rfl (x_buildS [num (((nodesR c).getD (x95 : Int).toNat 0))] Tryz.underlying26 ty_3 (by decide) rfl rfl rfl (by decide) (by decide) (by intro v hv; simp at hv; rcases hv with rfl <;> rfl)) rfl ?_; intro v98 h98 (r98 : IntsO [((nodesR c).getD (x95 : Int).toNat 0)] v98 h98); refine sq_v rfl (v_fieldAddr fd_28_2 ty_26 (by decide) rfl) rfl ?_; refine sq_m 4 rfl rfl (m_store1 4 ty_26 rfl rfl r98.toR.sl.one rfl (Nat.le_of_ble_eq_true rfl)) rfl ?_; rintro _ _ ⟨rfl, rfl⟩; refine sq_end (qs_n (wp_sc (wp_sq (sq_v rfl (v_loadNB 4 ty_28 rfl rfl rfl rfl) rfl ?_)))); refine sq_m 6 rfl rfl (m_store 6 ty_28 rfl rfl rfl rfl (by simp [one_int, q.toR.sl.one, r98.toR.sl.one]) rfl (Nat.le_of_ble_eq_true rfl)) rfl ?_; rintro _ _ ⟨rfl, rfl⟩; refine sq_end (qs_n (wp_rt ?_)); refine qs_close [restP w h, h95, _] [ht, h98, ho] (fun _ s => s.pick [8, 7, 6, 1, 0, 2] (by decide) rfl) (fun md1 => ?_); refine qs_close [restP w h, _] [h95, joinP [ht, h98, ho]] (fun _ s => s.pick [1, 3, 2, 0] (by decide) rfl) (fun md2 => ?_); exact qs_retc 2 rfl ty_28 rfl rfl rfl (fin_m (i := 1) 0 rfl rfl rfl ⟨h95, _, k, p, n, ts, [(nodesR c).getD (x95 : Int).toNat 0], c, cu95, ⟨vt, v98, rfl, NetO.join q r98 how md1⟩, hr, hts, ⟨by omega, by omega, by simp, fun x hx => by rw [List.mem_singleton.1 hx]; exact mem_getD (by omega)⟩, md2⟩)
      · refine wp_sk (qs_n (wp_sc (wp_sq (sq_v rfl (v_loadNB 3 ty_28 rfl rfl rfl rfl) rfl ?_)))); refine sq_m 5 rfl rfl (m_store 5 ty_28 rfl rfl rfl rfl (by simp [one_int, q.toR.sl.one, one_sl]) rfl (Nat.le_of_ble_eq_true rfl)) rfl ?_; rintro _ _ ⟨rfl, rfl⟩; refine sq_end (qs_n (wp_rt (qs_s [emp, restP w h, h89, _, ht, ho] (fun _ s => emp_sat (s.pick [7, 6, 5, 0, 1] (by decide) rfl)) ?_))); refine qs_close [restP w h, h89, _] [ht, emp, ho] (fun _ s => s.pick [1, 2, 3, 4, 0, 5] (by decide) rfl) (fun md1 => ?_); refine qs_close [restP w h, _] [h89, joinP [ht, emp, ho]] (fun _ s => s.pick [1, 3, 2, 0] (by decide) rfl) (fun md2 => ?_); exact qs_retc 2 rfl ty_28 rfl rfl rfl (fin_m (i := 1) 0 rfl rfl rfl ⟨h89, _, k, p, n, ts, [], c, cu89, ⟨vt, _, rfl, NetO.join q IntsO.nil how md1⟩, hr, hts, ⟨by omega, by omega, by simp, fun x hx => (List.not_mem_nil hx).elim⟩, md2⟩)
    · refine sq_v rfl (v_move rfl) rfl (sq_s rfl rfl (sq_s rfl rfl (sq_v rfl (v_pickf rfl rfl) rfl (sq_end (qs_n (wp_cf rfl (wp_sk (qs_n (wp_sc (wp_sq (sq_v rfl (v_loadNB 3 ty_28 rfl rfl rfl rfl) rfl ?_))))))))))); refine sq_m 5 rfl rfl (m_store 5 ty_28 rfl rfl rfl rfl (by simp [one_int, q.toR.sl.one, one_sl]) rfl (Nat.le_of_ble_eq_true rfl)) rfl ?_; rintro _ _ ⟨rfl, rfl⟩; refine sq_end (qs_n (wp_rt (qs_s [emp, restP w h, hc, _, ht, ho] (fun _ s => emp_sat (s.pick [7, 6, 5, 0, 1] (by decide) rfl)) ?_))); refine qs_close [restP w h, hc, _] [ht, emp, ho] (fun _ s => s.pick [1, 2, 3, 4, 0, 5] (by decide) rfl) (fun md1 => ?_); refine qs_close [restP w h, _] [hc, joinP [ht, emp, ho]] (fun _ s => s.pick [1, 3, 2, 0] (by decide) rfl) (fun md2 => ?_); exact qs_retc 2 rfl ty_28 rfl rfl rfl (fin_m (i := 1) 0 rfl rfl rfl ⟨hc, _, k, p, n, ts, [], c, cu, ⟨vt, _, rfl, NetO.join q IntsO.nil how md1⟩, hr, hts, ⟨by omega, by omega, by simp, fun x hx => (List.not_mem_nil hx).elim⟩, md2⟩)
end Go.Proofs.YtdkgaejmgnojhaaGreat
namespace Go.Proofs.YtdkgaejmgnojhaaGreat
set_option maxRecDepth 100000
open Go.RowKit
theorem ct_s_MakeNetwork (k p n m : Int) (xs : List Int) (vb : Value) (w : World) (rb : BytesR xs vb (hp w)) (hxl : xs.length ≤ 1048576) (hm : 0 ≤ m ∧ m ≤ 1000) (hr : ringL k p n) : Calls Tryz.prog 15 [vb, num m, ringV k p n, num 4].toArray w (Ret w emp (fun u h' => ∃ ts op, NetT k p n ts op u h' ∧ GenN k p n ts op)) := by
  refine calls_in Tryz.func15 rfl Tryz.ntmps15 rfl (Sat.start w) ?_; have hle0 := rb.le; refine wp_sc (wp_sq ?_); refine sq_x rfl (x_box rfl rfl) rfl ?_; rintro _ _ ⟨b6, rfl, rfl⟩; refine sq_x rfl (x_alloc ty_28 rfl) rfl ?_; rintro _ _ ⟨b8, rfl, rfl⟩; refine sq_end (qs_n (wp_sc (wp_rj 5 [(0, true), (1, true), (3, true), (4, true), (2, false), (5, false), (6, false)] mixed_ok (by kernel_rfl) (rj_v rfl rfl (v_move rfl) rfl (rj_v rfl rfl (v_move rfl) rfl (rj_v rfl rfl (v_loadNB 1 ty_24 rfl rfl rfl rfl) rfl (rj_v rfl rfl (v_move rfl) rfl ?_))))))); refine rj_x rfl rfl (x_call rfl en_17 (fun w s => ct_s_l45At _ _ _ w (rb.mono (s.get 2 rfl)) (by first | assumption | omega) (by first | assumption | omega))) rfl ?_; rintro v11 h11 r11; refine rj_m 0 rfl rfl rfl rfl (x_call rfl en_37 (fun w s => ct_s_l12Net k p n xs vb v11 w _ (s.get 0 rfl) r11 (rb.mono (s.getR 0 3 rfl rfl (by decide))) hr)) rfl ?_; rintro _ h14 ⟨hc14, hn14, ts, op, cu14, ⟨vt, vo, rfl, o14⟩, hg14, md14⟩; refine rj_m 1 rfl rfl rfl rfl (m_store 1 ty_28 rfl rfl rfl rfl (by simp [one_int, o14.toR.1.sl.one, o14.toR.2.sl.one]) rfl (Nat.le_of_ble_eq_true rfl)) rfl ?_; rintro _ _ ⟨rfl, rfl⟩; refine rj_end (qs_s [box b8 [num k, num p, num n, vt, vo] 28, box b6 [num k, num p, num n] 24, hp w, hc14, hn14] (fun _ s => Sat.open (A := [box b8 [num k, num p, num n, vt, vo] 28, box b6 [num k, num p, num n] 24, hp w]) md14 (s.pick [0, 1, 2, 3] (by decide) rfl)) (qs_n (wp_rt ?_))); exact qs_retc 0 rfl ty_28 rfl rfl rfl (fin_t 4 (i := 2) rfl rfl rfl ⟨ts, op, ⟨vt, vo, rfl, o14⟩, hg14⟩)
end Go.Proofs.YtdkgaejmgnojhaaGreat
namespace Go.Proofs.YtdkgaejmgnojhaaGreat
set_option maxRecDepth 100000
open Go.RowKit
section
variable {k p n : Int} {ts : List Ten} {op : List Int}
theorem GenN.dim (h : GenN k p n ts op) {x : Int} (hx : x ∈ labelsL ts) : (∃ t ∈ ts, x ∈ t.l) ∧ (0 ≤ x ∧ x ≤ 5) ∧ dimOf ts x = dimG x := by
  have h1 := (mem_labels.1 hx).2; have h2 := dimOf_mem (show dimOf ts x ≠ 0 by omega); refine ⟨h2, ?_, dimOf_map (fun t ht => (h.1 t ht).2.2.1) h2⟩; obtain ⟨t, ht, hxt⟩ := h2; exact (h.1 t ht).2.1.2 x hxt
theorem GenN.few (h : GenN k p n ts op) {l : List Int} (hn : l.Nodup) (hl : ∀ x ∈ l, x ∈ labelsL ts) : l.length ≤ 6 := by
  have := pigeon (m := [0, 1, 2, 3, 4, 5]) hn fun x hx => by
    have := (h.dim (hl x hx)).2.1; simp only [List.mem_cons, List.not_mem_nil, or_false]
    omega
  simpa using this
end
end Go.Proofs.YtdkgaejmgnojhaaGreat
namespace Go.Proofs.YtdkgaejmgnojhaaGreat
set_option maxRecDepth 100000
open Go.RowKit
theorem sumO_dim {A : Type} {R : Sm A} {f g : Int → Int} {F : (Int → Int) → A} : ∀ {xs : List Int} {a : Int → Int}, (∀ x ∈ xs, f x = g x) → sumO R f xs F a = sumO R g xs F a
  | [], _, _ => rfl
  | x :: xs, a, h => by
    rw [sumO, sumO, h x (by simp)]; exact sumN_congr R fun v _ => sumO_dim fun y hy => h y (by simp [hy])
section
variable {k p n : Int} (hr : ringL k p n) (hR : RLaw k p n)
theorem val_upd {t : Ten} {x : Int} (h : x ∉ t.l) (a : Int → Int) (v : Int) : val hr t (upd a x v) = val hr t a := by
  unfold val
  rw [List.map_congr_left fun y hy => upd_ne (a := a) (v := v) (show y ≠ x from fun e => h (by rw [← e]; exact hy))]
/-- The product of some tensors at an assignment. -/
noncomputable def prodV (l : List Ten) (a : Int → Int) : El k p n := l.foldr (fun t z => (smL hr hR).mul (val hr t a) z) (smL hr hR).one
theorem prodV_cons (t : Ten) (l : List Ten) (a : Int → Int) : prodV hr hR (t :: l) a = (smL hr hR).mul (val hr t a) (prodV hr hR l a) := rfl
theorem prodV_upd {l : List Ten} {x : Int} (h : ∀ t ∈ l, x ∉ t.l) (a : Int → Int) (v : Int) : prodV hr hR l (upd a x v) = prodV hr hR l a := by
  induction l with
  | nil => rfl
  | cons t l ih => rw [prodV_cons, prodV_cons, val_upd hr (h t (by simp)), ih fun u hu => h u (by simp [hu])]
theorem prodV_perm {l l' : List Ten} (h : l.Perm l') (a : Int → Int) : prodV hr hR l a = prodV hr hR l' a := by
  induction h with
  | nil => rfl
  | cons t _ ih => rw [prodV_cons, prodV_cons, ih]
  | swap t u l =>
    simp only [prodV_cons]; rw [← (smL hr hR).mulA, ← (smL hr hR).mulA, (smL hr hR).mulC (val hr t a)]
  | trans _ _ h1 h2 => rw [h1, h2]
theorem sum_step {L O : List Ten} {t u : Ten} {f g : Int → Int} {K xs xs' : List Int} {a : Int → Int} (hL : L.Perm (t :: u :: O)) (h : PairOK k p n t u g) (hk : KeepOK t u g K) (hfg : ∀ x ∈ joinI t.l u.l, g x = f x)
    (hx : xs.Nodup) (hx' : xs'.Nodup) (hmem : ∀ x, x ∈ xs ↔ x ∈ xs' ∨ (x ∈ joinI t.l u.l ∧ x ∉ K)) (hdis : ∀ x ∈ joinI t.l u.l, x ∉ K → x ∉ xs' ∧ ∀ s ∈ O, x ∉ s.l) (hK : ∀ x ∈ K, x ∈ xs' ∨ (x ∉ xs' ∧ 0 ≤ a x ∧ a x < f x)) :
    sumO (smL hr hR) f xs (prodV hr hR L) a = sumO (smL hr hR) f xs' (prodV hr hR (O ++ [pairT k p n g t u K])) a := by
  have hD : ∀ x, x ∈ ((joinI t.l u.l).filter fun x => decide (x ∉ K)) ↔ x ∈ joinI t.l u.l ∧ x ∉ K := fun x => by rw [List.mem_filter, decide_eq_true_eq]
  have hp : xs.Perm (xs' ++ (joinI t.l u.l).filter fun x => decide (x ∉ K)) := by
    refine (List.perm_ext_iff_of_nodup hx (List.nodup_append.2 ⟨hx', List.Pairwise.filter _ h.nd, fun x h1 y h2 e => ?_⟩)).2 fun x => ?_
    · subst e; obtain ⟨h3, h4⟩ := (hD x).1 h2; exact (hdis x h3 h4).1 h1
    · rw [List.mem_append, hD, hmem]
  rw [sumO_perm _ _ hp, sumO_append]; refine sumO_congr _ _ fun b hb hbr => ?_; have e1 : ∀ c : Int → Int, prodV hr hR L c = (smL hr hR).mul ((smL hr hR).mul (val hr t c) (val hr u c)) (prodV hr hR O c) := fun c => by
    rw [prodV_perm hr hR hL, prodV_cons, prodV_cons, ← (smL hr hR).mulA]
  rw [sumO_congr (smL hr hR) f fun c _ _ => e1 c, sumO_mul (smL hr hR) f (F := fun c => (smL hr hR).mul (val hr t c) (val hr u c)) (G := prodV hr hR O) fun x hx c v => prodV_upd hr hR (hdis x ((hD x).1 hx).1 ((hD x).1 hx).2).2 c v]; rw [← sumO_dim (f := g) fun x hx => hfg x ((hD x).1 hx).1, ← pair_val hr hR h hk fun x hx => ?_]
  · rw [prodV_perm hr hR (List.perm_append_comm (l₁ := O) (l₂ := [pairT k p n g t u K])) b]
    rfl
  · rw [hfg x (hk.sub x hx)]
    rcases hK x hx with h1 | ⟨h1, h2⟩
    · exact hbr x h1
    · rw [hb x h1]; exact h2
variable {ts : List Ten} {op : List Int} {ss : List Stp}
open Classical in
noncomputable def remL (ts : List Ten) (op : List Int) (ss : List Stp) (i : Nat) : List Int := (labelsL ts).filter fun x => decide (x ∉ op ∧ ∃ j ∈ (runS ts op ss i).ixs, x ∈ (runS ts op ss i).lab j)
theorem mem_rem {i : Nat} {x : Int} : x ∈ remL ts op ss i ↔ x ∈ labelsL ts ∧ x ∉ op ∧ ∃ j ∈ (runS ts op ss i).ixs, x ∈ (runS ts op ss i).lab j := by
  unfold remL
  rw [List.mem_filter, decide_eq_true_eq]
theorem rem_nodup (ts : List Ten) (op : List Int) (ss : List Stp) (i : Nat) : (remL ts op ss i).Nodup := List.Pairwise.filter _ (labels_nodup ts 100)
theorem RunOK.labs {i : Nat} (r : RunOK k p n ts op ss i) {j : Nat} (hj : j < ts.length + i) {x : Int} (hx : x ∈ (runS ts op ss i).lab j) : x ∈ labelsL ts := by
  obtain ⟨h1, h2, h3⟩ := r.get hj; rw [← h2] at hx; have hg := findI_get hx; have ha := (ten_axes h1).2.2 _ hg.1
  unfold axP at ha
  rw [hg.2] at ha; refine mem_labels.2 ⟨by omega, ?_⟩; have e : ((runTo k p n ts op ss i).getD j noTen).d.getD (findI ((runTo k p n ts op ss i).getD j noTen).l x).toNat 0 = dimOf ts x := by
    conv => lhs; rw [h3]
    rw [map_getD hg.1, hg.2]
  rw [e] at ha
  omega
theorem run_sum_step (h : orderL k p n ts op ss) {i : Nat} (hi : i < ss.length) (r : RunOK k p n ts op ss i) (hf : runFit k p n ts op ss i) {a : Int → Int} (ha : ∀ x ∈ op, 0 ≤ a x ∧ a x < dimOf ts x) :
    sumO (smL hr hR) (dimOf ts) (remL ts op ss i) (prodV hr hR (outTo k p n ts op ss i)) a = sumO (smL hr hR) (dimOf ts) (remL ts op ss (i + 1)) (prodV hr hR (outTo k p n ts op ss (i + 1))) a := by
  obtain ⟨hst, hs1, hl⟩ := run_step h hi; obtain ⟨⟨ta, la, da⟩, ⟨tb, lb, db⟩⟩ := r.two h hi; have hkept := r.kept h hi; obtain ⟨hla, hlb, hab⟩ := hst; have hia := (live_ixs.1 hla).2; have hib := (live_ixs.1 hlb).2; have hne : (stpAt ss i).a.toNat ≠ (stpAt ss i).b.toNat := by have := hla.1; omega
  have hok := pair_ok hf.1 hf.2.1 hf.2.2.1 hf.2.2.2.1; have hkk := keep_ok hok hf.2.2.2.2; have hsok := (run_fine (ss := ss) h.1 i).1; have hixs : (runS ts op ss (i + 1)).ixs = ((runS ts op ss i).ixs.filter fun j => decide (j ≠ (stpAt ss i).a.toNat ∧ j ≠ (stpAt ss i).b.toNat)) ++ [(runS ts op ss i).all.length] := by rw [hs1, step_ixs hsok]
  have hJ : ∀ x, x ∈ joinI (runA k p n ts op ss i).l (runB k p n ts op ss i).l ↔ x ∈ (runS ts op ss i).lab (stpAt ss i).a.toNat ∨ x ∈ (runS ts op ss i).lab (stpAt ss i).b.toNat := fun x => by rw [mem_joinI, la, lb]
  have hK : ∀ x, x ∈ runK ts op ss i ↔ x ∈ joinI (runA k p n ts op ss i).l (runB k p n ts op ss i).l ∧ (runS ts op ss i).kept op (stpAt ss i).a.toNat (stpAt ss i).b.toNat x := fun x => by
    rw [hJ]
    show x ∈ Sh.res op (runS ts op ss i) _ _ ↔ _
    simp only [Sh.res, List.mem_filter, mem_joinI, decide_eq_true_eq]
  have hlab : ∀ j ∈ (runS ts op ss i).ixs, (runS ts op ss (i + 1)).lab j = (runS ts op ss i).lab j := fun j hj => by rw [hs1, step_lab (mem_ixs.1 hj).1]
  have hnew : (runS ts op ss (i + 1)).lab (runS ts op ss i).all.length = runK ts op ss i := by rw [hs1, step_lab_new]; rfl
  have hlt : ∀ j ∈ (runS ts op ss i).ixs, j < ts.length + i := fun j hj => by have := (mem_ixs.1 hj).1; omega
  have hmem1 : ∀ x, (∃ j ∈ (runS ts op ss (i + 1)).ixs, x ∈ (runS ts op ss (i + 1)).lab j) ↔ (∃ j ∈ (runS ts op ss i).ixs, j ≠ (stpAt ss i).a.toNat ∧ j ≠ (stpAt ss i).b.toNat ∧ x ∈ (runS ts op ss i).lab j) ∨ x ∈ runK ts op ss i := fun x => by
    rw [hixs]
    constructor
    · rintro ⟨j, hj, hx⟩
      rcases List.mem_append.1 hj with hj | hj
      · obtain ⟨h1, h2⟩ := List.mem_filter.1 hj; rw [decide_eq_true_eq] at h2; rw [hlab j h1] at hx; exact .inl ⟨j, h1, h2.1, h2.2, hx⟩
      · rw [List.mem_singleton.1 hj, hnew] at hx; exact .inr hx
    · rintro (⟨j, h1, h2, h3, hx⟩ | hx)
      · exact ⟨j, List.mem_append_left _ (List.mem_filter.2 ⟨h1, decide_eq_true ⟨h2, h3⟩⟩), by rw [hlab j h1]; exact hx⟩
      · exact ⟨_, List.mem_append_right _ (List.mem_singleton.2 rfl), by rw [hnew]; exact hx⟩
  have eout : outTo k p n ts op ss (i + 1) = (((runS ts op ss i).ixs.filter fun j => decide (j ≠ (stpAt ss i).a.toNat ∧ j ≠ (stpAt ss i).b.toNat)).map fun j => (runTo k p n ts op ss i).getD j noTen) ++ [pairT k p n (dimJ (runA k p n ts op ss i) (runB k p n ts op ss i)) (runA k p n ts op ss i) (runB k p n ts op ss i) (runK ts op ss i)] := by
    obtain ⟨pa, hpa⟩ := List.getElem?_of_mem hia; obtain ⟨pb, hpb⟩ := List.getElem?_of_mem hib; rw [out_step h hi r hpa hpb, out_len]
    unfold outTo
    rw [dropK_ixs _ hpa hpb _ (Nat.le_refl _), List.take_length, pairR, if_pos (show pairP k p n (runA k p n ts op ss i) (runB k p n ts op ss i) (runK ts op ss i) from hf), hkept]
  rw [eout]; rw [hkept] at hkk; refine sum_step hr hR (t := runA k p n ts op ss i) (u := runB k p n ts op ss i) ?_ hok hkk ?_ (rem_nodup ts op ss i) (rem_nodup ts op ss (i + 1)) ?_ ?_ ?_
  · have hperm : (runS ts op ss i).ixs.Perm ((stpAt ss i).a.toNat :: (stpAt ss i).b.toNat :: ((runS ts op ss i).ixs.filter fun j => decide (j ≠ (stpAt ss i).a.toNat ∧ j ≠ (stpAt ss i).b.toNat))) := by
      refine (List.perm_ext_iff_of_nodup (ixs_nodup _) ?_).2 fun j => ?_
      · refine List.nodup_cons.2 ⟨?_, List.nodup_cons.2 ⟨?_, List.Pairwise.filter _ (ixs_nodup _)⟩⟩
        · rw [List.mem_cons, List.mem_filter, decide_eq_true_eq]; rintro (e | e)
          · exact hne e
          · exact e.2.1 rfl
        · rw [List.mem_filter, decide_eq_true_eq]; exact fun e => e.2.2 rfl
      · rw [List.mem_cons, List.mem_cons, List.mem_filter, decide_eq_true_eq]
        constructor
        · intro hj
          by_cases c1 : j = (stpAt ss i).a.toNat
          · exact .inl c1
          · by_cases c2 : j = (stpAt ss i).b.toNat
            · exact .inr (.inl c2)
            · exact .inr (.inr ⟨hj, c1, c2⟩)
        · rintro (e | e | e)
          · rw [e]; exact hia
          · rw [e]; exact hib
          · exact e.1
    exact hperm.map fun j => (runTo k p n ts op ss i).getD j noTen
  · exact fun x hx => dimJ_f da db hx
  · intro x; rw [mem_rem, mem_rem, hmem1]
    constructor
    · rintro ⟨h1, h2, j, hj, hx⟩
      by_cases c1 : x ∈ runK ts op ss i
      · exact .inl ⟨h1, h2, .inr c1⟩
      · by_cases c2 : j ≠ (stpAt ss i).a.toNat ∧ j ≠ (stpAt ss i).b.toNat
        · exact .inl ⟨h1, h2, .inl ⟨j, hj, c2.1, c2.2, hx⟩⟩
        · refine .inr ⟨(hJ x).2 ?_, c1⟩
          by_cases c3 : j = (stpAt ss i).a.toNat
          · rw [← c3]; exact .inl hx
          · have c4 : j = (stpAt ss i).b.toNat := Classical.byContradiction fun e => c2 ⟨c3, e⟩; rw [← c4]; exact .inr hx
    · rintro (⟨h1, h2, ⟨j, hj, _, _, hx⟩ | hx⟩ | ⟨h1, h2⟩)
      · exact ⟨h1, h2, j, hj, hx⟩
      · rcases (hJ x).1 ((hK x).1 hx).1 with h3 | h3
        · exact ⟨h1, h2, _, hia, h3⟩
        · exact ⟨h1, h2, _, hib, h3⟩
      · have hno : x ∉ op := fun e => h2 ((hK x).2 ⟨h1, .inl e⟩)
        rcases (hJ x).1 h1 with h3 | h3
        · exact ⟨r.labs (hlt _ hia) h3, hno, _, hia, h3⟩
        · exact ⟨r.labs (hlt _ hib) h3, hno, _, hib, h3⟩
  · intro x h1 h2; have hnk : ¬ (runS ts op ss i).kept op (stpAt ss i).a.toNat (stpAt ss i).b.toNat x := fun e => h2 ((hK x).2 ⟨h1, e⟩); refine ⟨fun e => ?_, fun s hs => ?_⟩
    · rcases (hmem1 x).1 (mem_rem.1 e).2.2 with ⟨j, hj, h3, h4, h5⟩ | h3
      · exact hnk (.inr ⟨j, hj, h3, h4, h5⟩)
      · exact h2 h3
    · obtain ⟨j, hj, rfl⟩ := List.mem_map.1 hs; obtain ⟨h3, h4⟩ := List.mem_filter.1 hj; rw [decide_eq_true_eq] at h4; rw [(r.get (hlt j h3)).2.1]; exact fun e => hnk (.inr ⟨j, h3, h4.1, h4.2, e⟩)
  · intro x hx; obtain ⟨h1, _⟩ := (hK x).1 hx
    by_cases c : x ∈ op
    · exact .inr ⟨fun e => (mem_rem.1 e).2.1 c, ha x c⟩
    · refine .inl (mem_rem.2 ⟨?_, c, (hmem1 x).2 (.inr hx)⟩)
      rcases (hJ x).1 h1 with h3 | h3
      · exact r.labs (hlt _ hia) h3
      · exact r.labs (hlt _ hib) h3
theorem run_sum (h : orderL k p n ts op ss) {a : Int → Int} (ha : ∀ x ∈ op, 0 ≤ a x ∧ a x < dimOf ts x) : ∀ i, i ≤ ss.length → (∀ j, j < i → runFit k p n ts op ss j) →
    sumO (smL hr hR) (dimOf ts) (remL ts op ss 0) (prodV hr hR ts) a = sumO (smL hr hR) (dimOf ts) (remL ts op ss i) (prodV hr hR (outTo k p n ts op ss i)) a
  | 0, _, _ => by rw [out_zero]
  | i + 1, hi, hf => by
    rw [run_sum h ha i (by omega) fun j hj => hf j (by omega)]; exact run_sum_step hr hR h (by omega) (run_ok h i (by omega) fun j hj => hf j (by omega)) (hf i (by omega)) ha
end
end Go.Proofs.YtdkgaejmgnojhaaGreat
namespace Go.Proofs.YtdkgaejmgnojhaaGreat
set_option maxRecDepth 100000
open Go.RowKit
section
variable {k p n : Int} (hr : ringL k p n) (hR : RLaw k p n)
theorem val_one (a : Int → Int) : val hr (oneT k p n) a = (smL hr hR).one := by
  have h1 := oneL_in hr; have e : elt (oneT k p n).x (widthI k n) (offL (oneT k p n).d ((oneT k p n).l.map a)) = oneL k p n := by
    show ((oneL k p n).drop ((0 : Int) * widthI k n).toNat).take (widthI k n).toNat = oneL k p n
    rw [Int.zero_mul]
    show (oneL k p n).take (widthI k n).toNat = _
    rw [← h1.1, List.take_length]
  unfold val
  rw [e, toA_eq hr h1]; rfl
variable {ts : List Ten} {op : List Int}
theorem rem_zero (h : netL k p n ts op) (ss : List Stp) : remL ts [] ss 0 = labelsL ts := by
  unfold remL
  refine List.filter_eq_self.2 fun x hx => ?_; rw [decide_eq_true_eq]; refine ⟨by simp, ?_⟩; obtain ⟨t, ht, hxt⟩ := dimOf_mem (ts := ts) (x := x) (by have := (mem_labels.1 hx).2; omega); obtain ⟨m, hm⟩ := List.getElem?_of_mem ht; have hml := (List.getElem?_eq_some_iff.1 hm).1; have e0 : runS ts [] ss 0 = sh0 ts := rfl; refine ⟨m, by rw [e0, sh0_ixs]; simpa using hml, ?_⟩; rw [e0]
  simpa [Sh.lab, sh0, List.getD, hm] using hxt
theorem sum_val {t : Ten} (ht : tensorL k p n t.l t.d t.x) (a : Int → Int) : val hr (sumR k p n t []) a = sumO (smL hr hR) (dimJ t (oneT k p n)) (joinI t.l []) (val hr t) a := by
  have hp := sum_pair ht []; have hok := pair_ok hp.1 hp.2.1 hp.2.2.1 hp.2.2.2.1; have hkk := keep_ok hok hp.2.2.2.2; have hk0 : keepL t (oneT k p n) [] = [] := by unfold keepL; simp
  rw [hk0] at hkk; rw [sumR, if_pos ht, hk0, pair_val hr hR hok hkk (fun x hx => by simp at hx)]; have e1 : (joinI t.l (oneT k p n).l).filter (fun x => decide (x ∉ ([] : List Int))) = joinI t.l [] := List.filter_eq_self.2 fun x _ => by simp
  rw [e1]; exact sumO_congr _ _ fun b _ _ => by rw [val_one hr hR, (smL hr hR).mulC, (smL hr hR).mul1]
/-- A network's total is the sum over all labels of the product of its tensors. -/
theorem tot_sum (h : totP k p n ts op) (a : Int → Int) : toA hr (totX k p n ts op) = sumO (smL hr hR) (dimOf ts) (labelsL ts) (prodV hr hR ts) a := by
  obtain ⟨hnet, ho, hf⟩ := h; rw [totX_yes ⟨hnet, ho, hf⟩]
  by_cases h0 : ts.length = 0
  · have e := List.eq_nil_of_length_eq_zero h0; subst e; have el : labelsL ([] : List Ten) = [] := List.eq_nil_iff_forall_not_mem.2 fun x hx => by
      have := (mem_labels.1 hx).2
      simp [dimOf] at this
    rw [el, conT, if_pos (show ([] : List Ten).length = 0 from rfl)]
    show toA hr (oneL k p n) = (smL hr hR).one
    rw [toA_eq hr (oneL_in hr)]; rfl
  · obtain ⟨hfin, hout⟩ := conP.last ⟨ho, hf⟩ h0; have hrun := run_sum hr hR ho (a := a) (fun x hx => by simp at hx) (plainL ts.length).length (Nat.le_refl _) hf; rw [rem_zero hnet, hout] at hrun; rw [hrun, conT, if_neg h0]; have ht := hfin.2.1; have r := run_ok ho (plainL ts.length).length (Nat.le_refl _) hf; have hl := run_left ho (fun e => h0 (by rw [e]; rfl)); have hg := r.get (j := ts.length + (plainL ts.length).length - 1) (by omega); obtain ⟨s1, s2, s3⟩ := sum_ten ht []; have hk0 : keepL (lastT k p n ts [] (plainL ts.length)) (oneT k p n) [] = [] := by unfold keepL; simp
    rw [hk0] at s2 s3; have ex : (finT k p n (lastT k p n ts [] (plainL ts.length)) []).x = elt (sumR k p n (lastT k p n ts [] (plainL ts.length)) []).x (widthI k n) 0 := by
      show ((List.range 1).flatMap fun (i : Nat) => elt (sumR k p n (lastT k p n ts [] (plainL ts.length)) []).x (widthI k n) (offL (sumR k p n (lastT k p n ts [] (plainL ts.length)) []).d (idxAt [] (idxL [] i) (sumR k p n (lastT k p n ts [] (plainL ts.length)) []).l))) = _
      rw [s2, s3]
      simp [offL]
    have ev := sum_val hr hR ht a; have ev2 : val hr (sumR k p n (lastT k p n ts [] (plainL ts.length)) []) a = toA hr (elt (sumR k p n (lastT k p n ts [] (plainL ts.length)) []).x (widthI k n) 0) := by
      unfold val
      rw [s2, s3]; rfl
    rw [ex, ← ev2, ev]; have hnd := axes_nodup (ten_axes ht); have hperm : (joinI (lastT k p n ts [] (plainL ts.length)).l []).Perm (remL ts [] (plainL ts.length) (plainL ts.length).length) := by
      refine (List.perm_ext_iff_of_nodup (joinI_nodup hnd List.nodup_nil) (rem_nodup _ _ _ _)).2 fun x => ?_; rw [mem_joinI, mem_rem, hl]
      constructor
      · rintro (hx | hx)
        · have hx' : x ∈ (runS ts [] (plainL ts.length) (plainL ts.length).length).lab (ts.length + (plainL ts.length).length - 1) := by rw [← hg.2.1]; exact hx
          exact ⟨r.labs (by omega) hx', by simp, _, List.mem_singleton.2 rfl, hx'⟩
        · simp at hx
      · rintro ⟨_, _, j, hj, hx⟩; rw [List.mem_singleton.1 hj, ← hg.2.1] at hx; exact .inl hx
    rw [sumO_dim (f := dimJ (lastT k p n ts [] (plainL ts.length)) (oneT k p n)) (g := dimOf ts) (xs := joinI (lastT k p n ts [] (plainL ts.length)).l []) (fun x hx => dimJ_f (t := lastT k p n ts [] (plainL ts.length)) (u := oneT k p n) (f := dimOf ts) hg.2.2 rfl hx), sumO_perm _ _ hperm]; refine sumO_congr _ _ fun b _ _ => ?_
    show _ = (smL hr hR).mul _ (smL hr hR).one
    rw [(smL hr hR).mulC, (smL hr hR).mul1]
end
end Go.Proofs.YtdkgaejmgnojhaaGreat
namespace Go.Proofs.YtdkgaejmgnojhaaGreat
set_option maxRecDepth 100000
open Go.RowKit
theorem idx_off : ∀ {ds is : List Int}, (∀ d ∈ ds, 1 ≤ d) → idxIn ds is → idxL ds (offL ds is) = is
  | [], [], _, _ => rfl
  | [], i :: is, _, h => by have := h.1; simp at this
  | d :: ds, [], _, h => by have := h.1; simp at this
  | d :: ds, i :: is, hd, hi => by
    have hd' : ∀ x ∈ ds, 1 ≤ x := fun x hx => hd x (by simp [hx]); have tl : idxIn ds is := ⟨by have := hi.1; simpa using this, fun q hq => by
      have := hi.2 (q + 1) (by simp; omega)
      simpa using this⟩
    have hd0 := hi.2 0 (by simp); simp only [List.getD_cons_zero] at hd0; have ho := offL_in hd' tl; have hP := prodI_one hd'
    show idxL (d :: ds) (i * prodI ds + offL ds is) = _
    rw [idxL_cons, idxL_shift hd', idx_off hd' tl]
    congr 1
    rw [Int.add_comm, Int.add_mul_ediv_right _ _ (by omega), Int.ediv_eq_zero_of_lt (by omega) (by omega), Int.zero_add]; exact Int.emod_eq_of_lt hd0.1 hd0.2
section
variable {k p n : Int} (hr : ringL k p n) (hR : RLaw k p n)
variable {ts : List Ten} {op op' : List Int} {x : Int}
end
end Go.Proofs.YtdkgaejmgnojhaaGreat
namespace Go.Proofs.YtdkgaejmgnojhaaGreat
set_option maxRecDepth 100000
open Go.RowKit
section
variable {k p n : Int} {ts : List Ten}
/-- Any distinct labels of the network make up a small tensor. -/
def SmallN (ts : List Ten) : Prop := ∀ l : List Int, l.Nodup → (∀ x ∈ l, x ∈ labelsL ts) → l.length ≤ 12 ∧ prodI (l.map (dimOf ts)) ≤ 4096
theorem small_lab {t : Ten} (ht : tensorL k p n t.l t.d t.x) (hd : t.d = t.l.map (dimOf ts)) : ∀ x ∈ t.l, x ∈ labelsL ts ∧ (0 ≤ x ∧ x ≤ 99) ∧ 1 ≤ dimOf ts x ∧ dimOf ts x ≤ 8 := fun x hx => by
  have h1 := dims_mem (axes_dims (ten_axes ht)) (dimOf ts x) (by rw [hd]; exact List.mem_map_of_mem hx); obtain ⟨j, hj, e⟩ := getD_of_mem hx; have h2 := ((ten_axes ht).2.2 j hj).1; rw [e] at h2; exact ⟨mem_labels.2 ⟨⟨h2.1, by omega⟩, by omega⟩, h2, h1⟩
theorem fit_small {op : List Int} {ss : List Stp} (h : orderL k p n ts op ss) (hf : SmallN ts) : ∀ i, i ≤ ss.length → ∀ j, j < i → runFit k p n ts op ss j
  | 0, _, j, hj => by omega
  | i + 1, hi, j, hj => by
    have ih := fit_small h hf i (by omega)
    by_cases c : j < i
    · exact ih j c
    · have e : j = i := by omega
      subst e; have r := run_ok h j (by omega) ih; obtain ⟨⟨ta, la, da⟩, ⟨tb, lb, db⟩⟩ := r.two h (by omega); have hk := r.kept h (by omega); have hjn : (joinI (runA k p n ts op ss j).l (runB k p n ts op ss j).l).Nodup := joinI_nodup (axes_nodup (ten_axes ta)) (axes_nodup (ten_axes tb)); have hjm : ∀ x ∈ joinI (runA k p n ts op ss j).l (runB k p n ts op ss j).l, x ∈ labelsL ts ∧ (0 ≤ x ∧ x ≤ 99) ∧ 1 ≤ dimOf ts x ∧ dimOf ts x ≤ 8 := fun x hx => (mem_joinI.1 hx).elim (small_lab ta da x) (small_lab tb db x); refine (pairP_iff ta tb da db).2 ⟨Int.le_trans (hf _ hjn fun x hx => (hjm x hx).1).2 (by decide), ?_⟩; have hkm : ∀ x ∈ keepL (runA k p n ts op ss j) (runB k p n ts op ss j) (runK ts op ss j), x ∈ joinI (runA k p n ts op ss j).l (runB k p n ts op ss j).l := fun x hx => (List.mem_filter.1 hx).1; have hkn : (keepL (runA k p n ts op ss j) (runB k p n ts op ss j) (runK ts op ss j)).Nodup := hjn.filter _; have hs := hf _ hkn fun x hx => (hjm x (hkm x hx)).1; refine sizeI_ge.2 ⟨⟨hs.1, by simp, fun q hq => ⟨(hjm _ (hkm _ (mem_getD hq))).2.1, by rw [map_getD hq]; exact (hjm _ (hkm _ (mem_getD hq))).2.2, nodup_not_take hkn hq⟩⟩, hs.2⟩
theorem plain_get {m i : Nat} (h : i < m - 1) : (plainL m)[i]? = some (plainAt m i) := by simp [plainL, plainTo, h]
theorem plain_ixs {op : List Int} (h : netL k p n ts op) : ∀ i, i ≤ ts.length - 1 → ∀ j, j ∈ (runS ts op (plainL ts.length) i).ixs ↔ (i = 0 ∧ j < ts.length) ∨ (0 < i ∧ ((i + 1 ≤ j ∧ j < ts.length) ∨ j = ts.length + i - 1))
  | 0, _, j => by
    show j ∈ (sh0 ts).ixs ↔ _
    rw [sh0_ixs, List.mem_range]
    omega
  | i + 1, hi, j => by
    have ih := plain_ixs h i (by omega) j; have hx := plain_get (m := ts.length) (i := i) (by omega); have ha := run_all (ts := ts) (op := op) (ss := plainL ts.length) (i := i) (by rw [plain_len']; omega); have hs : runS ts op (plainL ts.length) (i + 1) = (runS ts op (plainL ts.length) i).step op (plainAt ts.length i).a.toNat (plainAt ts.length i).b.toNat := shTo_step hx; rw [hs, step_ixs (run_fine (ss := plainL ts.length) h i).1, List.mem_append, List.mem_filter, ih, List.mem_singleton, ha, decide_eq_true_eq]
    unfold plainAt
    by_cases c : i = 0
    · rw [if_pos c]
      simp only
      omega
    · rw [if_neg c]
      simp only
      omega
theorem plain_order {op : List Int} (h : netL k p n ts op) : orderL k p n ts op (plainL ts.length) := by
  refine ⟨h, plain_len' _, fun i hi x hx => ?_⟩; rw [plain_len'] at hi; rw [plain_get hi] at hx
  cases hx
  have hl : ∀ a : Int, 0 ≤ a → a.toNat ∈ (runS ts op (plainL ts.length) i).ixs → (runS ts op (plainL ts.length) i).live a := fun a h0 hm => live_ixs.2 ⟨h0, hm⟩; have hp := plain_ixs h i (by omega)
  show (runS ts op (plainL ts.length) i).live _ ∧ (runS ts op (plainL ts.length) i).live _ ∧ _
  unfold plainAt
  by_cases c : i = 0
  · rw [if_pos c]; exact ⟨hl _ (by simp) ((hp _).2 (by simp only; omega)), hl _ (by simp) ((hp _).2 (by simp only; omega)), by simp⟩
  · rw [if_neg c]; exact ⟨hl _ (by simp only; omega) ((hp _).2 (by simp only; omega)), hl _ (by simp only; omega) ((hp _).2 (by simp only; omega)), by simp only; omega⟩
theorem tot_small {op : List Int} (h : netL k p n ts op) (hf : SmallN ts) : totP k p n ts op :=
  ⟨h, plain_order (net_nil h), fit_small (plain_order (net_nil h)) hf _ (Nat.le_refl _)⟩
end
end Go.Proofs.YtdkgaejmgnojhaaGreat
namespace Go.Proofs.YtdkgaejmgnojhaaGreat
set_option maxRecDepth 100000
open Go.RowKit
theorem ct_s_MakeForest (m : Int) (xs : List Int) (vb : Value) (w : World) (rb : BytesR xs vb (hp w)) (hxl : xs.length ≤ 1048576) (hm : 0 ≤ m ∧ m ≤ 1000) : Calls Tryz.prog 4 [vb, num m].toArray w (Ret w emp (fun u h' => ∃ k p n ts op c, NetT k p n ts op u h' ∧ ringL k p n ∧ GenF k p n ts c ∧ (ts.length ≤ 4 ∧ c ≤ 8 ∧ op.length ≤ 1 ∧ ∀ x ∈ op, x ∈ nodesR c))) := by
  refine calls_in Tryz.func4 rfl Tryz.ntmps4 rfl (Sat.start w) ?_; have hle0 := rb.le; refine wp_sc (wp_sq ?_); refine sq_x rfl (x_alloc ty_28 rfl) rfl ?_; rintro _ _ ⟨b4, rfl, rfl⟩; refine sq_end (qs_n (wp_sc (wp_sq (sq_v rfl (v_move rfl) rfl (sq_v rfl (v_move rfl) rfl ?_))))); refine sq_x rfl (x_call rfl en_17 (fun w s => ct_s_l45At _ _ _ w (rb.mono (s.get 1 rfl)) (by first | assumption | omega) (by first | assumption | omega))) rfl ?_; rintro v7 h7 r7; refine sq_m 0 rfl rfl (x_call rfl en_16 (fun w s => ct_s_l28Forest xs vb v7 w _ (s.get 0 rfl) r7 (rb.mono (s.getR 0 2 rfl rfl (by decide))))) rfl ?_; rintro _ h8 ⟨hc8, hn8, k, p, n, ts, op, c, cu8, ⟨vt, vo, rfl, o8⟩, hr8, hg8, hb8, md8⟩; refine sq_m 1 rfl rfl (m_store 1 ty_28 rfl rfl rfl rfl (by simp [one_int, o8.toR.1.sl.one, o8.toR.2.sl.one]) rfl (Nat.le_of_ble_eq_true rfl)) rfl ?_; rintro _ _ ⟨rfl, rfl⟩; refine sq_end (qs_s [box b4 [num k, num p, num n, vt, vo] 28, hp w, hc8, hn8] (fun _ s => Sat.open (A := [box b4 [num k, num p, num n, vt, vo] 28, hp w]) md8 (s.pick [0, 1, 2] (by decide) rfl)) (qs_n (wp_rt ?_))); exact qs_retc 0 rfl ty_28 rfl rfl rfl (fin_t 3 (i := 1) rfl rfl rfl ⟨k, p, n, ts, op, c, ⟨vt, vo, rfl, o8⟩, hr8, hg8, hb8⟩)
theorem prod_sub {f : Int → Int} : ∀ {l m : List Int}, l.Nodup → (∀ x ∈ l, x ∈ m) → (∀ x ∈ m, 1 ≤ f x) → prodI (l.map f) ≤ prodI (m.map f)
  | [], m, _, _, h1 => by
    have : prodI (([] : List Int).map f) = 1 := rfl; have := prodI_one (ds := m.map f) fun d hd => by
      obtain ⟨x, hx, rfl⟩ := List.mem_map.1 hd; exact h1 x hx
    omega
  | x :: l, m, hn, hs, h1 => by
    obtain ⟨hx, hn'⟩ := List.nodup_cons.1 hn; obtain ⟨a, b, rfl⟩ := List.append_of_mem (hs x (by simp)); have ih := prod_sub (f := f) (l := l) (m := a ++ b) hn' (fun y hy => by
      have := hs y (by simp [hy]); simp only [List.mem_append, List.mem_cons] at this ⊢
      rcases this with h | h | h
      · exact .inl h
      · exact absurd (h ▸ hy) hx
      · exact .inr h) fun y hy => h1 y (by
        rcases List.mem_append.1 hy with h | h
        · simp [h]
        · simp [h])
    have hfx := h1 x (by simp); rw [List.map_append, prodI_append] at ih; rw [List.map_cons, prodI_cons, List.map_append, List.map_cons, prodI_append, prodI_cons]; have h2 := Int.mul_le_mul_of_nonneg_left ih (show 0 ≤ f x by omega); have e : prodI (a.map f) * (f x * prodI (b.map f)) = f x * (prodI (a.map f) * prodI (b.map f)) := by rw [← Int.mul_assoc, Int.mul_comm (prodI (a.map f)), Int.mul_assoc]
    rw [e]; exact h2
theorem mem_nodesR {m : Nat} {x : Int} : x ∈ nodesR m ↔ 0 ≤ x ∧ x < m := by
  unfold nodesR
  rw [List.mem_map]
  constructor
  · rintro ⟨i, hi, rfl⟩; have := List.mem_range.1 hi; exact ⟨Int.natCast_nonneg i, by simp; omega⟩
  · rintro ⟨h0, h1⟩; exact ⟨x.toNat, List.mem_range.2 (by omega), by simp; omega⟩
theorem uf_fresh {m : Nat} {es : List (Nat × Nat)} (hin : inE m es) {u v : Nat} (hu : u < m) (hv : v < m) (huv : u ≠ v) (hf : ∀ e ∈ es, e.1 ≠ u ∧ e.2 ≠ u) : (ufF (nodesR m) es).getD u 0 ≠ (ufF (nodesR m) es).getD v 0 := fun e => by
  have h := ufF_least (R := nodesR m) (g := fun z => z = u) (fun a b ha hb hab => by
    rw [nodesR_len] at ha hb; rw [nodesR_at ha, nodesR_at hb] at hab; rw [show a = b by omega]) es (by rw [nodesR_len]; exact hin) (fun e he => propext ⟨fun h => absurd h (hf e he).1, fun h => absurd h (hf e he).2⟩) u v (by rw [nodesR_len]; exact hu) (by rw [nodesR_len]; exact hv) e
  exact huv (h.mp rfl).symm
section
variable {k p n : Int} {ts : List Ten} {op : List Int} {c : Nat}
theorem GenF.at (h : GenF k p n ts c) {i : Nat} (hi : i < ts.length) : (ts.getD i noTen).l.Nodup ∧ ∀ x ∈ (ts.getD i noTen).l, 0 ≤ x ∧ x < c :=
  (h.1 (ts.getD i noTen) (by simp [List.getD, hi])).2.2
theorem genF_for (h : GenF k p n ts c) (hc : c ≤ 8) : forL ts := by
  have hin1 : ∀ i, i ≤ ts.length → inE (ts.length + 100) (edgTo ts i) := fun i hi e he => by
    obtain ⟨h1, x, hx, h2⟩ := mem_edgTo.1 he; have := (h.at (show e.1 < ts.length by omega)).2 x hx
    omega
  have key : ∀ i, i ≤ ts.length → okE (nodesR (ts.length + 100)) (edgTo ts i) := fun i => by
    induction i with
    | zero => intro _; exact trivial
    | succ i ih =>
      intro hi; have ih := ih (by omega); have hat := h.at (show i < ts.length by omega); rw [edgTo_step]; have inner : ∀ j, j ≤ (ts.getD i noTen).l.length → okE (nodesR (ts.length + 100)) (edgTo ts i ++ edg ts i j) := fun j => by
        induction j with
        | zero => intro _; rw [edg_zero, List.append_nil]; exact ih
        | succ j ihj =>
          intro hj; have ihj := ihj (by omega); have hx := hat.2 _ (mem_getD (show j < (ts.getD i noTen).l.length by omega)); rw [edg_step (by omega), ← List.append_assoc, okE_snoc]; refine ⟨ihj, ?_⟩; have hin2 : inE (ts.length + 100) (edgTo ts i ++ edg ts i j) := fun e he => by
            rcases List.mem_append.1 he with he | he
            · exact hin1 i (by omega) e he
            · obtain ⟨x, hx, rfl⟩ := List.mem_map.1 he; have := hat.2 x (List.mem_of_mem_take hx)
              simp only
              omega
          by_cases c0 : j = 0
          · subst c0; rw [edg_zero, List.append_nil] at hin2 ⊢; refine uf_fresh hin2 (u := i) (by omega) (by simp only; omega) (by simp only; omega) fun e he => ?_; obtain ⟨h1, x, _, h2⟩ := mem_edgTo.1 he
            omega
          · refine Ne.symm (uf_fresh hin2 (by simp only; omega) (by simp only; omega) (by simp only; omega) fun e he => ?_)
            simp only
            rcases List.mem_append.1 he with he | he
            · obtain ⟨h1, y, hy, h2⟩ := mem_edgTo.1 he; have hne := h.2.1 i j e.1 (by omega) (by omega) (by omega) h1; have hyr := (h.at (show e.1 < ts.length by omega)).2 y hy; refine ⟨by omega, fun e9 => hne ?_⟩; rw [show (ts.getD i noTen).l.getD j 0 = y by omega]; exact hy
            · obtain ⟨y, hy, rfl⟩ := List.mem_map.1 he; have hyr := hat.2 y (List.mem_of_mem_take hy); refine ⟨by simp only; omega, fun e9 => nodup_not_take hat.1 (show j < (ts.getD i noTen).l.length by omega) ?_⟩
              simp only at e9
              rw [show (ts.getD i noTen).l.getD j 0 = y by omega]; exact hy
      exact inner _ (Nat.le_refl _)
  exact key ts.length (Nat.le_refl _)
theorem GenF.dim (h : GenF k p n ts c) {x : Int} (hx : ∃ t ∈ ts, x ∈ t.l) : (0 ≤ x ∧ x < c) ∧ dimOf ts x = dimG x := by
  refine ⟨?_, dimOf_map (fun t ht => (h.1 t ht).2.1) hx⟩; obtain ⟨t, ht, hxt⟩ := hx; exact (h.1 t ht).2.2.2 x hxt
theorem GenF.lab (h : GenF k p n ts c) {x : Int} (hx : x ∈ labelsL ts) : (0 ≤ x ∧ x < c) ∧ dimOf ts x = dimG x := by
  have h1 := (mem_labels.1 hx).2; exact h.dim (dimOf_mem (show dimOf ts x ≠ 0 by omega))
theorem genF_small (h : GenF k p n ts c) (hc : c ≤ 8) : SmallN ts := fun l hn hl => by
  have hs : ∀ x ∈ l, x ∈ nodesR 8 := fun x hx => by
    have := (h.lab (hl x hx)).1; exact mem_nodesR.2 ⟨this.1, by omega⟩
  have h1 := pigeon hn hs; have h2 := prod_sub (f := dimG) hn hs fun x hx => (dimZ_in (mem_nodesR.1 hx).1).1; rw [nodesR_len] at h1; have e : prodI ((nodesR 8).map dimG) = 216 := by decide
  rw [List.map_congr_left fun x hx => (h.lab (hl x hx)).2]
  omega
theorem genF_net (hr : ringL k p n) (h : GenF k p n ts c) (hb : ts.length ≤ 4 ∧ c ≤ 8 ∧ op.length ≤ 1 ∧ ∀ x ∈ op, x ∈ nodesR c) : netL k p n ts op := by
  have hop : ∀ x ∈ op, (0 ≤ x ∧ x < c) ∧ dimOf ts x = dimG x := fun x hx => by
    have h1 := mem_nodesR.1 (hb.2.2.2 x hx); obtain ⟨t, ht, hxt⟩ := h.2.2 x.toNat (by omega); rw [Int.toNat_of_nonneg h1.1] at hxt; exact h.dim ⟨t, ht, hxt⟩
  have hnd : op.Nodup := by
    match op, hb.2.2.1 with
    | [], _ => exact List.nodup_nil
    | [a], _ => simp
    | a :: b :: r, hl => simp at hl
  have hp := prod_sub (f := dimG) (m := nodesR 8) hnd (fun x hx => by
    have := (hop x hx).1; exact mem_nodesR.2 ⟨this.1, by omega⟩) fun x hx => (dimZ_in (mem_nodesR.1 hx).1).1
  have e : prodI ((nodesR 8).map dimG) = 216 := by decide
  refine ⟨hr, by omega, fun t ht => (h.1 t ht).1, cons_of_map fun t ht => (h.1 t ht).2.1, sizeI_ge.2 ⟨⟨by omega, by simp [dimsFor], fun j hj => ⟨?_, ?_, nodup_not_take hnd hj⟩⟩, ?_⟩⟩
  · have := (hop _ (mem_getD hj)).1; omega
  · obtain ⟨h2, h3⟩ := hop _ (mem_getD hj); have h5 := dimZ_in h2.1
    unfold dimsFor
    rw [map_getD hj, h3]
    omega
  · unfold dimsFor
    rw [List.map_congr_left fun x hx => (hop x hx).2]
    omega
end
end Go.Proofs.YtdkgaejmgnojhaaGreat
namespace Go.Proofs.YtdkgaejmgnojhaaGreat
set_option maxRecDepth 100000
open Go.RowKit
section
variable {A : Type} (R : Sm A)
/-- A product over a list. -/
def prdL {β : Type} (F : β → A) : List β → A
  | [] => R.one
  | x :: l => R.mul (F x) (prdL F l)
theorem Sm.mul1' (a : A) : R.mul a R.one = a := by rw [R.mulC, R.mul1]
theorem Sm.mulX (a b c : A) : R.mul a (R.mul b c) = R.mul b (R.mul a c) := by rw [← R.mulA, R.mulC a b, R.mulA]
theorem prdL_append {β : Type} (F : β → A) (m : List β) : ∀ l : List β, prdL R F (l ++ m) = R.mul (prdL R F l) (prdL R F m)
  | [] => (R.mul1 _).symm
  | x :: l => by
    have ih := prdL_append F m l
    show R.mul (F x) (prdL R F (l ++ m)) = R.mul (R.mul (F x) (prdL R F l)) (prdL R F m)
    rw [ih, R.mulA]
theorem prdL_one {β : Type} (F : β → A) (x : β) : prdL R F [x] = F x := R.mul1' _
theorem prdL_congr {β : Type} {F G : β → A} : ∀ {l : List β}, (∀ x ∈ l, F x = G x) → prdL R F l = prdL R G l
  | [], _ => rfl
  | x :: l, h => by
    have ih := prdL_congr (l := l) fun y hy => h y (by simp [hy])
    show R.mul (F x) _ = R.mul (G x) _
    rw [h x (by simp), ih]
theorem prdL_perm {β : Type} {F : β → A} {l m : List β} (h : l.Perm m) : prdL R F l = prdL R F m := by
  induction h with
  | nil => rfl
  | cons x _ ih => show R.mul _ _ = R.mul _ _; rw [ih]
  | swap x y l => exact R.mulX _ _ _
  | trans _ _ ih1 ih2 => rw [ih1, ih2]
theorem prdL_split {β : Type} (F : β → A) (p : β → Bool) : ∀ l : List β, prdL R F l = R.mul (prdL R F (l.filter p)) (prdL R F (l.filter fun x => !p x))
  | [] => (R.mul1 _).symm
  | x :: l => by
    have ih := prdL_split F p l
    show R.mul (F x) (prdL R F l) = _
    by_cases c : p x = true
    · rw [List.filter_cons_of_pos c, List.filter_cons_of_neg (by simp [c]), ih]; exact (R.mulA _ _ _).symm
    · rw [List.filter_cons_of_neg c, List.filter_cons_of_pos (by simp [c]), ih]; exact R.mulX _ _ _
theorem prdL_group {β : Type} (F : β → A) (par : β → Int) (l : List β) : ∀ {C : List Int}, C.Nodup → prdL R F (l.filter fun q => decide (par q ∈ C)) = prdL R (fun y => prdL R F (l.filter fun q => decide (par q = y))) C
  | [], _ => by
    have e : (l.filter fun q => decide (par q ∈ ([] : List Int))) = [] := List.filter_eq_nil_iff.2 fun q _ => by simp
    rw [e]; rfl
  | y :: C, hn => by
    obtain ⟨hy, hn'⟩ := List.nodup_cons.1 hn; have ih := prdL_group F par l hn'; rw [prdL_split R F (fun q => decide (par q = y)), List.filter_filter, List.filter_filter]
    show _ = R.mul _ (prdL R _ C)
    rw [← ih]
    congr 2
    · refine List.filter_congr fun q _ => ?_
      by_cases c : par q = y <;> simp [c]
    · refine List.filter_congr fun q _ => ?_
      by_cases c : par q = y
      · simp [c, hy]
      · simp [c]
theorem perm_iff {β : Type} {l m : List β} (hl : l.Nodup) (hm : m.Nodup) (h : ∀ x, x ∈ l ↔ x ∈ m) : l.Perm m := (List.perm_ext_iff_of_nodup hl hm).2 h
/-- Tensors of a tree in their order from the leaves on; each has one label above it. -/
structure TrOK (I : List Nat) (L : Nat → List Int) (par : Nat → Int) (pT : Nat → Nat) (pL : Int → Nat) (x0 : Int) : Prop where
  nd : I.Nodup
  so : I.Pairwise fun i j => pT i ≤ pT j
  ln : ∀ i ∈ I, (L i).Nodup
  pm : ∀ i ∈ I, par i ∈ L i
  up : ∀ i ∈ I, pT i < pL (par i)
  dn : ∀ i ∈ I, ∀ y ∈ L i, y ≠ par i → pL y < pT i
  one : ∀ i ∈ I, ∀ j ∈ I, ∀ y, y ∈ L i → y ∈ L j → y ≠ par i → i ≠ j → par j = y
  root : ∀ i ∈ I, x0 ∈ L i → par i = x0
  top : ∀ i ∈ I, par i ≠ x0 → ∃ j ∈ I, par i ∈ L j ∧ par j ≠ par i
def chL (L : Nat → List Int) (par : Nat → Int) (i : Nat) : List Int := (L i).filter fun y => decide (y ≠ par i)
theorem mem_ch {L : Nat → List Int} {par : Nat → Int} {i : Nat} {y : Int} : y ∈ chL L par i ↔ y ∈ L i ∧ y ≠ par i := by simp [chL]
variable {I : List Nat} {L : Nat → List Int} {par : Nat → Int} {pT : Nat → Nat} {pL : Int → Nat} {x0 : Int} (f : Int → Int)
variable {T : Nat → (Int → Int) → A} {MT : Nat → Int → Int → A} {ML : Int → Nat → Int → A}
theorem tree_step (h : TrOK I L par pT pL x0)
    (hT : ∀ i ∈ I, ∀ y, y ∉ L i → ∀ (b : Int → Int) v, T i (upd b y v) = T i b)
    (hML : ∀ i ∈ I, ∀ y ∈ L i, ∀ v, ML y i v = prdL R (fun q => MT q y v) (I.filter fun q => decide (q ≠ i ∧ y ∈ L q)))
    (hMT : ∀ i ∈ I, ∀ a : Int → Int, 0 ≤ a (par i) ∧ a (par i) < f (par i) → sumO R f (chL L par i) (fun b => R.mul (T i b) (prdL R (fun y => ML y i (b y)) (chL L par i))) a = MT i (par i) (a (par i))) :
    ∀ done todo, I = done ++ todo → ∀ a : Int → Int, (∀ i ∈ I, ∀ y ∈ L i, 0 ≤ a y ∧ a y < f y) →
      sumO R f (done.flatMap (chL L par)) (fun b => prdL R (fun i => T i b) I) a = R.mul (prdL R (fun j => T j a) todo) (prdL R (fun q => MT q (par q) (a (par q))) (done.filter fun q => decide (par q ∉ done.flatMap (chL L par)))) := by
  refine snocI (fun todo e a _ => ?_) fun done i ih todo e a ha => ?_
  · rw [e]; exact (R.mul1' _).symm
  · have e' : I = done ++ (i :: todo) := by rw [e]; simp
    have hiI : i ∈ I := by rw [e']; simp
    have hdI : ∀ q ∈ done, q ∈ I := fun q hq => by rw [e']; simp [hq]
    have htI : ∀ j ∈ todo, j ∈ I := fun j hj => by rw [e']; simp [hj]
    have hnd := h.nd; rw [e'] at hnd; obtain ⟨hnd1, hnd2, hnd3⟩ := List.nodup_append.1 hnd; obtain ⟨hit, hnt⟩ := List.nodup_cons.1 hnd2; have hid : i ∉ done := fun hm => hnd3 i hm i (by simp) rfl; have hso := h.so; rw [e'] at hso; obtain ⟨_, hso2, hso3⟩ := List.pairwise_append.1 hso; have hso4 := (List.pairwise_cons.1 hso2).1
    -- an older neighbour of a label below i is done
    have hlow : ∀ y ∈ chL L par i, ∀ q ∈ I, q ≠ i → y ∈ L q → par q = y ∧ q ∈ done := fun y hy q hq hne hyq => by
      obtain ⟨h1, h2⟩ := mem_ch.1 hy; have hp := h.one i hiI q hq y h1 hyq h2 (Ne.symm hne); refine ⟨hp, ?_⟩; have d1 := h.dn i hiI y h1 h2; have d2 := h.up q hq; rw [hp] at d2; rw [e'] at hq
      rcases List.mem_append.1 hq with hm | hm
      · exact hm
      · rcases List.mem_cons.1 hm with hm | hm
        · exact absurd hm hne
        · have := hso4 q hm
          omega
    have hdis : ∀ y ∈ chL L par i, y ∉ done.flatMap (chL L par) := fun y hy hm => by
      obtain ⟨q, hq, hyq⟩ := List.mem_flatMap.1 hm; obtain ⟨k1, k2⟩ := mem_ch.1 hyq; exact k2 (hlow y hy q (hdI q hq) (fun e => hid (e ▸ hq)) k1).1.symm
    have hpi : par i ∉ (done ++ [i]).flatMap (chL L par) := fun hm => by
      obtain ⟨q, hq, hyq⟩ := List.mem_flatMap.1 hm; obtain ⟨k1, k2⟩ := mem_ch.1 hyq
      rcases List.mem_append.1 hq with hq | hq
      · have d1 := h.dn q (hdI q hq) _ k1 k2; have d2 := h.up i hiI; have d3 := hso3 q hq i (by simp)
        omega
      · rw [List.mem_singleton.1 hq] at k2; exact k2 rfl
    have eF : (done ++ [i]).flatMap (chL L par) = done.flatMap (chL L par) ++ chL L par i := by simp
    rw [sumO_perm R f (show ((done ++ [i]).flatMap (chL L par)).Perm (chL L par i ++ done.flatMap (chL L par)) by rw [eF]; exact List.perm_append_comm), sumO_append]; have hcn : (chL L par i).Nodup := (h.ln i hiI).filter _
    -- the integrand, grouped
    have hG : ∀ b : Int → Int, (∀ y, y ∉ chL L par i → b y = a y) → (∀ y ∈ chL L par i, 0 ≤ b y ∧ b y < f y) →
        sumO R f (done.flatMap (chL L par)) (fun b => prdL R (fun i => T i b) I) b = R.mul (R.mul (T i b) (prdL R (fun y => ML y i (b y)) (chL L par i))) (R.mul (prdL R (fun j => T j b) todo) (prdL R (fun q => MT q (par q) (b (par q))) (done.filter fun q => decide (par q ∉ (done ++ [i]).flatMap (chL L par))))) := fun b hb1 hb2 => by
      rw [ih (i :: todo) e' b fun j hj y hy => by
        by_cases c : y ∈ chL L par i
        · exact hb2 y c
        · rw [hb1 y c]; exact ha j hj y hy]
      have es := prdL_split R (fun q => MT q (par q) (b (par q))) (fun q => decide (par q ∈ chL L par i)) (done.filter fun q => decide (par q ∉ done.flatMap (chL L par))); rw [es, List.filter_filter, List.filter_filter]; have e1 : (done.filter fun q => decide (par q ∈ chL L par i) && decide (par q ∉ done.flatMap (chL L par))) = done.filter fun q => decide (par q ∈ chL L par i) := List.filter_congr fun q _ => by
        by_cases c : par q ∈ chL L par i
        · have := hdis _ c
          simp [c, this]
        · simp [c]
      have e2 : (done.filter fun q => (!decide (par q ∈ chL L par i)) && decide (par q ∉ done.flatMap (chL L par))) = done.filter fun q => decide (par q ∉ (done ++ [i]).flatMap (chL L par)) := List.filter_congr fun q _ => by
        rw [eF]
        by_cases c : par q ∈ chL L par i <;> simp [c]
      have e3 : prdL R (fun q => MT q (par q) (b (par q))) (done.filter fun q => decide (par q ∈ chL L par i)) = prdL R (fun y => ML y i (b y)) (chL L par i) := by
        rw [prdL_group R _ par done hcn]; refine prdL_congr R fun y hy => ?_; obtain ⟨k1, k2⟩ := mem_ch.1 hy; rw [hML i hiI y k1 (b y)]; have hp : (done.filter fun q => decide (par q = y)).Perm (I.filter fun q => decide (q ≠ i ∧ y ∈ L q)) := perm_iff (hnd1.filter _) (h.nd.filter _) fun q => by
          simp only [List.mem_filter, decide_eq_true_eq]
          constructor
          · rintro ⟨hq, rfl⟩; exact ⟨hdI q hq, fun e => hid (e ▸ hq), h.pm q (hdI q hq)⟩
          · rintro ⟨hq, hne, hyq⟩; exact (hlow y hy q hq hne hyq).symm
        rw [← prdL_perm R hp]; exact prdL_congr R fun q hq => by
          have : par q = y := by simpa using (List.mem_filter.1 hq).2
          rw [this]
      rw [e1, e2, e3]
      show R.mul (R.mul (T i b) (prdL R (fun j => T j b) todo)) _ = _
      rw [R.mulA, R.mulA, R.mulX (prdL R (fun j => T j b) todo)]
    rw [sumO_congr R f hG, sumO_mul R f (F := fun b => R.mul (T i b) (prdL R (fun y => ML y i (b y)) (chL L par i))) (G := fun b => R.mul (prdL R (fun j => T j b) todo) (prdL R (fun q => MT q (par q) (b (par q))) (done.filter fun q => decide (par q ∉ (done ++ [i]).flatMap (chL L par))))) fun y hy b v => ?_]
    · rw [hMT i hiI a (ha i hiI _ (h.pm i hiI))]; have e4 : ((done ++ [i]).filter fun q => decide (par q ∉ (done ++ [i]).flatMap (chL L par))) = (done.filter fun q => decide (par q ∉ (done ++ [i]).flatMap (chL L par))) ++ [i] := by
        rw [List.filter_append, List.filter_cons_of_pos (by simpa using hpi)]; rfl
      rw [e4, prdL_append, prdL_one, R.mulC (MT i (par i) (a (par i))), R.mulA]
    · obtain ⟨k1, k2⟩ := mem_ch.1 hy; have t1 : prdL R (fun j => T j (upd b y v)) todo = prdL R (fun j => T j b) todo := prdL_congr R fun j hj => hT j (htI j hj) y (fun hyj => by
        have hd := (hlow y hy j (htI j hj) (fun e => hit (e ▸ hj)) hyj).2; exact hnd3 j hd j (by simp [hj]) rfl) b v
      have t2 : prdL R (fun q => MT q (par q) (upd b y v (par q))) (done.filter fun q => decide (par q ∉ (done ++ [i]).flatMap (chL L par))) = prdL R (fun q => MT q (par q) (b (par q))) (done.filter fun q => decide (par q ∉ (done ++ [i]).flatMap (chL L par))) := prdL_congr R fun q hq => by
        have hn : par q ∉ (done ++ [i]).flatMap (chL L par) := by simpa using (List.mem_filter.1 hq).2
        rw [upd_ne fun e => hn (by rw [eF, e]; exact List.mem_append_right _ hy)]
      show R.mul (prdL R (fun j => T j (upd b y v)) todo) (prdL R (fun q => MT q (par q) (upd b y v (par q))) _) = _
      rw [t1, t2]
/-- The sum over all labels of a tree but its root. -/
theorem tree_sum (h : TrOK I L par pT pL x0)
    (hT : ∀ i ∈ I, ∀ y, y ∉ L i → ∀ (b : Int → Int) v, T i (upd b y v) = T i b)
    (hML : ∀ i ∈ I, ∀ y ∈ L i, ∀ v, ML y i v = prdL R (fun q => MT q y v) (I.filter fun q => decide (q ≠ i ∧ y ∈ L q)))
    (hMT : ∀ i ∈ I, ∀ a : Int → Int, 0 ≤ a (par i) ∧ a (par i) < f (par i) → sumO R f (chL L par i) (fun b => R.mul (T i b) (prdL R (fun y => ML y i (b y)) (chL L par i))) a = MT i (par i) (a (par i)))
    {a : Int → Int} (ha : ∀ i ∈ I, ∀ y ∈ L i, 0 ≤ a y ∧ a y < f y) {xs : List Int} (hx : xs.Nodup) (hxs : ∀ y, y ∈ xs ↔ y ≠ x0 ∧ ∃ i ∈ I, y ∈ L i) :
    sumO R f xs (fun b => prdL R (fun i => T i b) I) a = prdL R (fun q => MT q x0 (a x0)) (I.filter fun q => decide (x0 ∈ L q)) := by
  have hs := tree_step R f h hT hML hMT I [] (by simp) a ha; have hmem : ∀ y, y ∈ I.flatMap (chL L par) ↔ y ≠ x0 ∧ ∃ i ∈ I, y ∈ L i := fun y => by
    rw [List.mem_flatMap]
    constructor
    · rintro ⟨i, hi, hy⟩; obtain ⟨k1, k2⟩ := mem_ch.1 hy; exact ⟨fun e => k2 (by rw [h.root i hi (e ▸ k1), e]), i, hi, k1⟩
    · rintro ⟨hne, i, hi, hy⟩
      by_cases c : y = par i
      · obtain ⟨j, hj, h1, h2⟩ := h.top i hi (by rw [← c]; exact hne); exact ⟨j, hj, mem_ch.2 ⟨by rw [c]; exact h1, by rw [c]; exact Ne.symm h2⟩⟩
      · exact ⟨i, hi, mem_ch.2 ⟨hy, c⟩⟩
  have hnd : (I.flatMap (chL L par)).Nodup := by
    have key : ∀ l : List Nat, (∀ i ∈ l, i ∈ I) → l.Nodup → (l.flatMap (chL L par)).Nodup := fun l => by
      induction l with
      | nil => intro _ _; simp
      | cons i l ih =>
        intro hl hn; obtain ⟨h1, h2⟩ := List.nodup_cons.1 hn; rw [List.flatMap_cons]; refine List.nodup_append.2 ⟨(h.ln i (hl i (by simp))).filter _, ih (fun j hj => hl j (by simp [hj])) h2, fun y hy z hz e => ?_⟩; subst e; obtain ⟨j, hj, hyj⟩ := List.mem_flatMap.1 hz; obtain ⟨k1, k2⟩ := mem_ch.1 hy; obtain ⟨k3, k4⟩ := mem_ch.1 hyj; exact k4 (h.one i (hl i (by simp)) j (hl j (by simp [hj])) y k1 k3 k2 (fun e => h1 (e ▸ hj))).symm
    exact key I (fun _ hi => hi) h.nd
  rw [sumO_perm R f (perm_iff hx hnd fun y => (hxs y).trans (hmem y).symm), hs]
  show R.mul R.one _ = _
  rw [R.mul1]; have e : (I.filter fun q => decide (par q ∉ I.flatMap (chL L par))) = I.filter fun q => decide (x0 ∈ L q) := List.filter_congr fun q hq => by
    rw [decide_eq_decide, hmem]
    constructor
    · intro hn; have : par q = x0 := Classical.byContradiction fun c => hn ⟨c, q, hq, h.pm q hq⟩; rw [← this]; exact h.pm q hq
    · intro hm hc; exact hc.1 (h.root q hq hm)
  rw [e]; exact prdL_congr R fun q hq => by
    have : x0 ∈ L q := by simpa using (List.mem_filter.1 hq).2
    rw [h.root q (List.mem_filter.1 hq).1 this]
end
end Go.Proofs.YtdkgaejmgnojhaaGreat
namespace Go.Proofs.YtdkgaejmgnojhaaGreat
set_option maxRecDepth 100000
open Go.RowKit
section
variable {k p n : Int} (hr : ringL k p n) (hR : RLaw k p n)
variable {ts : List Ten} {op : List Int} {x : Int}
theorem rem_op {ks : List Int} (ts : List Ten) (ss : List Stp) : remL ts ks ss 0 = (labelsL ts).filter fun y => decide (y ∉ ks) := by
  unfold remL
  refine List.filter_congr fun y hy => ?_; rw [decide_eq_decide]; refine ⟨fun h => h.1, fun hk => ⟨hk, ?_⟩⟩; obtain ⟨t, ht, hxt⟩ := dimOf_mem (ts := ts) (x := y) (by have := (mem_labels.1 hy).2; omega); obtain ⟨m, hm⟩ := List.getElem?_of_mem ht; have hml := (List.getElem?_eq_some_iff.1 hm).1; have e0 : runS ts ks ss 0 = sh0 ts := rfl; refine ⟨m, by rw [e0, sh0_ixs]; simpa using hml, ?_⟩; rw [e0]
  simpa [Sh.lab, sh0, List.getD, hm] using hxt
/-- What is left of a tensor when all labels but some are summed. -/
theorem sum_keep {t : Ten} {ks : List Int} (ht : tensorL k p n t.l t.d t.x) {a : Int → Int} (ha : ∀ y ∈ keepL t (oneT k p n) ks, 0 ≤ a y ∧ a y < dimJ t (oneT k p n) y) :
    val hr (sumR k p n t ks) a = sumO (smL hr hR) (dimJ t (oneT k p n)) ((joinI t.l []).filter fun y => decide (y ∉ keepL t (oneT k p n) ks)) (val hr t) a := by
  have hp := sum_pair ht ks; have hok := pair_ok hp.1 hp.2.1 hp.2.2.1 hp.2.2.2.1; have hkk := keep_ok hok hp.2.2.2.2; rw [sumR, if_pos ht, pair_val hr hR hok hkk ha]; exact sumO_congr _ _ fun b _ _ => by rw [val_one hr hR, (smL hr hR).mulC, (smL hr hR).mul1]
theorem perm_dims {t : Ten} {ls : List Int} {f : Int → Int} (h : PermOK k p n t ls) (hd : t.d = t.l.map f) : permD t ls = ls.map f := by
  rw [permD, hd, idxAt_of fun l hl => h.perm.mem_iff.1 hl]
/-- A tensor with its axes in another order holds the same. -/
theorem val_permT {t : Ten} {ls : List Int} {f a : Int → Int} (h : PermOK k p n t ls) (hd : t.d = t.l.map f) (ha : ∀ y ∈ ls, 0 ≤ a y ∧ a y < f y) : val hr (permT k n t ls) a = val hr t a := by
  have e := perm_dims h hd; have hdm : ∀ d ∈ ls.map f, 1 ≤ d := fun d hd => by
    obtain ⟨y, hy, rfl⟩ := List.mem_map.1 hd; have := ha y hy; omega
  have hin := idx_map (f := f) (a := a) (K := ls) ha; have ho := offL_in hdm hin; have hw := width_range hr
  show toA hr (elt (permX (widthI k n) t ls (permD t ls) (prodI (permD t ls)).toNat) (widthI k n) (offL (permD t ls) (ls.map a))) = toA hr (elt t.x (widthI k n) (offL t.d (t.l.map a)))
  rw [e]; have hlen : (offL (ls.map f) (ls.map a)).toNat < (List.range (prodI (ls.map f)).toNat).length := by rw [List.length_range]; omega
  have he := elt_flat (W := (widthI k n).toNat) (e := fun (i : Nat) => elt t.x (widthI k n) (offL t.d (idxAt ls (idxL (ls.map f) i) t.l))) (l := List.range (prodI (ls.map f)).toNat) (fun m hm => by
    have hoff := h.off m; rw [e] at hoff; exact (elt_inR h.ten hoff.1 hoff.2).1) hlen
  rw [show (((widthI k n).toNat : Nat) : Int) = widthI k n by omega, show (((offL (ls.map f) (ls.map a)).toNat : Nat) : Int) = offL (ls.map f) (ls.map a) by omega] at he; rw [permX, he, List.getElem_range, show (((offL (ls.map f) (ls.map a)).toNat : Nat) : Int) = offL (ls.map f) (ls.map a) by omega, idx_off hdm hin, idxAt_of fun l hl => h.perm.mem_iff.2 hl]
/-- What a contraction holds: the sum over all labels that are not open of the product of the tensors. -/
theorem con_val {ss : List Stp} (h : conP k p n ts op ss) {a : Int → Int} (ha : ∀ y ∈ op, 0 ≤ a y ∧ a y < dimOf ts y) :
    val hr (conT k p n ts op ss) a = sumO (smL hr hR) (dimOf ts) ((labelsL ts).filter fun y => decide (y ∉ op)) (prodV hr hR ts) a := by
  by_cases h0 : ts.length = 0
  · have e := List.eq_nil_of_length_eq_zero h0; subst e; have el : labelsL ([] : List Ten) = [] := List.eq_nil_iff_forall_not_mem.2 fun x hx => by
      have := (mem_labels.1 hx).2
      simp [dimOf] at this
    rw [el, conT, if_pos (show ([] : List Ten).length = 0 from rfl), val_one hr hR]
    rfl
  · obtain ⟨hfin, hout⟩ := h.last h0; have hrun := run_sum hr hR h.1 ha ss.length (Nat.le_refl _) h.2; rw [rem_op, hout] at hrun; rw [hrun, conT, if_neg h0]; have ht := hfin.2.1; have r := run_ok h.1 ss.length (Nat.le_refl _) h.2; have hl := run_left h.1 (fun e => h0 (by rw [e]; rfl)); have hg := r.get (j := ts.length + ss.length - 1) (by omega); obtain ⟨s1, s2, s3⟩ := sum_ten ht op; have hdj : ∀ y ∈ joinI (lastT k p n ts op ss).l [], dimJ (lastT k p n ts op ss) (oneT k p n) y = dimOf ts y := fun y hy => dimJ_f (t := lastT k p n ts op ss) (u := oneT k p n) (f := dimOf ts) hg.2.2 rfl hy; have hkj : ∀ y ∈ keepL (lastT k p n ts op ss) (oneT k p n) op, y ∈ joinI (lastT k p n ts op ss).l [] := fun y hy => (List.mem_filter.1 hy).1; have hd : (sumR k p n (lastT k p n ts op ss) op).d = (sumR k p n (lastT k p n ts op ss) op).l.map (dimOf ts) := by
      rw [s2, s3]; exact List.map_congr_left fun y hy => hdj y (hkj y hy)
    show val hr (permT k n (sumR k p n (lastT k p n ts op ss) op) op) a = _
    rw [val_permT hr hfin.perm hd ha, sum_keep hr hR ht fun y hy => by rw [hdj y (hkj y hy)]; exact ha y (mem_keep.1 hy).2]; have hnd := axes_nodup (ten_axes ht); have hperm : ((joinI (lastT k p n ts op ss).l []).filter fun y => decide (y ∉ keepL (lastT k p n ts op ss) (oneT k p n) op)).Perm (remL ts op ss ss.length) := by
      refine (List.perm_ext_iff_of_nodup ((joinI_nodup hnd List.nodup_nil).filter _) (rem_nodup _ _ _ _)).2 fun y => ?_; rw [List.mem_filter, mem_joinI, mem_rem, hl, decide_eq_true_eq, mem_keep]
      constructor
      · rintro ⟨hx | hx, hk⟩
        · have hx' : y ∈ (runS ts op ss ss.length).lab (ts.length + ss.length - 1) := by rw [← hg.2.1]; exact hx
          exact ⟨r.labs (by omega) hx', fun ho => hk ⟨.inl hx, ho⟩, _, List.mem_singleton.2 rfl, hx'⟩
        · simp at hx
      · rintro ⟨_, ho, j, hj, hx⟩; rw [List.mem_singleton.1 hj, ← hg.2.1] at hx; exact ⟨.inl hx, fun e => ho e.2⟩
    rw [sumO_dim (g := dimOf ts) fun y hy => hdj y (List.mem_filter.1 hy).1, sumO_perm _ _ hperm]; refine sumO_congr _ _ fun b _ _ => ?_
    show _ = (smL hr hR).mul _ (smL hr hR).one
    rw [(smL hr hR).mulC, (smL hr hR).mul1]
theorem mar_small_net (hnet : netL k p n ts op) (hf : SmallN ts) (hx : dimOf ts x ≠ 0) : marP k p n ts op x := by
  have h1 := (net_one hnet x).2 hx; exact ⟨hnet, plain_order h1, fit_small (plain_order h1) hf _ (Nat.le_refl _)⟩
theorem marR_d (h : marP k p n ts op x) : (marR k p n ts op x).l = [x] ∧ tensorL k p n (marR k p n ts op x).l (marR k p n ts op x).d (marR k p n ts op x).x ∧ (marR k p n ts op x).d = [dimOf ts x] := by
  have e : marR k p n ts op x = conT k p n ts [x] (plainL ts.length) := by rw [marR, marB_true.2 h]; rfl
  rw [e]; obtain ⟨h1, h2⟩ := h.2.ten; refine ⟨h2, h1, ?_⟩; have hx0 := (net_one h.1 x).1 h.2.1.1; have h0 : ts.length ≠ 0 := fun e0 => by
    rw [List.eq_nil_of_length_eq_zero e0] at hx0; exact hx0 rfl
  obtain ⟨hfin, _⟩ := h.2.last h0; have r := run_ok h.2.1 (plainL ts.length).length (Nat.le_refl _) h.2.2; have hg := r.get (j := ts.length + (plainL ts.length).length - 1) (by omega); obtain ⟨s1, s2, s3⟩ := sum_ten hfin.2.1 [x]; have hd : (sumR k p n (lastT k p n ts [x] (plainL ts.length)) [x]).d = (sumR k p n (lastT k p n ts [x] (plainL ts.length)) [x]).l.map (dimOf ts) := by
    rw [s2, s3]; exact List.map_congr_left fun y hy => dimJ_f (t := lastT k p n ts [x] (plainL ts.length)) (u := oneT k p n) (f := dimOf ts) hg.2.2 rfl (List.mem_filter.1 hy).1
  rw [conT, if_neg h0]
  show permD _ _ = _
  rw [perm_dims hfin.perm hd]; rfl
/-- A marginal's entry is a sum over all other labels. -/
theorem mar_val (h : marP k p n ts op x) {v : Int} (hv : 0 ≤ v ∧ v < dimOf ts x) (a : Int → Int) :
    toA hr (elt (marR k p n ts op x).x (widthI k n) v) = sumO (smL hr hR) (dimOf ts) ((labelsL ts).filter fun y => decide (y ∉ [x])) (prodV hr hR ts) (upd a x v) := by
  have e : marR k p n ts op x = conT k p n ts [x] (plainL ts.length) := by rw [marR, marB_true.2 h]; rfl
  obtain ⟨h1, _, h3⟩ := marR_d h; have hc := con_val hr hR h.2 (a := upd a x v) fun y hy => by
    rw [List.mem_singleton.1 hy, upd_at]; exact hv
  rw [← hc, ← e]
  unfold val
  rw [h1, h3]
  congr 2
  show _ = offL [dimOf ts x] [upd a x v x]
  rw [upd_at]
  simp [offL, prodI]
end
end Go.Proofs.YtdkgaejmgnojhaaGreat
namespace Go.Proofs.YtdkgaejmgnojhaaGreat
set_option maxRecDepth 100000
open Go.RowKit
def UpN (es : List (Nat × Nat)) (pos : Nat → Nat) (r u : Nat) : Prop := ∀ S : Nat → Prop, S r → (∀ u v, Adj es u v → pos u < pos v → S v → S u) → S u
theorem UpN.root (es : List (Nat × Nat)) (pos : Nat → Nat) (r : Nat) : UpN es pos r r := fun _ h _ => h
theorem UpN.step {es : List (Nat × Nat)} {pos : Nat → Nat} {r u v : Nat} (a : Adj es u v) (h : pos u < pos v) (t : UpN es pos r v) : UpN es pos r u := fun S h0 hs => hs u v a h (t S h0 hs)
theorem UpN.inv {es : List (Nat × Nat)} {pos : Nat → Nat} {r u : Nat} (t : UpN es pos r u) : u = r ∨ ∃ v, Adj es u v ∧ pos u < pos v ∧ UpN es pos r v :=
  t (fun u => u = r ∨ ∃ v, Adj es u v ∧ pos u < pos v ∧ UpN es pos r v) (.inl rfl) fun u v a h hv => .inr ⟨v, a, h, by
    rcases hv with e | ⟨w, a', h', t'⟩
    · rw [e]; exact UpN.root es pos r
    · exact t'.step a' h'⟩
theorem up_adj {es : List (Nat × Nat)} {pos : Nat → Nat} {r u v : Nat} (c : Cert es pos r) (h : UpN es pos r u) (a : Adj es u v) : UpN es pos r v := by
  rcases Nat.lt_or_gt_of_ne (c.ne u v a) with hl | hl
  · rcases h.inv with e | ⟨w, a', h', t'⟩
    · subst e; have := c.top v a
      omega
    · rw [c.one u v w a a' hl h']; exact t'
  · exact h.step a.symm hl
theorem sort_by (pos : Nat → Nat) (l : List Nat) : ∃ I : List Nat, I.Perm l ∧ I.Pairwise fun i j => pos i ≤ pos j :=
  ⟨l.mergeSort fun i j => decide (pos i ≤ pos j), List.mergeSort_perm _ _, (List.pairwise_mergeSort (fun a b c h1 h2 => by simp at *; omega) (fun a b => by simp; omega) l).imp fun h => by simpa using h⟩
section
variable {k p n : Int} {ts : List Ten} {op : List Int}
theorem edge_dec {i : Nat} (hi : i < ts.length) {w : Nat} (a : Adj (edgTo ts ts.length) i w) : ∃ x ∈ (ts.getD i noTen).l, w = ts.length + x.toNat := by
  rcases a with a | a
  · obtain ⟨_, x, hx, e⟩ := mem_edgTo.1 a; exact ⟨x, hx, e⟩
  · obtain ⟨_, x, _, e⟩ := mem_edgTo.1 a; have e : i = ts.length + x.toNat := e
    omega
theorem edge_lab (h : netL k p n ts op) {y : Int} (hy : 0 ≤ y) {w : Nat} (a : Adj (edgTo ts ts.length) (ts.length + y.toNat) w) : w < ts.length ∧ y ∈ (ts.getD w noTen).l := by
  rcases a with a | a
  · have e : ts.length + y.toNat < ts.length := (mem_edgTo.1 a).1
    omega
  · obtain ⟨h1, x, hx, e⟩ := mem_edgTo.1 a; have h1 : w < ts.length := h1; have e : ts.length + y.toNat = ts.length + x.toNat := e; have := net_lab h h1 hx; rw [show y = x by omega]; exact ⟨h1, hx⟩
open Classical in
noncomputable def parF (ts : List Ten) (pos : Nat → Nat) (i : Nat) : Int := if h : ∃ y, y ∈ (ts.getD i noTen).l ∧ pos i < pos (ts.length + y.toNat) then h.choose else 0
theorem parF_ok {pos : Nat → Nat} {i : Nat} (h : ∃ y, y ∈ (ts.getD i noTen).l ∧ pos i < pos (ts.length + y.toNat)) : parF ts pos i ∈ (ts.getD i noTen).l ∧ pos i < pos (ts.length + (parF ts pos i).toNat) := by
  rw [parF, dif_pos h]; exact h.choose_spec
theorem parF_eq (h : netL k p n ts op) {pos : Nat → Nat} {r : Nat} (c : Cert (edgTo ts ts.length) pos r) {i : Nat} (hi : i < ts.length) {y : Int} (hy : y ∈ (ts.getD i noTen).l) (hl : pos i < pos (ts.length + y.toNat)) : parF ts pos i = y := by
  obtain ⟨h1, h2⟩ := parF_ok ⟨y, hy, hl⟩; have e := c.one i _ _ (edge_adj hi h1) (edge_adj hi hy) h2 hl; have := net_lab h hi h1; have := net_lab h hi hy
  omega
theorem part_cls {l : List Int} (hl : l ∈ partsL ts) : ∃ q : Nat, ∀ i : Nat, (i : Int) ∈ l ↔ i < ts.length ∧ (ptP ts).getD i 0 = (q : Int) := by
  obtain ⟨h1, _⟩ := List.mem_filter.1 hl; obtain ⟨j, _, rfl⟩ := List.mem_map.1 h1; refine ⟨j, fun i => ?_⟩; rw [mem_partJ]
  constructor
  · rintro ⟨m, e, hm, hc⟩; rw [show i = m by omega]; exact ⟨hm, hc⟩
  · rintro ⟨hi, hc⟩; exact ⟨i, rfl, hi, hc⟩
theorem mem_nat {l : List Int} (hl : PartL ts l) {i : Nat} : i ∈ l.map Int.toNat ↔ (i : Int) ∈ l := by
  rw [List.mem_map]
  constructor
  · rintro ⟨x, hx, rfl⟩; have := hl.inr x hx
    rwa [Int.toNat_of_nonneg this.1]
  · intro h; exact ⟨i, h, Int.toNat_natCast i⟩
theorem part_lt {l : List Int} (hl : PartL ts l) {i : Nat} (h : (i : Int) ∈ l) : i < ts.length := by
  have := hl.inr _ h
  omega
theorem part_nat_nodup {l : List Int} (hl : PartL ts l) : (l.map Int.toNat).Nodup := by
  have key : ∀ m : List Int, (∀ x ∈ m, 0 ≤ x) → m.Nodup → (m.map Int.toNat).Nodup := fun m => by
    induction m with
    | nil => intro _ _; simp
    | cons x m ih =>
      intro h1 h2; obtain ⟨h3, h4⟩ := List.nodup_cons.1 h2; rw [List.map_cons]; refine List.nodup_cons.2 ⟨fun hm => ?_, ih (fun y hy => h1 y (by simp [hy])) h4⟩; obtain ⟨y, hy, e⟩ := List.mem_map.1 hm; have := h1 x (by simp); have := h1 y (by simp [hy]); exact h3 (by rw [show x = y by omega]; exact hy)
  exact key l (fun x hx => (hl.inr x hx).1) hl.nd
theorem tree_ok (h : netL k p n ts op) {l : List Int} (hl : l ∈ partsL ts) {x0 : Int} (hx0 : inPart ts x0 l) {pos : Nat → Nat} (c : Cert (edgTo ts ts.length) pos (ts.length + x0.toNat)) {I : List Nat} (hp : I.Perm (l.map Int.toNat)) (hs : I.Pairwise fun i j => pos i ≤ pos j) :
    TrOK I (fun i => (ts.getD i noTen).l) (parF ts pos) pos (fun y => pos (ts.length + y.toNat)) x0 := by
  have hP := part_ok hl; obtain ⟨q, hq⟩ := part_cls hl; have hI : ∀ i, i ∈ I ↔ i < ts.length ∧ (ptP ts).getD i 0 = (q : Int) := fun i => by rw [hp.mem_iff, mem_nat hP, hq]
  have hlt : ∀ i ∈ I, i < ts.length := fun i hi => ((hI i).1 hi).1; obtain ⟨z, hz, hxz⟩ := hx0; have hzr := hP.inr z hz; have hz1 : z.toNat ∈ I := (hI _).2 ((hq _).1 (by rw [Int.toNat_of_nonneg hzr.1]; exact hz)); have hx00 := net_lab h (hlt _ hz1) hxz; have hup : ∀ i ∈ I, UpN (edgTo ts ts.length) pos (ts.length + x0.toNat) i := fun i hi => by
    have hz2 := up_adj c (UpN.root (edgTo ts ts.length) pos (ts.length + x0.toNat)) (edge_adj (hlt _ hz1) hxz).symm; have e := pt_least (ts := ts) (g := fun u => UpN (edgTo ts ts.length) pos (ts.length + x0.toNat) u) (fun a b ha hb hm => by
      obtain ⟨y, hya, hyb⟩ := hm; exact propext ⟨fun t => up_adj c (up_adj c t (edge_adj ha hya)) (edge_adj hb hyb).symm, fun t => up_adj c (up_adj c t (edge_adj hb hyb)) (edge_adj ha hya).symm⟩) (hlt _ hz1) (hlt i hi) (by rw [((hI _).1 hz1).2, ((hI i).1 hi).2])
    exact e ▸ hz2
  have hpar : ∀ i ∈ I, parF ts pos i ∈ (ts.getD i noTen).l ∧ pos i < pos (ts.length + (parF ts pos i).toNat) := fun i hi => by
    refine parF_ok ?_; have hil := hlt i hi
    rcases (hup i hi).inv with e | ⟨w, a, hw, _⟩
    · omega
    · obtain ⟨x, hx, rfl⟩ := edge_dec hil a; exact ⟨x, hx, hw⟩
  have hdn : ∀ i ∈ I, ∀ y ∈ (ts.getD i noTen).l, y ≠ parF ts pos i → pos (ts.length + y.toNat) < pos i := fun i hi y hy hne => by
    rcases Nat.lt_or_gt_of_ne (c.ne _ _ (edge_adj (hlt i hi) hy)) with hw | hw
    · exact absurd (parF_eq h c (hlt i hi) hy hw).symm hne
    · exact hw
  refine ⟨hp.nodup_iff.2 (part_nat_nodup hP), hs, fun i hi => axes_nodup (ten_axes (ten_in h (hlt i hi))), fun i hi => (hpar i hi).1, fun i hi => (hpar i hi).2, hdn, fun i hi j hj y hyi hyj hne hij => ?_, fun i hi hx => ?_, fun i hi hne => ?_⟩
  · have h1 := hdn i hi y hyi hne; refine parF_eq h c (hlt j hj) hyj ?_
    rcases Nat.lt_or_gt_of_ne (c.ne _ _ (edge_adj (hlt j hj) hyj)) with hw | hw
    · exact hw
    · exact absurd (c.one _ _ _ (edge_adj (hlt i hi) hyi).symm (edge_adj (hlt j hj) hyj).symm h1 hw) hij
  · exact parF_eq h c (hlt i hi) hx (c.top _ (edge_adj (hlt i hi) hx).symm)
  · obtain ⟨h1, h2⟩ := hpar i hi; have h3 := net_lab h (hlt i hi) h1
    rcases (up_adj c (hup i hi) (edge_adj (hlt i hi) h1)).inv with e | ⟨w, a, hw, _⟩
    · exact absurd (show parF ts pos i = x0 by omega) hne
    · obtain ⟨h4, h5⟩ := edge_lab h h3.1 a; refine ⟨w, (hI w).2 ⟨h4, ?_⟩, h5, fun e => ?_⟩
      · rw [← pt_meet (hlt i hi) h4 ⟨_, h1, h5⟩]; exact ((hI i).1 hi).2
      · have h6 := parF_ok (ts := ts) (pos := pos) (i := w)
        by_cases hw2 : ∃ y, y ∈ (ts.getD w noTen).l ∧ pos w < pos (ts.length + y.toNat)
        · have := (h6 hw2).2; rw [e] at this
          omega
        · have hwI : w ∈ I := (hI w).2 ⟨h4, by rw [← pt_meet (hlt i hi) h4 ⟨_, h1, h5⟩]; exact ((hI i).1 hi).2⟩; have := (hpar w hwI).2; rw [e] at this
          omega
theorem mulM_congr {t : Ten} {x : Int} {M M' : Int → List Int} {o : Nat} (e : ∀ y ∈ t.l, y ≠ x → M y = M' y) : ∀ j, j ≤ t.l.length → mulM k p n t x M o j = mulM k p n t x M' o j
  | 0, _ => rfl
  | j + 1, hj => by
    have ih := mulM_congr e (o := o) j (by omega)
    by_cases c : t.l.getD j 0 = x
    · rw [mulM_no c, mulM_no c, ih]
    · rw [mulM_yes c, mulM_yes c, ih, e _ (mem_getD (by omega)) c]
theorem lblM_congr {x kk : Int} {T T' : Nat → List Int} {v : Nat} (e : ∀ i, i < ts.length → (i : Int) ≠ kk → x ∈ (ts.getD i noTen).l → T i = T' i) : ∀ i, i ≤ ts.length → lblM k p n ts x kk T v i = lblM k p n ts x kk T' v i
  | 0, _ => rfl
  | i + 1, hi => by
    have ih := lblM_congr e (v := v) i (by omega)
    by_cases c : (i : Int) ≠ kk ∧ x ∈ (ts.getD i noTen).l
    · rw [lblM_yes c, lblM_yes c, ih, e i (by omega) c.1 c.2]
    · rw [lblM_no c, lblM_no c, ih]
theorem msg_stab (h : netL k p n ts op) {pos : Nat → Nat} {N r : Nat} (hN : ∀ u, u < ts.length + 100 → pos u ≤ N) (c : Cert (edgTo ts ts.length) pos r) :
    ∀ f, (∀ i x, i < ts.length → x ∈ (ts.getD i noTen).l → muE pos N i (ts.length + x.toNat) < f → (msg k p n ts (f + 1)).1 i x = (msg k p n ts f).1 i x) ∧
      (∀ x i, i < ts.length → x ∈ (ts.getD i noTen).l → muE pos N (ts.length + x.toNat) i < f → (msg k p n ts (f + 1)).2 x i = (msg k p n ts f).2 x i)
  | 0 => ⟨fun i x _ _ hm => by omega, fun x i _ _ hm => by omega⟩
  | f + 1 => by
    obtain ⟨iA, iB⟩ := msg_stab h hN c f; have hin := edg_in h (Nat.le_refl ts.length); refine ⟨fun i x hi hx hm => ?_, fun x i hi hx hm => ?_⟩
    · rw [msg, msg]
      show (mapE _ _) = (mapE _ _)
      refine mapE_congr fun v _ => sumM_congr _ fun o _ => mulM_congr (fun y hy hne => ?_) _ (Nat.le_refl _); refine iB y i hi hy ?_; have := muE_less hin hN c (edge_adj hi hx) (edge_adj hi hy) (node_ne h hi hi hx hy hne)
      omega
    · rw [msg, msg]
      show (mapE _ _) = (mapE _ _)
      refine mapE_congr fun v _ => lblM_congr (fun q hq hne hxq => ?_) _ (Nat.le_refl _); refine iA q x hq hxq ?_; have := muE_less hin hN c (edge_adj hi hx).symm (edge_adj hq hxq).symm (by omega)
      omega
/-- With the forest's fuel the messages stand. -/
theorem msg_fix (h : netL k p n ts op) (hf : forL ts) {i : Nat} {x : Int} (hi : i < ts.length) (hx : x ∈ (ts.getD i noTen).l) :
    (msg k p n ts (fuelT ts + 1)).1 i x = (msg k p n ts (fuelT ts)).1 i x ∧ (msg k p n ts (fuelT ts + 1)).2 x i = (msg k p n ts (fuelT ts)).2 x i := by
  obtain ⟨pos, N, r, hN, c, hF⟩ := fuelT_ok h hf; have hs := msg_stab (k := k) (p := p) (n := n) h hN c (fuelT ts); have hx0 := net_lab h hi hx; have b1 := muE_le (v := ts.length + x.toNat) (hN i (by omega)); have b2 := muE_le (v := i) (hN (ts.length + x.toNat) (by omega)); exact ⟨hs.1 i x hi hx (by omega), hs.2 x i hi hx (by omega)⟩
variable (hr : ringL k p n) (hR : RLaw k p n)
theorem toA_one : toA hr (oneL k p n) = (smL hr hR).one := by rw [toA_eq hr (oneL_in hr)]; rfl
theorem lblM_prd {x kk : Int} {T : Nat → List Int} {v : Nat} (hT : ∀ i, i < ts.length → x ∈ (ts.getD i noTen).l → InR k p n (elt (T i) (widthI k n) v)) : ∀ m, m ≤ ts.length →
    toA hr (lblM k p n ts x kk T v m) = prdL (smL hr hR) (fun q => toA hr (elt (T q) (widthI k n) v)) ((List.range m).filter fun (q : Nat) => decide ((q : Int) ≠ kk ∧ x ∈ (ts.getD q noTen).l))
  | 0, _ => toA_one hr hR
  | m + 1, hm => by
    have ih := lblM_prd hT (kk := kk) m (by omega); have hin := lblM_in hr (kk := kk) hT m (by omega); rw [List.range_succ, List.filter_append, prdL_append]
    by_cases c : (m : Int) ≠ kk ∧ x ∈ (ts.getD m noTen).l
    · rw [lblM_yes c, List.filter_cons_of_pos (by simpa using c), toA_mul hr hR hin (hT m (by omega) c.2), ih]
      congr 1
      exact (prdL_one _ _ _).symm
    · rw [lblM_no c, List.filter_cons_of_neg (by simpa using c), ih]; exact (Sm.mul1' _ _).symm
theorem mulM_prd (h : netL k p n ts op) {i : Nat} (hi : i < ts.length) {x : Int} {M : Int → List Int} (hM : ∀ y ∈ (ts.getD i noTen).l, y ≠ x → MsgOK k p n (dimOf ts y).toNat (M y)) {o : Nat} (ho : (o : Int) < prodI (ts.getD i noTen).d) : ∀ j, j ≤ (ts.getD i noTen).l.length →
    toA hr (mulM k p n (ts.getD i noTen) x M o j) = (smL hr hR).mul (toA hr (elt (ts.getD i noTen).x (widthI k n) o)) (prdL (smL hr hR) (fun y => toA hr (elt (M y) (widthI k n) (co (ts.getD i noTen) y o))) (((ts.getD i noTen).l.take j).filter fun y => decide (y ≠ x)))
  | 0, _ => (Sm.mul1' _ _).symm
  | j + 1, hj => by
    have ih := mulM_prd h hi hM ho j (by omega); have hin := mulM_in h hi hM ho j (by omega); have hy : (ts.getD i noTen).l.getD j 0 ∈ (ts.getD i noTen).l := mem_getD (by omega); have et : (ts.getD i noTen).l.take (j + 1) = (ts.getD i noTen).l.take j ++ [(ts.getD i noTen).l.getD j 0] := take_succ (by omega); rw [et, List.filter_append, prdL_append]
    by_cases c : (ts.getD i noTen).l.getD j 0 = x
    · rw [mulM_no c, List.filter_cons_of_neg (by simpa using c), ih]
      congr 1
      exact (Sm.mul1' _ _).symm
    · have hc := co_in (ten_in h hi) hy o; rw [dim_at h hi hy] at hc; have h2 := (hM _ hy c).2 (co (ts.getD i noTen) ((ts.getD i noTen).l.getD j 0) o).toNat (by omega); rw [Int.toNat_of_nonneg hc.1] at h2; rw [mulM_yes c, List.filter_cons_of_pos (by simpa using c), toA_mul hr hR hin h2, ih, (smL hr hR).mulA]
      congr 2
      exact (prdL_one _ _ _).symm
theorem sumM_prd {g : Nat → List Int} {t : Ten} {x v : Int} : ∀ m, (∀ o, o < m → InR k p n (g o)) → toA hr (sumM k p n g t x v m) = sumN (smL hr hR) (fun o => if co t x o = v then toA hr (g o) else (smL hr hR).zero) m
  | 0, _ => toA_zero hr hR
  | m + 1, h => by
    have ih := sumM_prd (t := t) (x := x) (v := v) m fun o ho => h o (by omega); have hin := sumM_in hr (t := t) (x := x) (v := v) m fun o ho => h o (by omega); rw [sumN]
    by_cases c : co t x m = v
    · rw [sumM_yes c, if_pos c, toA_add hr hR hin (h m (by omega)), ih]
    · rw [sumM_no c, if_neg c, ih, Sm.add0']
end
end Go.Proofs.YtdkgaejmgnojhaaGreat
namespace Go.Proofs.YtdkgaejmgnojhaaGreat
set_option maxRecDepth 100000
open Go.RowKit
section
variable {k p n : Int} {ts : List Ten} {op : List Int} (hr : ringL k p n) (hR : RLaw k p n)
/-- What a tensor's message to a label holds at a value. -/
noncomputable def MTv (ts : List Ten) (i : Nat) (y v : Int) : El k p n := toA hr (elt ((msg k p n ts (fuelT ts)).1 i y) (widthI k n) v)
theorem ml_val (h : netL k p n ts op) (hf : forL ts) {I : List Nat} (hn : I.Nodup) (hlt : ∀ i ∈ I, i < ts.length) {i : Nat} (hi : i < ts.length) {y : Int} (hy : y ∈ (ts.getD i noTen).l) (hcl : ∀ q, q < ts.length → y ∈ (ts.getD q noTen).l → q ∈ I) {v : Nat} (hv : v < (dimOf ts y).toNat) :
    toA hr (elt ((msg k p n ts (fuelT ts)).2 y i) (widthI k n) v) = prdL (smL hr hR) (fun q => MTv hr ts q y v) (I.filter fun q => decide (q ≠ i ∧ y ∈ (ts.getD q noTen).l)) := by
  have hw := width_range hr; have hT : ∀ q, q < ts.length → y ∈ (ts.getD q noTen).l → ∀ v : Nat, v < (dimOf ts y).toNat → InR k p n (elt ((msg k p n ts (fuelT ts)).1 q y) (widthI k n) v) := fun q hq hyq v hv => ((msg_ok h _).1 q y hq hyq).2 v hv; rw [← (msg_fix h hf hi hy).2]
  show toA hr (elt (mapE (dimOf ts y).toNat fun v => lblM k p n ts y i (fun q => (msg k p n ts (fuelT ts)).1 q y) v ts.length) (widthI k n) v) = _
  rw [mapE_elt hw.1 (fun v hv => (lblM_in hr (fun q hq hyq => hT q hq hyq v hv) _ (Nat.le_refl _)).1) hv, lblM_prd hr hR (fun q hq hyq => hT q hq hyq v hv) _ (Nat.le_refl _)]; refine prdL_perm _ (perm_iff (List.nodup_range.filter _) (hn.filter _) fun q => ?_); simp only [List.mem_filter, List.mem_range, decide_eq_true_eq]
  constructor
  · rintro ⟨hq, hne, hyq⟩; exact ⟨hcl q hq hyq, fun e => hne (by rw [e]), hyq⟩
  · rintro ⟨hq, hne, hyq⟩; exact ⟨hlt q hq, by omega, hyq⟩
theorem all_val (h : netL k p n ts op) {I : List Nat} (hn : I.Nodup) (hlt : ∀ i ∈ I, i < ts.length) {y : Int} (hcl : ∀ q, q < ts.length → y ∈ (ts.getD q noTen).l → q ∈ I) {v : Nat} (hv : v < (dimOf ts y).toNat) :
    toA hr (elt (allM k p n ts y) (widthI k n) v) = prdL (smL hr hR) (fun q => MTv hr ts q y v) (I.filter fun q => decide (y ∈ (ts.getD q noTen).l)) := by
  have hw := width_range hr; have hT : ∀ q, q < ts.length → y ∈ (ts.getD q noTen).l → ∀ v : Nat, v < (dimOf ts y).toNat → InR k p n (elt ((msg k p n ts (fuelT ts)).1 q y) (widthI k n) v) := fun q hq hyq v hv => ((msg_ok h _).1 q y hq hyq).2 v hv
  show toA hr (elt (mapE (dimOf ts y).toNat fun v => lblM k p n ts y (-1) (fun q => (msg k p n ts (fuelT ts)).1 q y) v ts.length) (widthI k n) v) = _
  rw [mapE_elt hw.1 (fun v hv => (lblM_in hr (fun q hq hyq => hT q hq hyq v hv) _ (Nat.le_refl _)).1) hv, lblM_prd hr hR (fun q hq hyq => hT q hq hyq v hv) _ (Nat.le_refl _)]; refine prdL_perm _ (perm_iff (List.nodup_range.filter _) (hn.filter _) fun q => ?_); simp only [List.mem_filter, List.mem_range, decide_eq_true_eq]
  constructor
  · rintro ⟨hq, hne, hyq⟩; exact ⟨hcl q hq hyq, hyq⟩
  · rintro ⟨hq, hyq⟩; exact ⟨hlt q hq, by omega, hyq⟩
theorem mt_val (h : netL k p n ts op) (hf : forL ts) {i : Nat} (hi : i < ts.length) {x : Int} (hx : x ∈ (ts.getD i noTen).l) {ML : Int → Int → El k p n}
    (hML : ∀ y ∈ (ts.getD i noTen).l, y ≠ x → ∀ v : Nat, v < (dimOf ts y).toNat → toA hr (elt ((msg k p n ts (fuelT ts)).2 y i) (widthI k n) v) = ML y v) {a : Int → Int} (ha : 0 ≤ a x ∧ a x < dimOf ts x) :
    sumO (smL hr hR) (dimOf ts) ((ts.getD i noTen).l.filter fun y => decide (y ≠ x)) (fun b => (smL hr hR).mul (val hr (ts.getD i noTen) b) (prdL (smL hr hR) (fun y => ML y (b y)) ((ts.getD i noTen).l.filter fun y => decide (y ≠ x)))) a = MTv hr ts i x (a x) := by
  have hw := width_range hr; have ht := ten_in h hi; have hax := ten_axes ht; have hnd := axes_nodup hax; have hm : ts.getD i noTen ∈ ts := by simp [List.getD, hi]
  have hd := net_dmap h _ hm; have hdd : ∀ d ∈ (ts.getD i noTen).d, 1 ≤ d := fun d hd' => (dims_mem (axes_dims hax) d hd').1; have hf1 : ∀ y ∈ (ts.getD i noTen).l, 1 ≤ dimOf ts y := fun y hy => (lab_dim h hi hy).2.1; have hMok : ∀ y ∈ (ts.getD i noTen).l, y ≠ x → MsgOK k p n (dimOf ts y).toNat ((msg k p n ts (fuelT ts)).2 y i) := fun y _ _ => (msg_ok h _).2 y i; have e0 : a x = (((a x).toNat : Nat) : Int) := by omega
  have hin : ∀ o, o < (prodI (ts.getD i noTen).d).toNat → InR k p n (mulM k p n (ts.getD i noTen) x (fun y => (msg k p n ts (fuelT ts)).2 y i) o (ts.getD i noTen).l.length) := fun o ho => mulM_in h hi hMok (by omega) _ (Nat.le_refl _); have e1 : MTv hr ts i x (a x) = sumN (smL hr hR) (fun o => if co (ts.getD i noTen) x o = a x then (smL hr hR).mul (toA hr (elt (ts.getD i noTen).x (widthI k n) o)) (prdL (smL hr hR) (fun y => ML y (co (ts.getD i noTen) y o)) ((ts.getD i noTen).l.filter fun y => decide (y ≠ x))) else (smL hr hR).zero) (prodI (ts.getD i noTen).d).toNat := by
    unfold MTv
    rw [← (msg_fix h hf hi hx).1]
    show toA hr (elt (mapE (dimOf ts x).toNat fun v => sumM k p n (fun o => mulM k p n (ts.getD i noTen) x (fun y => (msg k p n ts (fuelT ts)).2 y i) o (ts.getD i noTen).l.length) (ts.getD i noTen) x v (prodI (ts.getD i noTen).d).toNat) (widthI k n) (a x)) = _
    rw [e0, mapE_elt hw.1 (fun v hv => (sumM_in hr _ hin).1) (by omega), sumM_prd hr hR _ hin]; refine sumN_congr _ fun o ho => ?_; rw [mulM_prd hr hR h hi hMok (by omega) _ (Nat.le_refl _), List.take_length]
    congr 2
    refine prdL_congr _ fun y hy => ?_; obtain ⟨hy1, hy2⟩ := List.mem_filter.1 hy; have hc := co_in ht hy1 o; rw [dim_at h hi hy1] at hc; have := hML y hy1 (by simpa using hy2) (co (ts.getD i noTen) y o).toNat (by omega)
    rwa [Int.toNat_of_nonneg hc.1] at this
  classical
  have e2 := sumO_idx (smL hr hR) (dimOf ts) (J := (ts.getD i noTen).l) hnd hf1
    (fun c => if c.getD (findI (ts.getD i noTen).l x).toNat 0 = a x then (smL hr hR).mul (toA hr (elt (ts.getD i noTen).x (widthI k n) (offL (ts.getD i noTen).d c))) (prdL (smL hr hR) (fun y => ML y (c.getD (findI (ts.getD i noTen).l y).toNat 0)) ((ts.getD i noTen).l.filter fun y => decide (y ≠ x))) else (smL hr hR).zero) a
  rw [← hd] at e2; rw [e1, sumN_congr (smL hr hR) (G := fun (o : Nat) => if (idxL (ts.getD i noTen).d (o : Int)).getD (findI (ts.getD i noTen).l x).toNat 0 = a x then (smL hr hR).mul (toA hr (elt (ts.getD i noTen).x (widthI k n) (offL (ts.getD i noTen).d (idxL (ts.getD i noTen).d (o : Int))))) (prdL (smL hr hR) (fun y => ML y ((idxL (ts.getD i noTen).d (o : Int)).getD (findI (ts.getD i noTen).l y).toNat 0)) ((ts.getD i noTen).l.filter fun y => decide (y ≠ x))) else (smL hr hR).zero)
    fun o ho => by rw [offL_idx hdd (by omega) (by omega)]; rfl, e2]
  have hg : ∀ (b : Int → Int) {y : Int}, y ∈ (ts.getD i noTen).l → ((ts.getD i noTen).l.map b).getD (findI (ts.getD i noTen).l y).toNat 0 = b y := fun b y hy => by
    have hg := findI_get hy; rw [map_getD hg.1, hg.2]
  rw [sumO_congr (smL hr hR) (dimOf ts) (xs := (ts.getD i noTen).l) (G := fun b => if ∀ z ∈ [x], b z = a z then (smL hr hR).mul (val hr (ts.getD i noTen) b) (prdL (smL hr hR) (fun y => ML y (b y)) ((ts.getD i noTen).l.filter fun y => decide (y ≠ x))) else (smL hr hR).zero) fun b _ _ => ?_]
  · have ep : ((ts.getD i noTen).l.filter fun y => decide (y ≠ x)) = (ts.getD i noTen).l.filter fun y => decide (y ∉ [x]) := List.filter_congr fun y _ => by rw [decide_eq_decide]; simp
    have hp := sumO_pick (smL hr hR) (dimOf ts) (K := [x]) (a0 := a) (J := (ts.getD i noTen).l) (G := fun b => (smL hr hR).mul (val hr (ts.getD i noTen) b) (prdL (smL hr hR) (fun y => ML y (b y)) ((ts.getD i noTen).l.filter fun y => decide (y ≠ x)))) hnd (fun _ _ => rfl) fun y _ hy => by rw [List.mem_singleton.1 hy]; exact ha
    rw [hp]; rw [ep]
  · have hc : (∀ z ∈ [x], b z = a z) ↔ b x = a x := by simp
    rw [hg b hx]
    by_cases c : b x = a x
    · rw [if_pos c, if_pos (hc.2 c)]
      congr 1
      exact prdL_congr _ fun y hy => by rw [hg b (List.mem_filter.1 hy).1]
    · rw [if_neg c, if_neg fun e => c (hc.1 e)]
/-- The messages to a label hold the sum over all other labels of its part. -/
theorem tree_part (h : netL k p n ts op) (hf : forL ts) {l : List Int} (hl : l ∈ partsL ts) {x0 : Int} (hx0 : inPart ts x0 l) {a : Int → Int} (ha : ∀ y, inPart ts y l → 0 ≤ a y ∧ a y < dimOf ts y) {xs : List Int} (hx : xs.Nodup) (hxs : ∀ y, y ∈ xs ↔ y ≠ x0 ∧ inPart ts y l) :
    sumO (smL hr hR) (dimOf ts) xs (fun b => prdL (smL hr hR) (fun i => val hr (ts.getD i noTen) b) (l.map Int.toNat)) a = toA hr (elt (allM k p n ts x0) (widthI k n) (a x0)) := by
  have hP := part_ok hl; obtain ⟨pos, c⟩ := cert_all (R := nodesR (ts.length + 100)) (edgTo ts ts.length) (by rw [nodesR_len]; exact edg_in h (Nat.le_refl _)) hf (ts.length + x0.toNat); obtain ⟨I, hp, hs⟩ := sort_by pos (l.map Int.toNat); have htr := tree_ok h hl hx0 c hp hs; have hI : ∀ i, i ∈ I ↔ (i : Int) ∈ l := fun i => by rw [hp.mem_iff, mem_nat hP]
  have hlt : ∀ i ∈ I, i < ts.length := fun i hi => part_lt hP ((hI i).1 hi); have hin : ∀ i ∈ I, ∀ y ∈ (ts.getD i noTen).l, inPart ts y l := fun i hi y hy => ⟨i, (hI i).1 hi, by rw [Int.toNat_natCast]; exact hy⟩
  have hcl : ∀ y, inPart ts y l → ∀ q, q < ts.length → y ∈ (ts.getD q noTen).l → q ∈ I := fun y hy q hq hyq => (hI q).2 ((part_has hl hq hyq).2 hy); have hsum := tree_sum (smL hr hR) (dimOf ts) (T := fun i b => val hr (ts.getD i noTen) b) (MT := fun i y v => MTv hr ts i y v) (ML := fun y i v => prdL (smL hr hR) (fun q => MTv hr ts q y v) (I.filter fun q => decide (q ≠ i ∧ y ∈ (ts.getD q noTen).l))) htr
    (fun i _ y hy b v => val_upd hr hy b v) (fun i _ y _ v => rfl)
    (fun i hi a ha => mt_val hr hR h hf (hlt i hi) (htr.pm i hi) (ML := fun y v => prdL (smL hr hR) (fun q => MTv hr ts q y v) (I.filter fun q => decide (q ≠ i ∧ y ∈ (ts.getD q noTen).l))) (fun y hy _ v hv => ml_val hr hR h hf htr.nd hlt (hlt i hi) hy (hcl y (hin i hi y hy)) hv) ha)
    (a := a) (fun i hi y hy => ha y (hin i hi y hy)) hx (fun y => by
      rw [hxs]
      constructor
      · rintro ⟨h1, i, h2, h3⟩; have h4 := hP.inr i h2; exact ⟨h1, i.toNat, (hI _).2 (by rw [Int.toNat_of_nonneg h4.1]; exact h2), h3⟩
      · rintro ⟨h1, i, h2, h3⟩; exact ⟨h1, hin i h2 y h3⟩)
  have e1 : sumO (smL hr hR) (dimOf ts) xs (fun b => prdL (smL hr hR) (fun i => val hr (ts.getD i noTen) b) (l.map Int.toNat)) a = sumO (smL hr hR) (dimOf ts) xs (fun b => prdL (smL hr hR) (fun i => val hr (ts.getD i noTen) b) I) a :=
    sumO_congr _ _ fun b _ _ => prdL_perm _ hp.symm
  rw [e1, hsum]; have hax := ha x0 hx0; have e2 := all_val hr hR h htr.nd hlt (hcl x0 hx0) (v := (a x0).toNat) (by omega); rw [Int.toNat_of_nonneg hax.1] at e2; rw [e2]
end
end Go.Proofs.YtdkgaejmgnojhaaGreat
namespace Go.Proofs.YtdkgaejmgnojhaaGreat
set_option maxRecDepth 100000
open Go.RowKit
section
variable {A : Type} (R : Sm A) (f : Int → Int)
theorem prdL_map {β γ : Type} (F : γ → A) (g : β → γ) : ∀ l : List β, prdL R F (l.map g) = prdL R (fun x => F (g x)) l
  | [] => rfl
  | x :: l => by
    have ih := prdL_map F g l
    show R.mul _ _ = R.mul _ _
    rw [ih]
theorem prdL_flat {β γ : Type} (F : γ → A) (g : β → List γ) : ∀ l : List β, prdL R F (l.flatMap g) = prdL R (fun x => prdL R F (g x)) l
  | [] => rfl
  | x :: l => by
    have ih := prdL_flat F g l; rw [List.flatMap_cons, prdL_append, ih]; rfl
theorem prdL_mul {β : Type} (F G : β → A) : ∀ l : List β, prdL R (fun x => R.mul (F x) (G x)) l = R.mul (prdL R F l) (prdL R G l)
  | [] => (R.mul1 _).symm
  | x :: l => by
    have ih := prdL_mul F G l
    show R.mul (R.mul (F x) (G x)) (prdL R _ l) = R.mul (R.mul (F x) (prdL R F l)) (R.mul (G x) (prdL R G l))
    rw [ih, R.mulA, R.mulA, R.mulX (G x)]
theorem prdL_ones {β : Type} {F : β → A} : ∀ {l : List β}, (∀ x ∈ l, F x = R.one) → prdL R F l = R.one
  | [], _ => rfl
  | x :: l, h => by
    have ih := prdL_ones (l := l) fun y hy => h y (by simp [hy])
    show R.mul (F x) (prdL R F l) = _
    rw [h x (by simp), ih, R.mul1]
theorem sumO_indep {F : (Int → Int) → A} {y : Int} (h : ∀ b v, F (upd b y v) = F b) : ∀ (xs : List Int) (a : Int → Int) (v : Int), sumO R f xs F (upd a y v) = sumO R f xs F a
  | [], a, v => h a v
  | x :: xs, a, v => by
    rw [sumO, sumO]; refine sumN_congr R fun w _ => ?_
    by_cases c : y = x
    · subst c; have e : upd (upd a y v) y (w : Int) = upd a y w := by
        funext z
        unfold upd
        split <;> rfl
      rw [e]
    · rw [upd_swap a c, sumO_indep h]
/-- A sum over the labels of several groups is the product of the groups' sums. -/
theorem sumO_fac {β : Type} (F : β → (Int → Int) → A) (lab : β → List Int) : ∀ {ps : List β}, ps.Pairwise (fun l l' => (∀ y ∈ lab l, ∀ b v, F l' (upd b y v) = F l' b) ∧ ∀ y ∈ lab l', ∀ b v, F l (upd b y v) = F l b) →
    ∀ a : Int → Int, sumO R f (ps.flatMap lab) (fun b => prdL R (fun l => F l b) ps) a = prdL R (fun l => sumO R f (lab l) (F l) a) ps
  | [], _, _ => rfl
  | l :: ps, h, a => by
    obtain ⟨h1, h2⟩ := List.pairwise_cons.1 h; rw [List.flatMap_cons, sumO_append]; have e1 : ∀ b : Int → Int, sumO R f (ps.flatMap lab) (fun b => prdL R (fun l => F l b) (l :: ps)) b = R.mul (F l b) (prdL R (fun l => sumO R f (lab l) (F l) b) ps) := fun b => by
      have e2 : sumO R f (ps.flatMap lab) (fun b => prdL R (fun l => F l b) (l :: ps)) b = sumO R f (ps.flatMap lab) (fun b => R.mul (prdL R (fun l => F l b) ps) (F l b)) b := sumO_congr R f fun c _ _ => R.mulC _ _; rw [e2, sumO_mul R f (F := fun b => prdL R (fun l => F l b) ps) (G := F l) fun y hy c v => ?_]
      · rw [sumO_fac F lab h2 b, R.mulC]
      · obtain ⟨l', hl', hy'⟩ := List.mem_flatMap.1 hy; exact (h1 l' hl').2 y hy' c v
    rw [sumO_congr R f fun b _ _ => e1 b, sumO_mul R f (F := F l) (G := fun b => prdL R (fun l => sumO R f (lab l) (F l) b) ps) fun y hy c v => ?_]
    · rfl
    · exact prdL_congr R fun l' hl' => sumO_indep R f (fun b v => (h1 l' hl').1 y hy b v) _ _ _
theorem nodup_flat {β : Type} {lab : β → List Int} : ∀ {ps : List β}, (∀ l ∈ ps, (lab l).Nodup) → ps.Pairwise (fun l l' => ∀ y ∈ lab l, y ∉ lab l') → (ps.flatMap lab).Nodup
  | [], _, _ => by simp
  | l :: ps, h, hp => by
    obtain ⟨h1, h2⟩ := List.pairwise_cons.1 hp; rw [List.flatMap_cons]; refine List.nodup_append.2 ⟨h l (by simp), nodup_flat (fun m hm => h m (by simp [hm])) h2, fun y hy z hz e => ?_⟩; subst e; obtain ⟨l', hl', hy'⟩ := List.mem_flatMap.1 hz; exact h1 l' hl' y hy hy'
theorem nodup_flatN {β : Type} {idx : β → List Nat} : ∀ {ps : List β}, (∀ l ∈ ps, (idx l).Nodup) → ps.Pairwise (fun l l' => ∀ y ∈ idx l, y ∉ idx l') → (ps.flatMap idx).Nodup
  | [], _, _ => by simp
  | l :: ps, h, hp => by
    obtain ⟨h1, h2⟩ := List.pairwise_cons.1 hp; rw [List.flatMap_cons]; refine List.nodup_append.2 ⟨h l (by simp), nodup_flatN (fun m hm => h m (by simp [hm])) h2, fun y hy z hz e => ?_⟩; subst e; obtain ⟨l', hl', hy'⟩ := List.mem_flatMap.1 hz; exact h1 l' hl' y hy hy'
open Classical in
theorem prdL_uniq {β : Type} {P : β → Prop} (c : A) : ∀ {ps : List β}, ps.Pairwise (fun l l' => P l → ¬ P l') → (∃ l ∈ ps, P l) → prdL R (fun l => if P l then c else R.one) ps = c
  | [], _, h => by obtain ⟨l, hl, _⟩ := h; cases hl
  | l :: ps, hp, h => by
    obtain ⟨h1, h2⟩ := List.pairwise_cons.1 hp
    show R.mul (if P l then c else R.one) (prdL R _ ps) = c
    by_cases hl : P l
    · rw [if_pos hl, prdL_ones R fun x hx => if_neg (h1 x hx hl), R.mul1']
    · rw [if_neg hl, R.mul1]; obtain ⟨m, hm, hP⟩ := h
      rcases List.mem_cons.1 hm with e | hm
      · exact absurd (e ▸ hP) hl
      · exact prdL_uniq c h2 ⟨m, hm, hP⟩
end
section
variable {k p n : Int} {ts : List Ten} {op : List Int}
/-- Two parts share no label and no tensor. -/
theorem parts_apart (ts : List Ten) : (partsL ts).Pairwise fun l l' => (∀ y, inPart ts y l → ¬ inPart ts y l') ∧ ∀ i : Nat, (i : Int) ∈ l → (i : Int) ∉ l' := by
  unfold partsL partsTo
  refine List.Pairwise.filter _ (List.pairwise_map.2 (List.pairwise_lt_range.imp fun {a b} hab => ⟨fun y h1 h2 => ?_, fun i h1 h2 => ?_⟩))
  · obtain ⟨i, hi, hy⟩ := h1; obtain ⟨j, hj, hy'⟩ := h2; obtain ⟨i', rfl, hi', e1⟩ := mem_partJ.1 hi; obtain ⟨j', rfl, hj', e2⟩ := mem_partJ.1 hj; rw [Int.toNat_natCast] at hy hy'; have := pt_meet hi' hj' ⟨y, hy, hy'⟩
    omega
  · obtain ⟨i', e, _, e1⟩ := mem_partJ.1 h1; obtain ⟨j', e', _, e2⟩ := mem_partJ.1 h2; rw [show j' = i' by omega] at e2
    omega
theorem in_lab (h : netL k p n ts op) {l : List Int} (hl : PartL ts l) {y : Int} (hy : inPart ts y l) : y ∈ labelsL ts := by
  obtain ⟨i, hi, hyi⟩ := hy; have hi' := hl.inr i hi; have hd := lab_dim h (show i.toNat < ts.length by omega) hyi; exact mem_labels.2 ⟨⟨hd.1.1, by omega⟩, by omega⟩
theorem lab_in (h : netL k p n ts op) {y : Int} (hy : y ∈ labelsL ts) : ∃ l ∈ partsL ts, inPart ts y l := by
  obtain ⟨i, hi, hyi⟩ := lab_hasI h hy; obtain ⟨l, hl, hil⟩ := part_all hi; exact ⟨l, hl, i, hil, by rw [Int.toNat_natCast]; exact hyi⟩
open Classical in
/-- A part's labels but one. -/
noncomputable def labP (ts : List Ten) (x : Int) (l : List Int) : List Int := (labelsL ts).filter fun y => decide (y ≠ x ∧ inPart ts y l)
theorem mem_labP (h : netL k p n ts op) {l : List Int} (hl : PartL ts l) {x y : Int} : y ∈ labP ts x l ↔ y ≠ x ∧ inPart ts y l := by
  classical
  unfold labP
  rw [List.mem_filter, decide_eq_true_eq]; exact ⟨fun hh => hh.2, fun hh => ⟨in_lab h hl hh.2, hh⟩⟩
theorem labP_nodup (ts : List Ten) (x : Int) (l : List Int) : (labP ts x l).Nodup := (labels_nodup ts 100).filter _
variable (hr : ringL k p n) (hR : RLaw k p n)
/-- A part's product. -/
noncomputable def parV (ts : List Ten) (l : List Int) (b : Int → Int) : El k p n := prdL (smL hr hR) (fun i => val hr (ts.getD i noTen) b) (l.map Int.toNat)
theorem parV_upd {l : List Int} (hl : PartL ts l) {y : Int} (hy : ¬ inPart ts y l) (b : Int → Int) (v : Int) : parV hr hR ts l (upd b y v) = parV hr hR ts l b :=
  prdL_congr _ fun i hi => val_upd hr (fun hm => hy ⟨i, (mem_nat hl).1 hi, by rw [Int.toNat_natCast]; exact hm⟩) b v
theorem prodV_prd (l : List Ten) (b : Int → Int) : prodV hr hR l b = prdL (smL hr hR) (fun t => val hr t b) l := by
  induction l with
  | nil => rfl
  | cons t l ih => rw [prodV_cons, ih]; rfl
theorem prod_parts (h : netL k p n ts op) (b : Int → Int) : prodV hr hR ts b = prdL (smL hr hR) (fun l => parV hr hR ts l b) (partsL ts) := by
  have e : ts = (List.range ts.length).map fun i => ts.getD i noTen := by
    apply List.ext_getElem?
    intro i
    by_cases hi : i < ts.length
    · simp [hi, List.getD]
    · rw [List.getElem?_eq_none (by omega), List.getElem?_eq_none (by simp; omega)]
  have hp : (List.range ts.length).Perm ((partsL ts).flatMap fun l => l.map Int.toNat) := by
    refine perm_iff List.nodup_range (nodup_flatN (fun l hl => part_nat_nodup (part_ok hl)) ?_) fun i => ?_
    · have hq : (partsL ts).Pairwise fun l l' => l ∈ partsL ts ∧ l' ∈ partsL ts ∧ ∀ i : Nat, (i : Int) ∈ l → (i : Int) ∉ l' := by
        have := parts_apart ts; exact List.Pairwise.and_mem.1 (this.imp fun h => h.2)
      exact hq.imp fun {l l'} hh y hy hy' => hh.2.2 y ((mem_nat (part_ok hh.1)).1 hy) ((mem_nat (part_ok hh.2.1)).1 hy')
    · rw [List.mem_range, List.mem_flatMap]
      constructor
      · intro hi; obtain ⟨l, hl, hm⟩ := part_all hi; exact ⟨l, hl, (mem_nat (part_ok hl)).2 hm⟩
      · rintro ⟨l, hl, hm⟩; exact part_lt (part_ok hl) ((mem_nat (part_ok hl)).1 hm)
  have e2 : prodV hr hR ts b = prdL (smL hr hR) (fun t => val hr t b) ((List.range ts.length).map fun i => ts.getD i noTen) := by rw [← e]; exact prodV_prd hr hR ts b
  rw [e2, prdL_map, prdL_perm _ hp, prdL_flat]
  rfl
theorem totS_sum {X : List Int} {d : Nat} (hX : MsgOK k p n d X) : ∀ m, m ≤ d → toA hr (totS k p n X m) = sumN (smL hr hR) (fun (v : Nat) => toA hr (elt X (widthI k n) (v : Int))) m
  | 0, _ => toA_zero hr hR
  | m + 1, hm => by
    have ih := totS_sum hX m (by omega); rw [totS, toA_add hr hR (totS_in hr hX m (by omega)) (hX.2 m (by omega)), ih, sumN]
/-- A part without the label gives its total. -/
theorem part_tot (h : netL k p n ts op) (hf : forL ts) {l : List Int} (hl : l ∈ partsL ts) {x : Int} (hx : ¬ inPart ts x l) {a : Int → Int} (ha : ∀ y ∈ labelsL ts, 0 ≤ a y ∧ a y < dimOf ts y) :
    sumO (smL hr hR) (dimOf ts) (labP ts x l) (parV hr hR ts l) a = toA hr (ptTot k p n ts l) := by
  have hP := part_ok hl; have hfst := part_first hP; have ht := ten_in h hfst.1; have hmem : ((l.getD 0 0).toNat : Int) ∈ l := by rw [hfst.2.1]; exact mem_getD hfst.2.2
  by_cases c : (ts.getD (l.getD 0 0).toNat noTen).l = []
  · have hone : ∀ i : Nat, (i : Int) ∈ l → i = (l.getD 0 0).toNat := fun i hi => by
      obtain ⟨q, hq⟩ := part_cls hl; have h1 := (hq i).1 hi; have h2 := (hq _).1 hmem; have e := pt_least (ts := ts) (g := fun u => u = (l.getD 0 0).toNat) (fun a b ha hb hm => by
        obtain ⟨y, hya, hyb⟩ := hm; have na : a ≠ (l.getD 0 0).toNat := fun e => by rw [e, c] at hya; cases hya
        have nb : b ≠ (l.getD 0 0).toNat := fun e => by rw [e, c] at hyb; cases hyb
        exact propext ⟨fun e => absurd e na, fun e => absurd e nb⟩) h1.1 h2.1 (by rw [h1.2, h2.2])
      exact e.mpr rfl
    have e1 : labP ts x l = [] := List.eq_nil_iff_forall_not_mem.2 fun y hy => by
      obtain ⟨_, i, hi, hyi⟩ := (mem_labP h hP).1 hy; have hi' := hP.inr i hi; have := hone i.toNat (by rw [Int.toNat_of_nonneg hi'.1]; exact hi); rw [this, c] at hyi
      cases hyi
    have e2 : (l.map Int.toNat).Perm [(l.getD 0 0).toNat] := perm_iff (part_nat_nodup hP) (by simp) fun i => by
      rw [mem_nat hP, List.mem_singleton]; exact ⟨hone i, fun e => by rw [e]; exact hmem⟩
    rw [e1]
    show parV hr hR ts l a = _
    unfold parV
    rw [prdL_perm _ e2, prdL_one, ptTot, if_pos c]; have hd : (ts.getD (l.getD 0 0).toNat noTen).d = [] := List.length_eq_zero_iff.1 (by rw [← (ten_axes ht).2.1, c]; rfl); have hin := ptTot_in h hP; rw [ptTot, if_pos c] at hin
    unfold val
    rw [c, hd]
    show toA hr (elt _ _ 0) = _
    unfold elt
    rw [Int.zero_mul]
    show toA hr (List.take _ (List.drop 0 _)) = _
    rw [List.drop_zero, List.take_of_length_le (by rw [hin.1]; omega)]
  · have hy0 : (ts.getD (l.getD 0 0).toNat noTen).l.getD 0 0 ∈ (ts.getD (l.getD 0 0).toNat noTen).l := mem_getD (List.length_pos_iff.2 c); have hyP : inPart ts ((ts.getD (l.getD 0 0).toNat noTen).l.getD 0 0) l := ⟨l.getD 0 0, mem_getD hfst.2.2, hy0⟩
    rw [ptTot, if_neg c]
    generalize hy : (ts.getD (l.getD 0 0).toNat noTen).l.getD 0 0 = y at hy0 hyP
    have hyl := in_lab h hP hyP; have hyd := lab_dim h hfst.1 hy0; have e1 : (labP ts x l).Perm (y :: labP ts y l) := perm_iff (labP_nodup ts x l) (List.nodup_cons.2 ⟨fun hm => ((mem_labP h hP).1 hm).1 rfl, labP_nodup ts y l⟩) fun z => by
      rw [List.mem_cons, mem_labP h hP, mem_labP h hP]
      constructor
      · rintro ⟨_, hz⟩
        by_cases e : z = y
        · exact .inl e
        · exact .inr ⟨e, hz⟩
      · rintro (e | ⟨_, hz⟩)
        · exact ⟨fun e2 => hx (by rw [← e2, e]; exact hyP), by rw [e]; exact hyP⟩
        · exact ⟨fun e2 => hx (by rw [← e2]; exact hz), hz⟩
    rw [sumO_perm _ _ e1, sumO, totS_sum hr hR (allM_ok h y) _ (Nat.le_refl _)]; refine sumN_congr _ fun v hv => ?_; have := tree_part hr hR h hf hl hyP (a := upd a y v) (fun z hz => by
      by_cases e : z = y
      · rw [e, upd_at]; omega
      · rw [upd_ne e]; exact ha z (in_lab h hP hz)) (labP_nodup ts y l) fun z => mem_labP h hP
    rw [upd_at] at this; exact this
open Classical in
theorem rsS_prd (h : netL k p n ts op) {x : Int} : ∀ q, q ≤ (partsL ts).length → toA hr (rsS k p n ts x q) = prdL (smL hr hR) (fun l => if inPart ts x l then (smL hr hR).one else toA hr (ptTot k p n ts l)) ((partsL ts).take q)
  | 0, _ => toA_one hr hR
  | q + 1, hq => by
    have ih := rsS_prd h (x := x) q (by omega); have et : (partsL ts).take (q + 1) = (partsL ts).take q ++ [(partsL ts).getD q []] := by
      rw [List.take_succ_eq_append_getElem (by omega)]
      simp [List.getD, show q < (partsL ts).length by omega]
    rw [et, prdL_append, prdL_one, ← ih]
    by_cases c : inPart ts x ((partsL ts).getD q [])
    · rw [rsS, if_pos c, if_pos c, Sm.mul1']
    · rw [rsS, if_neg c, if_neg c, toA_mul hr hR (rsS_in h q (by omega)) (ptTot_in h (parts_get (by omega)))]
/-- The sum over all labels but one. -/
theorem for_sum (h : netL k p n ts op) (hf : forL ts) {x : Int} (hx : x ∈ labelsL ts) {a : Int → Int} (ha : ∀ y ∈ labelsL ts, 0 ≤ a y ∧ a y < dimOf ts y) :
    sumO (smL hr hR) (dimOf ts) ((labelsL ts).filter fun y => decide (y ∉ [x])) (prodV hr hR ts) a = toA hr (mulL k p n (elt (allM k p n ts x) (widthI k n) (a x)) (rsS k p n ts x (partsL ts).length)) := by
  classical
  have hmem : (partsL ts).Pairwise fun l l' => l ∈ partsL ts ∧ l' ∈ partsL ts ∧ ∀ y, inPart ts y l → ¬ inPart ts y l' := List.Pairwise.and_mem.1 ((parts_apart ts).imp fun h => h.1); have hp : ((labelsL ts).filter fun y => decide (y ∉ [x])).Perm ((partsL ts).flatMap (labP ts x)) := by
    refine perm_iff ((labels_nodup ts 100).filter _) (nodup_flat (fun l _ => labP_nodup ts x l) (hmem.imp fun {l l'} hh y hy hy' => ?_)) fun y => ?_
    · exact hh.2.2 y ((mem_labP h (part_ok hh.1)).1 hy).2 ((mem_labP h (part_ok hh.2.1)).1 hy').2
    · rw [List.mem_filter, decide_eq_true_eq, List.mem_flatMap, List.mem_singleton]
      constructor
      · rintro ⟨h1, h2⟩; obtain ⟨l, hl, hyl⟩ := lab_in h h1; exact ⟨l, hl, (mem_labP h (part_ok hl)).2 ⟨h2, hyl⟩⟩
      · rintro ⟨l, hl, hyl⟩; obtain ⟨h2, h3⟩ := (mem_labP h (part_ok hl)).1 hyl; exact ⟨in_lab h (part_ok hl) h3, h2⟩
  rw [sumO_perm _ _ hp, sumO_congr _ _ fun b _ _ => prod_parts hr hR h b, sumO_fac (smL hr hR) (dimOf ts) (parV hr hR ts) (labP ts x) (hmem.imp fun {l l'} hh => ⟨fun y hy b v => parV_upd hr hR (part_ok hh.2.1) (hh.2.2 y ((mem_labP h (part_ok hh.1)).1 hy).2) b v, fun y hy b v => parV_upd hr hR (part_ok hh.1) (fun hc => hh.2.2 y hc ((mem_labP h (part_ok hh.2.1)).1 hy).2) b v⟩)]; have hax := ha x hx; have hin := (allM_ok h x).2 (a x).toNat (by omega); rw [Int.toNat_of_nonneg hax.1] at hin; rw [toA_mul hr hR hin (rsS_in h _ (Nat.le_refl _)), rsS_prd hr hR h _ (Nat.le_refl _), List.take_length]; have eW : ∀ l ∈ partsL ts, sumO (smL hr hR) (dimOf ts) (labP ts x l) (parV hr hR ts l) a = (smL hr hR).mul (if inPart ts x l then toA hr (elt (allM k p n ts x) (widthI k n) (a x)) else (smL hr hR).one) (if inPart ts x l then (smL hr hR).one else toA hr (ptTot k p n ts l)) := fun l hl => by
    by_cases c : inPart ts x l
    · rw [if_pos c, if_pos c, Sm.mul1']; exact tree_part hr hR h hf hl c (fun y hy => ha y (in_lab h (part_ok hl) hy)) (labP_nodup ts x l) fun y => mem_labP h (part_ok hl)
    · rw [if_neg c, if_neg c, (smL hr hR).mul1]; exact part_tot hr hR h hf hl c ha
  rw [prdL_congr _ eW, prdL_mul, prdL_uniq _ _ (hmem.imp fun {l l'} hh => hh.2.2 x) (lab_in h hx)]
/-- In a forest the messages give the marginals. -/
theorem for_mar (h : netL k p n ts op) (hf : forL ts) {x : Int} (hx : x ∈ labelsL ts) (hm : marP k p n ts op x) : marR k p n ts op x = frT k p n ts x := by
  have hr := h.1; have hR := law_all hr; obtain ⟨h1, h2, h3⟩ := marR_d hm; have hw := width_range hr; obtain ⟨i, hi, hxi⟩ := lab_hasI h hx; have hd := (lab_dim h hi hxi).2; have hrs : InR k p n (rsS k p n ts x (partsL ts).length) := rsS_in h _ (Nat.le_refl _); have hlen : ∀ v : Nat, v < (dimOf ts x).toNat → InR k p n (mulL k p n (elt (allM k p n ts x) (widthI k n) (v : Int)) (rsS k p n ts x (partsL ts).length)) := fun v hv => mulL_in hr ((allM_ok h x).2 v hv) hrs; have hall := ten_all h2; rw [h3] at hall; have hp : prodI [dimOf ts x] = dimOf ts x := by simp [prodI]
  rw [hp] at hall; have e3 : (marR k p n ts op x).x = (frT k p n ts x).x := by
    show _ = mapE (dimOf ts x).toNat _
    refine elts_ext hw.1 (P := dimOf ts x) hall.1 ?_ fun j j0 j1 => ?_
    · rw [mapE_len fun v hv => (hlen v hv).1, Int.natCast_mul, Int.toNat_of_nonneg (by omega), Int.toNat_of_nonneg (by omega)]
    · have e4 := mapE_elt (k := k) (n := n) hw.1 (fun v hv => (hlen v hv).1) (show j.toNat < (dimOf ts x).toNat by omega); rw [Int.toNat_of_nonneg j0] at e4; rw [e4]; have hin1 : InR k p n (elt (marR k p n ts op x).x (widthI k n) j) := elt_inR h2 j0 (by rw [h3, hp]; exact j1); have hin2 := hlen j.toNat (by omega); rw [Int.toNat_of_nonneg j0] at hin2; have e5 := mar_val hr hR hm ⟨j0, j1⟩ (fun _ => 0); rw [for_sum hr hR h hf hx (a := upd (fun _ => 0) x j) fun y hy => by
        by_cases e : y = x
        · rw [e, upd_at]; exact ⟨j0, j1⟩
        · rw [upd_ne e]; have := (mem_labels.1 hy).2
          omega] at e5
      rw [upd_at] at e5; have e6 := congrArg Subtype.val e5
      rwa [toA_val hr hin1, toA_val hr hin2] at e6
  show (⟨(marR k p n ts op x).l, (marR k p n ts op x).d, (marR k p n ts op x).x⟩ : Ten) = _
  rw [e3, h1, h3]
  rfl
end
end Go.Proofs.YtdkgaejmgnojhaaGreat
namespace Go.Proofs.YtdkgaejmgnojhaaGreat
set_option maxRecDepth 100000
open Go.RowKit
section
variable {k p n : Int} {ts : List Ten} {op vs : List Int}
/-- The assignment as a function of labels. -/
def asgn (ls vs : List Int) (x : Int) : Int := vs.getD (findI ls x).toNat 0
theorem asgn_at {ls vs : List Int} (hn : ls.Nodup) {j : Nat} (hj : j < ls.length) : asgn ls vs (ls.getD j 0) = vs.getD j 0 := by
  unfold asgn
  rw [find_at' hn hj, Int.toNat_natCast]
end
end Go.Proofs.YtdkgaejmgnojhaaGreat
namespace Go.Proofs.YtdkgaejmgnojhaaGreat
set_option maxRecDepth 100000
open Go.RowKit
section
variable {k p n : Int} {ts : List Ten} {op vs : List Int}
variable (hr : ringL k p n) (hR : RLaw k p n)
theorem fold_val {ls : List Int} : ∀ (l : List Ten) (acc : List Int), InR k p n acc → (∀ t ∈ l, InR k p n (elt t.x (widthI k n) (offL t.d (idxAt ls vs t.l)))) →
    InR k p n (l.foldl (fun a t => mulL k p n a (elt t.x (widthI k n) (offL t.d (idxAt ls vs t.l)))) acc) ∧ toA hr (l.foldl (fun a t => mulL k p n a (elt t.x (widthI k n) (offL t.d (idxAt ls vs t.l)))) acc) = (smL hr hR).mul (toA hr acc) (prodV hr hR l (asgn ls vs))
  | [], acc, ha, _ => ⟨ha, by
      show toA hr acc = (smL hr hR).mul _ (smL hr hR).one
      rw [(smL hr hR).mulC, (smL hr hR).mul1]⟩
  | t :: l, acc, ha, hl => by
    have ht := hl t (by simp); obtain ⟨h1, h2⟩ := fold_val l (mulL k p n acc (elt t.x (widthI k n) (offL t.d (idxAt ls vs t.l)))) (mulL_in hr ha ht) fun u hu => hl u (by simp [hu]); refine ⟨h1, ?_⟩; rw [List.foldl_cons, h2, toA_mul hr hR ha ht, prodV_cons, (smL hr hR).mulA]
    rfl
end
end Go.Proofs.YtdkgaejmgnojhaaGreat
namespace Go.Proofs.YtdkgaejmgnojhaaGreat
set_option maxRecDepth 100000
open Go.RowKit
section
variable {k p n : Int} {ts : List Ten} {op : List Int} (hr : ringL k p n) (hR : RLaw k p n)
theorem prodV_on {l : List Ten} {a b : Int → Int} (h : ∀ t ∈ l, ∀ y ∈ t.l, a y = b y) : prodV hr hR l a = prodV hr hR l b := by
  rw [prodV_prd, prodV_prd]; refine prdL_congr _ fun t ht => ?_
  unfold val
  rw [List.map_congr_left fun y hy => h t ht y hy]
theorem val_elt (h : ValOK k p n ts []) : ∀ M : Nat, toA hr (elt (valX k p n ts [] M) (widthI k n) 0) = sumN (smL hr hR) (fun (m : Nat) => toA hr (weightTo k p n (labelsL ts) (idxL (dimsFor ts (labelsL ts)) (m : Int)) ts)) M
  | 0 => by
    have hw := width_range hr; have hz := zeroL_len k p n; have e := elt_rep (z := zeroL k p n) (W := (widthI k n).toNat) (P := 1) hz (i := 0) (by omega); rw [Int.toNat_of_nonneg (by omega)] at e; have e2 : valX k p n ts [] 0 = (List.replicate 1 (zeroL k p n)).flatten := rfl; rw [e2]; have e : elt (List.replicate 1 (zeroL k p n)).flatten (widthI k n) 0 = zeroL k p n := e; rw [e, toA_zero hr hR]; rfl
  | M + 1 => by
    have hw := width_range hr; have ih := val_elt h M; have hak := h.at_k (M : Int); have hp1 : prodI (dimsFor ts []) = 1 := rfl; have h0 : atI (dimOf ts) (labelsL ts) [] (M : Int) = 0 := by omega
    have hel := (h.all M).el hr (Int.le_refl 0) (by rw [hp1]; omega); have hwt := h.weight (M : Int); have hnew := addL_in hr hel hwt; have hf := h.fits M; rw [h0] at hf; rw [valX, h0, sumN, ← ih, elt_put (by omega) (Int.le_refl 0) hnew.1 hf, toA_add hr hR hel hwt]
theorem val_ok (h : netL k p n ts op) (hs : prodI ((labelsL ts).map (dimOf ts)) ≤ 4096) : ValOK k p n ts [] := ⟨net_nil h, by unfold dimsFor; omega⟩
/-- The value by definition is the total. -/
theorem val_tot (ht : totP k p n ts op) (h : ValOK k p n ts []) : (valR k p n ts []).x = totX k p n ts op := by
  have hr := h.net.1; have hR := law_all hr; have hw := width_range hr; rw [valR, if_pos h]
  show valX k p n ts [] (prodI (dimsFor ts (labelsL ts))).toNat = _
  have hall := (h.all (prodI (dimsFor ts (labelsL ts))).toNat).1; have hp1 : prodI (dimsFor ts []) = 1 := rfl; rw [hp1] at hall; have e0 : elt (valX k p n ts [] (prodI (dimsFor ts (labelsL ts))).toNat) (widthI k n) 0 = valX k p n ts [] (prodI (dimsFor ts (labelsL ts))).toNat := by
    unfold elt
    rw [Int.zero_mul]
    show List.take _ (List.drop 0 _) = _
    rw [List.drop_zero, List.take_of_length_le (by omega)]
  have hin := (h.all (prodI (dimsFor ts (labelsL ts))).toNat).el hr (Int.le_refl 0) (by rw [hp1]; omega); have e1 := val_elt hr hR h (prodI (dimsFor ts (labelsL ts))).toNat; have hnd : (labelsL ts).Nodup := labels_nodup ts 100; have hf1 : ∀ y ∈ labelsL ts, 1 ≤ dimOf ts y := fun y hy => (h.f y hy).1; have e2 : ∀ m : Nat, m < (prodI (dimsFor ts (labelsL ts))).toNat → toA hr (weightTo k p n (labelsL ts) (idxL (dimsFor ts (labelsL ts)) (m : Int)) ts) = prodV hr hR ts (asgn (labelsL ts) (idxL (dimsFor ts (labelsL ts)) (m : Int))) := fun m _ => by
    have hat := h.idx (m : Int); have hel : ∀ t ∈ ts, InR k p n (elt t.x (widthI k n) (offL t.d (idxAt (labelsL ts) (idxL (dimsFor ts (labelsL ts)) (m : Int)) t.l))) := fun t ht => elt_inR (hat.ten t ht) (hat.off ht).1 (hat.off ht).2; have h2 := (fold_val hr hR (vs := idxL (dimsFor ts (labelsL ts)) (m : Int)) (ls := labelsL ts) ts (oneL k p n) (oneL_in hr) hel).2; rw [toA_one hr hR, (smL hr hR).mul1] at h2; rw [weightTo]; exact h2
  rw [e0, sumN_congr _ e2] at e1; have e3 := sumO_idx (smL hr hR) (dimOf ts) hnd hf1 (fun c => prodV hr hR ts (asgn (labelsL ts) c)) (fun _ => 0); have e4 : sumO (smL hr hR) (dimOf ts) (labelsL ts) (fun b => prodV hr hR ts (asgn (labelsL ts) ((labelsL ts).map b))) (fun _ => 0) = sumO (smL hr hR) (dimOf ts) (labelsL ts) (prodV hr hR ts) (fun _ => 0) := sumO_congr _ _ fun b _ _ => by
    refine prodV_on hr hR fun t htm y hy => ?_; obtain ⟨j, hj, rfl⟩ := getD_of_mem (net_label h.net htm hy); rw [asgn_at hnd hj, map_getD hj]
  have e5 : toA hr (valX k p n ts [] (prodI (dimsFor ts (labelsL ts))).toNat) = toA hr (totX k p n ts op) := by
    rw [e1, tot_sum hr hR ht (fun _ => 0), ← e4, ← e3]
    rfl
  rw [e0] at hin; have e6 := congrArg Subtype.val e5
  rwa [toA_val hr hin, toA_val hr ht.inR] at e6
/-- A marginal's sum is the total. -/
theorem fr_tot (h : netL k p n ts op) (hf : forL ts) (ht : totP k p n ts op) {x : Int} (hx : x ∈ labelsL ts) : (sumR k p n (frT k p n ts x) []).x = totX k p n ts op := by
  have hr := h.1; have hR := law_all hr; have hw := width_range hr; obtain ⟨i, hi, hxi⟩ := lab_hasI h hx; have hd := lab_dim h hi hxi; have hrs : InR k p n (rsS k p n ts x (partsL ts).length) := rsS_in h _ (Nat.le_refl _); have hlen : ∀ v : Nat, v < (dimOf ts x).toNat → InR k p n (mulL k p n (elt (allM k p n ts x) (widthI k n) (v : Int)) (rsS k p n ts x (partsL ts).length)) := fun v hv => mulL_in hr ((allM_ok h x).2 v hv) hrs; have hok : MsgOK k p n (dimOf ts x).toNat (mapE (dimOf ts x).toNat fun v => mulL k p n (elt (allM k p n ts x) (widthI k n) (v : Int)) (rsS k p n ts x (partsL ts).length)) := elt_msg hr hlen; have h1 := sum_none hr hd.1 (d := (dimOf ts x).toNat) (by omega) hok; rw [Int.toNat_of_nonneg (by omega)] at h1
  unfold frT
  rw [h1]; have h2 := totS_sum hr hR hok _ (Nat.le_refl _); have hin := totS_in hr hok _ (Nat.le_refl _); have hdim : ∀ y ∈ labelsL ts, 0 < dimOf ts y := fun y hy => by have := (mem_labels.1 hy).2; omega
  have e1 : toA hr (totS k p n (mapE (dimOf ts x).toNat fun v => mulL k p n (elt (allM k p n ts x) (widthI k n) (v : Int)) (rsS k p n ts x (partsL ts).length)) (dimOf ts x).toNat) = toA hr (totX k p n ts op) := by
    have hp : (labelsL ts).Perm (x :: (labelsL ts).filter fun y => decide (y ∉ [x])) := perm_iff (labels_nodup ts 100) (List.nodup_cons.2 ⟨by simp, (labels_nodup ts 100).filter _⟩) fun y => by
      simp only [List.mem_cons, List.mem_filter, decide_eq_true_eq, List.not_mem_nil, or_false]
      constructor
      · intro hy
        by_cases e : y = x
        · exact .inl e
        · exact .inr ⟨hy, e⟩
      · rintro (e | ⟨hy, _⟩)
        · rw [e]; exact hx
        · exact hy
    rw [h2, tot_sum hr hR ht (fun _ => 0), sumO_perm _ _ hp, sumO]; refine sumN_congr _ fun v hv => ?_; rw [mapE_elt hw.1 (fun v hv => (hlen v hv).1) hv]; have h3 := for_sum hr hR h hf hx (a := upd (fun _ => 0) x v) fun y hy => by
      by_cases e : y = x
      · rw [e, upd_at]; omega
      · rw [upd_ne e]; exact ⟨Int.le_refl 0, hdim y hy⟩
    rw [upd_at] at h3; exact h3.symm
  have e2 := congrArg Subtype.val e1
  rwa [toA_val hr hin, toA_val hr ht.inR] at e2
end
end Go.Proofs.YtdkgaejmgnojhaaGreat
