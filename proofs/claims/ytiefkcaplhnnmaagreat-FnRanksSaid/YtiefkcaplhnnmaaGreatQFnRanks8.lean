/-
  Ranks and positive assignments determine each other, one after the other: the law is true of every draw.
  Conditions: none.
-/
import Derived.Test.YtiefkcaplhnnmaaGreatQFnRanks7
namespace Go.Proofs.YtiefkcaplhnnmaaGreat
set_option maxRecDepth 100000
open Go.RowKit
theorem dimG_in {x : Int} (h : 0 ≤ x ∧ x ≤ 5) : 1 ≤ dimG x ∧ dimG x ≤ 3 := by
  have h1 := Int.tmod_nonneg 3 (show 0 ≤ x + 1 by omega); have h2 := Int.tmod_lt_of_pos (x + 1) (show (0 : Int) < 3 by omega)
  unfold dimG
  omega
section
variable {ls : List Int}
theorem gen_dims (h : ∀ x ∈ ls, 0 ≤ x ∧ x ≤ 5) : dimsIn (ls.map dimG) := fun j hj => by
  rw [List.length_map] at hj; rw [map_getD hj]; have := dimG_in (h _ (mem_getD hj))
  omega
theorem gen_axes (hn : ls.Nodup) (h : ∀ x ∈ ls, 0 ≤ x ∧ x ≤ 5) (hl : ls.length ≤ 3) : axesL ls (ls.map dimG) := by
  refine ⟨by omega, by simp, fun j hj => ⟨?_, ?_, nodup_not_take hn hj⟩⟩
  · have := h _ (mem_getD hj); omega
  · rw [map_getD hj]; have := dimG_in (h _ (mem_getD hj)); omega
theorem gen_prod (h : ∀ x ∈ ls, 0 ≤ x ∧ x ≤ 5) (hl : ls.length ≤ 3) : 1 ≤ prodI (ls.map dimG) ∧ prodI (ls.map dimG) ≤ 27 := by
  have M : ∀ a b A B : Int, 1 ≤ a ∧ a ≤ A → 1 ≤ b ∧ b ≤ B → 1 ≤ a * b ∧ a * b ≤ A * B := fun a b A B ha hb => by
    have h1 : 1 * 1 ≤ a * b := Int.mul_le_mul ha.1 hb.1 (by omega) (by omega); have h2 : a * b ≤ A * B := Int.mul_le_mul ha.2 hb.2 (by omega) (by omega)
    omega
  match ls, h, hl with
  | [], _, _ => exact ⟨by decide, by decide⟩
  | [a], h, _ =>
    have ha := dimG_in (h a (by simp)); have := M 1 (dimG a) 1 3 (by omega) ha
    show 1 ≤ 1 * dimG a ∧ 1 * dimG a ≤ 27
    omega
  | [a, b], h, _ =>
    have ha := dimG_in (h a (by simp)); have hb := dimG_in (h b (by simp)); have h1 := M 1 (dimG a) 1 3 (by omega) ha; have h2 := M (1 * dimG a) (dimG b) 3 3 (by omega) hb
    show 1 ≤ 1 * dimG a * dimG b ∧ 1 * dimG a * dimG b ≤ 27
    omega
  | [a, b, c], h, _ =>
    have ha := dimG_in (h a (by simp)); have hb := dimG_in (h b (by simp)); have hc := dimG_in (h c (by simp)); have h1 := M 1 (dimG a) 1 3 (by omega) ha; have h2 := M (1 * dimG a) (dimG b) 3 3 (by omega) hb; have h3 := M (1 * dimG a * dimG b) (dimG c) 9 3 (by omega) hc
    show 1 ≤ 1 * dimG a * dimG b * dimG c ∧ 1 * dimG a * dimG b * dimG c ≤ 27
    omega
end
theorem putL_in {S : Int → Prop} {xs ys : List Int} {lo : Nat} (hx : ∀ a ∈ xs, S a) (hy : ∀ a ∈ ys, S a) : ∀ a ∈ putL xs lo ys, S a := fun a ha => by
  unfold putL at ha
  rcases List.mem_append.1 ha with h | h
  · rcases List.mem_append.1 h with h | h
    · exact hx a (List.mem_of_mem_take h)
    · exact hy a h
  · exact hx a (List.mem_of_mem_drop h)
def GenT (k p n : Int) (t : Ten) : Prop := tensorL k p n t.l t.d t.x ∧ (t.l.Nodup ∧ ∀ x ∈ t.l, 0 ≤ x ∧ x ≤ 5) ∧ t.d = t.l.map dimG ∧ t.l.length ≤ 3
def FillM (k p n : Int) (vb vp : Value) (u : Value) (h : PH) : Prop := ∃ hc ht t, CurO vb vp hc ∧ TenT t u ht ∧ GenT k p n t ∧ Made h [hc, ht]
set_option maxHeartbeats 2000000 in
theorem ct_s_l05Fill (k p n : Int) (xs ls : List Int) (vb vp va vd : Value) (w : World) (h : PH) (hle : PLe h (hp w)) (rc : CurO vb vp h) (rb : BytesR xs vb (restP w h)) (rl : IntsR ls va (restP w h)) (rd : IntsR (ls.map dimG) vd (restP w h)) (hr : ringL k p n) (hn : ls.Nodup) (hs : ∀ x ∈ ls, 0 ≤ x ∧ x ≤ 5) (hl : ls.length ≤ 3) :
    Calls Tryz.prog 92 [vp, ringV k p n, va, vd].toArray w (Ret w h (FillM k p n vb vp)) := by
  have hwr := width_range hr; have htop := top_range hr; have hpr := gen_prod hs hl; have hdi := gen_dims hs; have hdl : (ls.map dimG).length ≤ 12 := by rw [List.length_map]; omega
  obtain ⟨Z, hZ⟩ : ∃ Z, Z = (List.replicate (prodI (ls.map dimG)).toNat (zeroL k p n)).flatten := ⟨_, rfl⟩
  have hz := zeroL_in hr; have hZl : Z.length = (prodI (ls.map dimG)).toNat * (widthI k n).toNat := by rw [hZ, List.length_flatten, List.map_replicate, hz.1]; simp
  have hZr : ∀ a ∈ Z, 0 ≤ a ∧ a ≤ topI k p n := fun a ha => by
    rw [hZ] at ha; obtain ⟨l, hl1, hl2⟩ := List.mem_flatten.1 ha; rw [(List.mem_replicate.1 hl1).2] at hl2; exact hz.2 a hl2
  refine calls_in Tryz.func92 rfl Tryz.ntmps92 rfl (Sat.start2 hle) ?_; have hle1 := rb.le; have hle2 := rl.le; have hle3 := rd.le; refine wp_sc (wp_sq ?_); refine sq_x rfl (x_box rfl rfl) rfl ?_; rintro _ _ ⟨b5, rfl, rfl⟩; refine sq_x rfl (x_alloc ty_55 rfl) rfl ?_; rintro _ _ ⟨b8, rfl, rfl⟩; refine sq_end (qs_n (wp_sc (wp_sq (sq_v rfl (v_loadNB 1 ty_24 rfl rfl rfl rfl) rfl (sq_v rfl (v_move rfl) rfl (sq_v rfl (v_move rfl) rfl ?_)))))); refine sq_x rfl (x_call rfl en_99 (fun w s => ct_s_l05Zero _ _ _ _ _ _ _ w hr (rl.mono (s.get 3 rfl)) (rd.mono (s.get 3 rfl)) hdi (by omega) (by omega) hdl)) rfl ?_; rintro _ h14 ⟨va14, vb14, vc14, rfl, o14⟩; refine sq_x rfl (x_alloc ty_55 rfl) rfl ?_; rintro _ _ ⟨b9, rfl, rfl⟩; refine sq_m 0 rfl rfl (m_store 0 ty_55 rfl rfl rfl rfl (by simp [o14.toR.1.sl.one, o14.toR.2.1.sl.one, o14.toR.2.2.sl.one]) rfl (Nat.le_of_ble_eq_true rfl)) rfl ?_; rintro _ _ ⟨rfl, rfl⟩; refine sq_end ?_; obtain ⟨ha14, hb14, hc14, ra14, rb14, rc14, md14⟩ := o14; rw [← hZ] at rc14; refine qs_s [box b9 [va14, vb14, vc14] 55, box b8 [.slice none 0 0, .slice none 0 0, .slice none 0 0] 55, box b5 [num k, num p, num n] 24, h, (restP w h), ha14, hb14, hc14] (fun _ s => Sat.open (A := [box b9 [va14, vb14, vc14] 55, box b8 [.slice none 0 0, .slice none 0 0, .slice none 0 0] 55, box b5 [num k, num p, num n] 24, h, (restP w h)]) md14 (s.pick [1, 0, 2, 3, 4, 5] (by decide) rfl)) ?_
  skip
  refine qs_n (wp_sc (wp_sc (wp_sq (sq_v rfl (v_assign rfl) rfl (sq_end (qs_n (wp_bl ?_))))))); refine wp_lp (σ := Nat × PH × PH × (List Int)) (fun z_ => [(0, vp), (3, vd), (5, .pointer (some ⟨b5, 0, none⟩)), (8, .pointer (some ⟨b8, 0, none⟩)), (9, .pointer (some ⟨b9, 0, none⟩)), (10, num z_.1)]) (fun z_ => [box b9 [va14, vb14, vc14] 55, box b8 [.slice none 0 0, .slice none 0 0, .slice none 0 0] 55, box b5 [num k, num p, num n] 24, z_.2.1, (restP w h), ha14, hb14, z_.2.2.1]) (fun z_ => z_.1 ≤ (prodI (ls.map dimG)).toNat ∧ z_.2.2.2.length = (prodI (ls.map dimG)).toNat * (widthI k n).toNat ∧ (∀ a ∈ z_.2.2.2, 0 ≤ a ∧ a ≤ topI k p n) ∧ CurO vb vp z_.2.1 ∧ IntsO z_.2.2.2 vc14 z_.2.2.1) (fun z_ => (prodI (ls.map dimG)).toNat - z_.1) (0, h, hc14, Z) (⟨by (try dsimp only); omega, hZl, hZr, rc, rc14⟩) ⟨rfl, rfl, rfl, rfl, rfl, (by first | rfl | exact ksub rfl (by first | omega | (simp; done) | (simp; omega))), trivial⟩ (fun _ s => s) ?_; rintro ⟨i, hc, hx, ys⟩ ⟨hi, hyl, hyr, cu, q⟩; dsimp only at hi hyl hyr cu q ⊢; have hle_q := q.toR.le; have hyb : ys.length ≤ 1000000 := by have h9 : (prodI (ls.map dimG)).toNat * (widthI k n).toNat ≤ 27 * 6 := Nat.mul_le_mul (by omega) (by omega); omega
  refine wp_sc (wp_sc (wp_sq (sq_v rfl (v_move rfl) rfl (sq_v rfl (v_move rfl) rfl (sq_u rfl (x_callv rfl en_98 (fun w s => ct_s_l05Product _ _ _ w (rd.mono (s.get 4 rfl)) hdi (by omega))) rfl (sq_v rfl (v_lss rfl rfl) rfl (sq_end (qs_n ?_)))))))); refine wp_cd rfl (fun c18 => ?_) (fun c18 => ?_)
  · refine wp_sk (qs_n (wp_sc (wp_bl (wp_rk [false, false, false, true, false, false, false, false] 6 [(0, true), (1, true), (2, true), (3, true), (4, true), (5, false), (6, false)] mixed_ok (by kernel_rfl) (rk_v rfl rfl (v_loadNB 2 ty_24 rfl rfl rfl rfl) rfl (rk_v rfl rfl (v_loadNB 0 ty_55 rfl rfl rfl rfl) rfl (rk_v rfl rfl (v_move rfl) rfl (rk_v rfl rfl (v_move rfl) rfl (rk_v rfl rfl (v_loadNB 2 ty_24 rfl rfl rfl rfl) rfl ?_))))))))); have hb9 : (i : Int) * widthI k n + widthI k n ≤ ys.length := (by have h8 : (i + 1) * (widthI k n).toNat ≤ (prodI (ls.map dimG)).toNat * (widthI k n).toNat := Nat.mul_le_mul_right _ (by omega); have h7 : (((i + 1) * (widthI k n).toNat : Nat) : Int) = (i : Int) * widthI k n + widthI k n := (by rw [Int.natCast_mul, Int.toNat_of_nonneg (by omega)]; rw [show ((i + 1 : Nat) : Int) = (i : Int) + 1 by omega, Int.add_mul, Int.one_mul]); rw [hyl, ← h7]; omega)
    refine rk_m 3 rfl rfl rfl rfl (x_call rfl en_122 (fun w s => ct_s_l02Draw k p n xs vb vp w _ (s.get 3 rfl) cu (rb.mono (s.getR 3 4 rfl rfl (by decide))) hr)) rfl ?_; rintro v26 h26 ⟨hc26, hx26, e26, cu26, r26, hin26, md26⟩; refine rk_mt 7 rfl rfl rfl rfl (x_call rfl en_103 (fun w s => ct_s_l05Put k p n i ls (ls.map dimG) ys e26 va14 vb14 vc14 v26 w _ hr (s.get 7 rfl) (ra14.toR.mono (s.getR 7 5 rfl rfl (by decide))) (rb14.toR.mono (s.getR 7 6 rfl rfl (by decide))) q (r26.toR.mono ((md26.le hx26 (by simp)).trans (s.getR 7 3 rfl rfl (by decide)))) hin26.1 (by omega) hb9 hyb)) rfl ?_; rintro _ h27 r27; refine rk_end (qs_s [box b9 [va14, vb14, vc14] 55, box b8 [.slice none 0 0, .slice none 0 0, .slice none 0 0] 55, box b5 [num k, num p, num n] 24, (restP w h), ha14, hb14, h27, hc26, hx26] (fun _ s => Sat.open (A := [box b9 [va14, vb14, vc14] 55, box b8 [.slice none 0 0, .slice none 0 0, .slice none 0 0] 55, box b5 [num k, num p, num n] 24, (restP w h), ha14, hb14, h27]) md26 (s.pick [3, 0, 1, 2, 4, 5, 6, 7] (by decide) rfl)) ?_); have hlo : ((i : Int) * widthI k n).toNat + e26.length ≤ ys.length := by have h6 := hin26.1; have h5 : 0 ≤ (i : Int) * widthI k n := Int.mul_nonneg (by omega) (by omega); omega
    refine qs_bn (qs_n (wp_sq (sq_v rfl (v_move rfl) rfl ?_))); refine sq_v rfl (v_add rfl rfl ((by unfold I64; omega))) rfl ?_; refine sq_v rfl (v_assign rfl) rfl (sq_end ?_); exact qs_bk (i + 1, hc26, h27, (putL ys ((i : Int) * widthI k n).toNat e26)) ⟨by (try dsimp only); omega, by (try dsimp only); rw [putL_len hlo]; exact hyl, putL_in hyr hin26.2, cu26, r27⟩ (by simp only; omega) ⟨rfl, rfl, rfl, rfl, rfl, (by first | rfl | exact ksub rfl (by first | omega | (simp; done) | (simp; omega))), trivial⟩ (fun _ s => s.pick [0, 1, 2, 7, 3, 4, 5, 6] (by decide) rfl)
  · refine wp_ex (qs_x (qs_x (qs_bx (qs_n (wp_sc (wp_sq (sq_v rfl (v_loadNB 0 ty_55 rfl rfl rfl rfl) rfl ?_))))))); refine sq_m 1 rfl rfl (m_store 1 ty_55 rfl rfl rfl rfl (by simp [ra14.toR.sl.one, rb14.toR.sl.one, q.toR.sl.one]) rfl (Nat.le_of_ble_eq_true rfl)) rfl ?_; rintro _ _ ⟨rfl, rfl⟩; refine sq_end (qs_n (wp_rt ?_)); refine qs_close [restP w h, hc, _] [ha14, hb14, hx] (fun _ s => s.pick [4, 3, 1, 5, 6, 7] (by decide) rfl) (fun md1 => ?_); refine qs_close [restP w h, _] [hc, joinP [ha14, hb14, hx]] (fun _ s => s.pick [1, 3, 2, 0] (by decide) rfl) (fun md2 => ?_); have hsz : sizeI ls (ls.map dimG) = prodI (ls.map dimG) := sizeI_yes (gen_axes hn hs hl) (by omega); have hgt : tensorL k p n ls (ls.map dimG) ys := ⟨hr, by rw [hsz]; omega, by rw [hsz, hyl, Int.natCast_mul, Int.toNat_of_nonneg (by omega), Int.toNat_of_nonneg (by omega)], hyr⟩
    exact qs_retc 2 rfl ty_55 rfl rfl rfl (fin_m (i := 1) 0 rfl rfl rfl ⟨hc, _, ⟨ls, ls.map dimG, ys⟩, cu, ⟨_, _, _, rfl, ha14, hb14, hx, ra14, rb14, q, md1⟩, ⟨hgt, ⟨hn, hs⟩, rfl, hl⟩, md2⟩)
end Go.Proofs.YtiefkcaplhnnmaaGreat
namespace Go.Proofs.YtiefkcaplhnnmaaGreat
set_option maxRecDepth 100000
open Go.RowKit
set_option maxHeartbeats 1000000 in
theorem ct_s_l05Draw (k p n : Int) (xs : List Int) (vb vp : Value) (w : World) (h : PH) (hle : PLe h (hp w)) (rc : CurO vb vp h) (rb : BytesR xs vb (restP w h)) (hr : ringL k p n) :
    Calls Tryz.prog 74 [vp, ringV k p n].toArray w (Ret w h (FillM k p n vb vp)) := by
  refine calls_in Tryz.func74 rfl Tryz.ntmps74 rfl (Sat.start2 hle) ?_; have hle1 := rb.le; refine wp_sc (wp_sq ?_); refine sq_x rfl (x_box rfl rfl) rfl ?_; rintro _ _ ⟨b3, rfl, rfl⟩; refine sq_x rfl (x_alloc ty_55 rfl) rfl ?_; rintro _ _ ⟨b4, rfl, rfl⟩; refine sq_end (qs_n (wp_sc (wp_sq (sq_v rfl (v_move rfl) rfl ?_)))); refine sq_m 2 rfl rfl (x_call rfl en_112 (fun w s => ct_s_l05Labels xs vb vp w _ (s.get 2 rfl) rc (rb.mono (s.getR 2 3 rfl rfl (by decide))))) rfl ?_; rintro _ h9 ⟨hc9, ha9, hd9, va9, vd9, ls9, rfl, cu9, ra9, rd9, hls9, hl9, md9⟩; refine sq_v rfl (v_move rfl) rfl (sq_v rfl (v_extract rfl rfl) rfl (sq_v rfl (v_extract rfl rfl) rfl (sq_v rfl (v_assign rfl) rfl (sq_v rfl (v_assign rfl) rfl (sq_end (qs_s [box b4 [.slice none 0 0, .slice none 0 0, .slice none 0 0] 55, box b3 [num k, num p, num n] 24, (restP w h), hc9, ha9, hd9] (fun _ s => Sat.open (A := [box b4 [.slice none 0 0, .slice none 0 0, .slice none 0 0] 55, box b3 [num k, num p, num n] 24, (restP w h)]) md9 (s.pick [2, 0, 1, 3] (by decide) rfl)) ?_))))))
  skip
  refine qs_n (wp_sc (wp_sq (sq_v rfl (v_move rfl) rfl (sq_v rfl (v_loadNB 1 ty_24 rfl rfl rfl rfl) rfl (sq_v rfl (v_move rfl) rfl (sq_v rfl (v_move rfl) rfl ?_)))))); refine sq_m 3 rfl rfl (x_call rfl en_92 (fun w s => ct_s_l05Fill k p n xs ls9 vb vp va9 vd9 w _ (s.get 3 rfl) cu9 (rb.mono (s.getR 3 2 rfl rfl (by decide))) (ra9.toR.mono (s.getR 3 4 rfl rfl (by decide))) (rd9.toR.mono (s.getR 3 5 rfl rfl (by decide))) hr hls9.1 hls9.2 hl9)) rfl ?_; rintro _ h16 ⟨hc16, ht16, t16, cu16, ⟨a16, b16, c16, rfl, o16⟩, hg16, md16⟩; refine sq_m 0 rfl rfl (m_store 0 ty_55 rfl rfl rfl rfl (by simp [o16.toR.1.sl.one, o16.toR.2.1.sl.one, o16.toR.2.2.sl.one]) rfl (Nat.le_of_ble_eq_true rfl)) rfl ?_; rintro _ _ ⟨rfl, rfl⟩; refine sq_end (qs_n (wp_rt ?_)); exact qs_retc 0 rfl ty_55 rfl rfl rfl (fin_m (i := 2) 3 rfl rfl rfl ⟨hc16, ht16, t16, cu16, ⟨_, _, _, rfl, o16⟩, hg16, md16⟩)
def GenN (k p n : Int) (ts : List Ten) (op : List Int) : Prop := (∀ t ∈ ts, GenT k p n t) ∧ ts.length ≤ 4 ∧ op.Nodup ∧ ∀ x ∈ op, x ∈ labelsL ts
def NetGM (k p n : Int) (vb vp : Value) (u : Value) (h : PH) : Prop := ∃ hc hn ts op, CurO vb vp hc ∧ NetT k p n ts op u hn ∧ GenN k p n ts op ∧ Made h [hc, hn]
end Go.Proofs.YtiefkcaplhnnmaaGreat
namespace Go.Proofs.YtiefkcaplhnnmaaGreat
set_option maxRecDepth 100000
open Go.RowKit
theorem zeroL_get {k p n : Int} (hr : ringL k p n) {i : Nat} (hi : i < (widthI k n).toNat) : (zeroL k p n).getD i 0 = if k = 4 then p else 0 := by
  unfold zeroL
  split
  · rename_i e
    rw [width_1 (by omega) (by omega)] at hi; have : i = 0 := by simp at hi; omega
    subst this; rfl
  · simp [List.getD, hi]
theorem add1_zero {k p n a : Int} (hr : ringL k p n) (ha : 0 ≤ a ∧ a ≤ topI k p n) : add1 k p (if k = 4 then p else 0) a = a := by
  unfold add1
  split
  · rename_i h; rw [if_neg (by omega)]; omega
  · split
    · rename_i h0 h; rw [if_neg (by omega)]
      have : topI k p n = p := by unfold topI; rw [if_neg (by omega), if_pos (by omega)]
      omega
    · split
      · rename_i h1 h0 h
        have : topI k p n = p := by unfold topI; rw [if_neg (by omega), if_pos (by omega)]
        omega
      · split
        · rename_i h2 h1 h0 h; simp; omega
        · rename_i h3 h2 h1 h0
          have hk : k = 2 ∨ k = 7 ∨ k = 8 := by unfold ringL at hr; omega
          have := top_poly hr hk; rw [Int.zero_add]; exact Int.tmod_eq_of_lt ha.1 (by omega)
theorem add_zero {k p n : Int} (hr : ringL k p n) {x : List Int} (hx : InR k p n x) : addL k p (zeroL k p n) x = x := by
  have hl := zeroL_len k p n; refine ext_getD (by rw [addL_len, hl, hx.1]) fun i hi => ?_; rw [addL_len, hl] at hi; rw [addL_get (by rw [hl]; exact hi), zeroL_get hr hi]; exact add1_zero hr (hx.at hr i (by rw [hx.1]; exact hi))
theorem set_same {xs : List Int} {i : Nat} (h : i < xs.length) : xs.set i (xs.getD i 0) = xs := by
  refine ext_getD (by simp) fun j hj => ?_; rw [List.length_set] at hj
  by_cases e : i = j
  · subst e; simp [List.getD, hj]
  · simp [List.getD, List.getElem?_set_ne e]
theorem step_none {k p n : Int} {x y out : List Int} {i j : Nat} (hk : k = 7 ∧ (widthI k n).toNat ≤ 6 ∨ k = 8) (hp : 1 ≤ p) (ho : PolyIn k p n out) (hj : y.getD j 0 = 0) (hij : 4 ≤ i + j → k = 8 → i + j - 4 < out.length) : mulStep k p x y out i j = out := by
  have h0 : ∀ m, (out.getD m 0).tmod p = out.getD m 0 := fun m => by
    have := ho.at hp m; exact Int.tmod_eq_of_lt this.1 (by omega)
  unfold mulStep
  split
  · rename_i h
    rw [hj, Int.mul_zero, Int.add_zero, h0, set_same h]
  · split
    · rename_i h h8
      rw [hj, Int.mul_zero, Int.add_zero, h0]; have hw : out.length = 4 := by rw [ho.1, widthI, if_neg (by omega), if_pos h8]; rfl
      exact set_same (hij (by omega) h8)
    · rfl
theorem step_one {k p n : Int} {x y out : List Int} {i : Nat} (hi : i < out.length) (hj : y.getD 0 0 = 1) : mulStep k p x y out i 0 = out.set i ((out.getD i 0 + x.getD i 0).tmod p) := by
  unfold mulStep
  rw [Nat.add_zero, if_pos hi, hj, Int.mul_one]
theorem row_one {k p n : Int} {x y out : List Int} {i : Nat} (hk : k = 7 ∧ (widthI k n).toNat ≤ 6 ∨ k = 8) (hp : 2 ≤ p) (hx : PolyIn k p n x) (ho : PolyIn k p n out) (hi : i < out.length) (h1 : y.getD 0 0 = 1) (h0 : ∀ j, 0 < j → y.getD j 0 = 0) (hl : out.length ≤ 6) (hyl : y.length = out.length) :
    ∀ m, m + 1 ≤ y.length → mulRow k p x y i out (m + 1) = out.set i ((out.getD i 0 + x.getD i 0).tmod p)
  | 0, _ => by
    rw [mulRow_step]
    show mulStep k p x y (mulRow k p x y i out 0) i 0 = _
    rw [show mulRow k p x y i out 0 = out from rfl]; exact step_one (n := n) hi h1
  | m + 1, hm => by
    have ih := row_one hk hp hx ho hi h1 h0 hl hyl m (by omega); have hin : PolyIn k p n (out.set i ((out.getD i 0 + x.getD i 0).tmod p)) := ho.set _ (tmod_in (by have := (ho.at (by omega) i).1; have := (hx.at (by omega) i).1; omega) (by omega)); rw [mulRow_step, ih]; refine step_none hk (by omega) hin (h0 _ (by omega)) (fun h4 h8 => ?_); rw [List.length_set]; have hw : out.length = 4 := by rw [ho.1, widthI, if_neg (by omega), if_pos h8]; rfl
    omega
theorem to_one {k p n : Int} {x y : List Int} (hk : k = 7 ∧ (widthI k n).toNat ≤ 6 ∨ k = 8) (hp : 2 ≤ p) (hx : PolyIn k p n x) (h1 : y.getD 0 0 = 1) (h0 : ∀ j, 0 < j → y.getD j 0 = 0) (hl : x.length ≤ 6) (hl1 : 1 ≤ x.length) (hyl : y.length = x.length) :
    ∀ m, m ≤ x.length → mulTo k p x y (List.replicate x.length 0) m = x.take m ++ List.replicate (x.length - m) 0
  | 0, _ => by simp [mulTo]
  | m + 1, hm => by
    have ih := to_one hk hp hx h1 h0 hl hl1 hyl m (by omega); have hout : PolyIn k p n (x.take m ++ List.replicate (x.length - m) 0) := ⟨by rw [← hx.1]; simp; omega, fun a ha => by
      rcases List.mem_append.1 ha with h | h
      · exact hx.2 a (List.mem_of_mem_take h)
      · rw [List.eq_of_mem_replicate h]; omega⟩
    have hol : (x.take m ++ List.replicate (x.length - m) (0 : Int)).length = x.length := by simp; omega
    rw [mulTo_step, ih]; obtain ⟨q, hq⟩ : ∃ q, y.length = q + 1 := ⟨y.length - 1, by omega⟩
    rw [hq, row_one hk hp hx hout (by rw [hol]; omega) h1 h0 (by rw [hol]; exact hl) (by rw [hol]; exact hyl) q (by omega)]; have hz : (x.take m ++ List.replicate (x.length - m) (0 : Int)).getD m 0 = 0 := by
      have hlt : (x.take m).length = m := by simp; omega
      simp only [List.getD]; rw [List.getElem?_append_right (by omega), hlt, Nat.sub_self]
      simp [show 0 < x.length - m by omega]
    have hxm := hx.at (by omega : 1 ≤ p) m; rw [hz, Int.zero_add, Int.tmod_eq_of_lt hxm.1 (by omega)]; have hlt : (x.take m).length = m := by simp; omega
    obtain ⟨r, hr⟩ : ∃ r, x.length - m = r + 1 := ⟨x.length - m - 1, by omega⟩
    rw [List.set_append_right _ _ (by omega), hlt, Nat.sub_self, hr, List.replicate_succ, List.set_cons_zero, show x.length - (m + 1) = r by omega, List.take_succ_eq_append_getElem (by omega), List.append_assoc]
    congr 1
    simp [List.getD, show m < x.length by omega]
theorem one_poly {k p n : Int} (hk : k = 1 ∨ k = 2 ∨ k = 3 ∨ k = 7 ∨ k = 8) (hw : 1 ≤ (widthI k n).toNat) : (oneL k p n).getD 0 0 = 1 ∧ ∀ j, 0 < j → (oneL k p n).getD j 0 = 0 := by
  have e : oneL k p n = (List.replicate (widthI k n).toNat 0).set 0 1 := by unfold oneL; rw [if_neg (by omega), if_neg (by omega)]
  rw [e]; refine ⟨by simp [List.getD, show 0 < (widthI k n).toNat by omega], fun j hj => ?_⟩
  show ((List.replicate (widthI k n).toNat (0 : Int)).set 0 1)[j]?.getD 0 = 0
  rw [List.getElem?_set_ne (by omega)]
  cases h : (List.replicate (widthI k n).toNat (0 : Int))[j]? with
  | none => rfl
  | some z => exact List.eq_of_mem_replicate (List.mem_of_getElem? h)
theorem mul_one {k p n : Int} (hr : ringL k p n) {x : List Int} (hx : InR k p n x) : mulL k p n x (oneL k p n) = x := by
  have hlen := hx.len hr; have hx0 := hx.at hr 0 (by omega); have hwd : 1 ≤ (widthI k n).toNat := by have := hx.1; omega
  have hsing : k ≠ 7 → k ≠ 8 → x = [x.getD 0 0] := fun h7 h8 => by
    have h1 := hx.1; rw [width_1 h7 h8] at h1
    match x, h1 with
    | [a], _ => rfl
  unfold mulL
  by_cases h15 : k = 1 ∨ k = 5
  · rw [if_pos h15]; have h1 : (oneL k p n).getD 0 0 = topI k p n := by
      rcases h15 with h | h
      · rw [(one_poly (.inl h) hwd).1]; unfold topI; rw [if_pos h]
      · unfold oneL; rw [if_neg (by omega), if_pos (.inl h)]; rfl
    rw [h1, Int.min_eq_left hx0.2]; exact (hsing (by omega) (by omega)).symm
  · rw [if_neg h15]
    by_cases h2 : k = 2
    · rw [if_pos h2, (one_poly (.inr (.inl h2)) hwd).1, Int.mul_one]; have := top_poly hr (.inl h2); rw [Int.tmod_eq_of_lt hx0.1 (by omega)]; exact (hsing (by omega) (by omega)).symm
    · rw [if_neg h2]
      by_cases h3 : k = 3
      · rw [if_pos h3, (one_poly (.inr (.inr (.inl h3))) hwd).1, Int.mul_one]; have : topI k p n = p := by unfold topI; rw [if_neg (by omega), if_pos (by omega)]
        rw [Int.min_eq_left (by omega)]; exact (hsing (by omega) (by omega)).symm
      · rw [if_neg h3]
        by_cases h4 : k = 4
        · have e : (oneL k p n).getD 0 0 = 0 := by unfold oneL; rw [if_pos h4]; rfl
          have : topI k p n = p := by unfold topI; rw [if_neg (by omega), if_pos (by omega)]
          rw [if_pos h4, e, Int.add_zero, Int.min_eq_left (by omega)]; exact (hsing (by omega) (by omega)).symm
        · rw [if_neg h4]
          by_cases h6 : k = 6
          · have ht : topI k p n = 2 ^ n.toNat - 1 := by unfold topI; rw [if_neg (by omega), if_neg (by omega), if_pos h6]
            have e : (oneL k p n).getD 0 0 = 2 ^ n.toNat - 1 := by unfold oneL; rw [if_neg h4, if_pos (.inr h6), ht]; rfl
            have hc : ((2 ^ n.toNat : Nat) : Int) = (2 : Int) ^ n.toNat := by simp
            have hpos : 0 < 2 ^ n.toNat := Nat.two_pow_pos _; have e2 : ((2 : Int) ^ n.toNat - 1).toNat = 2 ^ n.toNat - 1 := by omega
            rw [if_pos h6, e, e2, Nat.and_two_pow_sub_one_eq_mod, Nat.mod_eq_of_lt (by omega), Int.toNat_of_nonneg hx0.1]; exact (hsing (by omega) (by omega)).symm
          · rw [if_neg h6]; have hk : k = 7 ∨ k = 8 := by unfold ringL at hr; omega
            have htp := top_poly hr (.inr hk); have ho := one_poly (p := p) (n := n) (k := k) (by omega) hwd; have hk' : k = 7 ∧ (widthI k n).toNat ≤ 6 ∨ k = 8 := by rcases hk with h | h; exact .inl ⟨h, by have := hx.1; omega⟩; exact .inr h
            have := to_one hk' htp.2.1 (hx.poly hr (.inr hk)) ho.1 ho.2 hlen.2.1 hlen.1 (by rw [oneL_len, hx.1]) x.length (Nat.le_refl _); rw [← hx.1, this]
            simp
end Go.Proofs.YtiefkcaplhnnmaaGreat
namespace Go.Proofs.YtiefkcaplhnnmaaGreat
set_option maxRecDepth 100000
open Go.RowKit
theorem at_off {f : Int → Int} {L ls : List Int} (hn : L.Nodup) (hl : ls.Nodup) (hs : ∀ l ∈ ls, l ∈ L) (m : Int) : atI f L ls m = offL (ls.map f) (idxAt L (idxL (L.map f) m) ls) := by
  unfold atI dotL; rw [stepsL_len]; exact dot_off hn (by simp) hl hs
structure ValOK (k p n : Int) (ts : List Ten) (op : List Int) : Prop where
  net : netL k p n ts op
  work : prodI (dimsFor ts (labelsL ts)) ≤ 65536
theorem ValOK.nd {k p n : Int} {ts : List Ten} {op : List Int} (_ : ValOK k p n ts op) : (labelsL ts).Nodup := labels_nodup ts 100
section
variable {k p n : Int} {ts : List Ten} {op : List Int} (h : ValOK k p n ts op)
include h
theorem ValOK.f : ∀ x ∈ labelsL ts, 1 ≤ dimOf ts x ∧ dimOf ts x ≤ 8 := fun x hx => by
  have h1 := mem_labels.1 hx; have h2 := dimOf_range (net_ax h.net) x
  omega
theorem ValOK.opn : op.Nodup := axes_nodup (sizeI_ge.1 h.net.2.2.2.2).1
theorem ValOK.sub : ∀ l ∈ op, l ∈ labelsL ts := fun l hl => by
  obtain ⟨j, hj, rfl⟩ := getD_of_mem hl; have := open_at h.net.2.2.2.2 hj; exact mem_labels.2 ⟨by omega, by omega⟩
theorem ValOK.at_k (m : Int) : 0 ≤ atI (dimOf ts) (labelsL ts) op m ∧ atI (dimOf ts) (labelsL ts) op m < prodI (dimsFor ts op) := at_in h.nd h.opn h.sub h.f m
theorem ValOK.dims : ∀ d ∈ dimsFor ts (labelsL ts), 1 ≤ d ∧ d ≤ 8 := map_dim h.f fun _ h => h
theorem ValOK.odims : ∀ d ∈ dimsFor ts op, 1 ≤ d ∧ d ≤ 8 := map_dim h.f h.sub
theorem ValOK.idx (m : Int) : AtOK k p n ts (labelsL ts) (idxL (dimsFor ts (labelsL ts)) m) := by
  have hi := idxL_in (fun d hd => (h.dims d hd).1) m; exact assign_at (op := op) ⟨h.net, hi.1, fun j hj => hi.2 j (by rw [← hi.1]; exact hj)⟩
end
noncomputable def valX (k p n : Int) (ts : List Ten) (op : List Int) : Nat → List Int
  | 0 => (List.replicate (prodI (dimsFor ts op)).toNat (zeroL k p n)).flatten
  | m + 1 => putL (valX k p n ts op m) (atI (dimOf ts) (labelsL ts) op m * widthI k n).toNat
      (addL k p (elt (valX k p n ts op m) (widthI k n) (atI (dimOf ts) (labelsL ts) op m)) (weightTo k p n (labelsL ts) (idxL (dimsFor ts (labelsL ts)) m) ts))
section
variable {k p n : Int} {ts : List Ten} {op : List Int} (h : ValOK k p n ts op)
include h
theorem ValOK.weight (m : Int) : InR k p n (weightTo k p n (labelsL ts) (idxL (dimsFor ts (labelsL ts)) m) ts) := by
  have := weight_in (h.idx m) ts.length (Nat.le_refl _)
  rwa [List.take_length] at this
theorem ValOK.all : ∀ m : Nat, AllR k p n (prodI (dimsFor ts op)) (valX k p n ts op m)
  | 0 => AllR.zero h.net.1 (by have := prodI_one fun d hd => (h.odims d hd).1; omega)
  | m + 1 => (ValOK.all m).put h.net.1 (h.at_k m).1 (h.at_k m).2 (addL_in h.net.1 ((ValOK.all m).el h.net.1 (h.at_k m).1 (h.at_k m).2) (h.weight m))
theorem ValOK.small (m : Nat) : (valX k p n ts op m).length ≤ 24576 := by
  have hw := width_range h.net.1; have := (h.all m).1; have h3 : prodI (dimsFor ts op) * widthI k n ≤ 4096 * 6 := Int.mul_le_mul (sizeI_ge.1 h.net.2.2.2.2).2 hw.2 (by omega) (by omega)
  omega
theorem ValOK.fits (m : Nat) : atI (dimOf ts) (labelsL ts) op m * widthI k n + widthI k n ≤ (valX k p n ts op m).length := by
  have hw := width_range h.net.1; have := (h.all m).1; have := (mul_room (show 0 ≤ widthI k n by omega) (h.at_k m).1 (h.at_k m).2).2
  omega
end
end Go.Proofs.YtiefkcaplhnnmaaGreat
namespace Go.Proofs.YtiefkcaplhnnmaaGreat
set_option maxRecDepth 100000
open Go.RowKit
theorem step_zero {k p n : Int} {x y out : List Int} {i j : Nat} (hk : k = 7 ∧ (widthI k n).toNat ≤ 6 ∨ k = 8) (hp : 1 ≤ p) (ho : PolyIn k p n out) (hy : PolyIn k p n y) (hi : x.getD i 0 = 0) (hij : 4 ≤ i + j → k = 8 → i + j - 4 < out.length) : mulStep k p x y out i j = out := by
  have h0 : ∀ m, (out.getD m 0).tmod p = out.getD m 0 := fun m => by
    have := ho.at hp m; exact Int.tmod_eq_of_lt this.1 (by omega)
  unfold mulStep
  split
  · rename_i h
    rw [hi, Int.zero_mul, Int.add_zero, h0, set_same h]
  · split
    · rename_i h h8
      have hw : out.length = 4 := by rw [ho.1, widthI, if_neg (by omega), if_pos h8]; rfl
      have hz := ho.at hp (i + j - 4); have hyj := hy.at hp j; have e : (out.getD (i + j - 4) 0 + (p - x.getD i 0) * y.getD j 0).tmod p = out.getD (i + j - 4) 0 := by
        rw [hi, Int.sub_zero]; have hm : 0 ≤ p * y.getD j 0 := Int.mul_nonneg (by omega) hyj.1; rw [Int.tmod_eq_emod_of_nonneg (by omega), Int.add_mul_emod_self_left]; exact Int.emod_eq_of_lt hz.1 (by omega)
      rw [e]; exact set_same (hij (by omega) h8)
    · rfl
theorem row_zero {k p n : Int} {x y out : List Int} {i : Nat} (hk : k = 7 ∧ (widthI k n).toNat ≤ 6 ∨ k = 8) (hp : 1 ≤ p) (ho : PolyIn k p n out) (hy : PolyIn k p n y) (hi : x.getD i 0 = 0) (hil : i < out.length) (hyl : y.length = out.length) :
    ∀ m, m ≤ y.length → mulRow k p x y i out m = out
  | 0, _ => rfl
  | m + 1, hm => by
    rw [mulRow_step, row_zero hk hp ho hy hi hil hyl m (by omega)]; refine step_zero hk hp ho hy hi (fun h4 h8 => ?_); have hw : out.length = 4 := by rw [ho.1, widthI, if_neg (by omega), if_pos h8]; rfl
    omega
theorem row_copy {k p n : Int} {x y : List Int} (hk : k = 7 ∧ (widthI k n).toNat ≤ 6 ∨ k = 8) (hp : 2 ≤ p) (hy : PolyIn k p n y) (h1 : x.getD 0 0 = 1) :
    ∀ m, m ≤ y.length → mulRow k p x y 0 (List.replicate y.length 0) m = y.take m ++ List.replicate (y.length - m) 0
  | 0, _ => by simp [mulRow]
  | m + 1, hm => by
    rw [mulRow_step, row_copy hk hp hy h1 m (by omega)]; have hlt : (y.take m).length = m := by simp; omega
    have hol : (y.take m ++ List.replicate (y.length - m) (0 : Int)).length = y.length := by simp; omega
    have hz : (y.take m ++ List.replicate (y.length - m) (0 : Int)).getD m 0 = 0 := by
      simp only [List.getD]; rw [List.getElem?_append_right (by omega), hlt, Nat.sub_self]
      simp [show 0 < y.length - m by omega]
    have hym := hy.at (by omega : 1 ≤ p) m
    unfold mulStep
    rw [Nat.zero_add, if_pos (by rw [hol]; omega), hz, h1, Int.one_mul, Int.zero_add, Int.tmod_eq_of_lt hym.1 (by omega)]; obtain ⟨r, hr⟩ : ∃ r, y.length - m = r + 1 := ⟨y.length - m - 1, by omega⟩
    rw [List.set_append_right _ _ (by omega), hlt, Nat.sub_self, hr, List.replicate_succ, List.set_cons_zero, show y.length - (m + 1) = r by omega, List.take_succ_eq_append_getElem (by omega), List.append_assoc]
    congr 1
    simp [List.getD, show m < y.length by omega]
theorem one_to {k p n : Int} {x y : List Int} (hk : k = 7 ∧ (widthI k n).toNat ≤ 6 ∨ k = 8) (hp : 2 ≤ p) (hy : PolyIn k p n y) (h1 : x.getD 0 0 = 1) (h0 : ∀ j, 0 < j → x.getD j 0 = 0) (hl : x.length = y.length) :
    ∀ m, m + 1 ≤ x.length → mulTo k p x y (List.replicate y.length 0) (m + 1) = y
  | 0, h => by
    rw [mulTo_step]
    show mulRow k p x y 0 (List.replicate y.length 0) y.length = y
    rw [row_copy hk hp hy h1 y.length (Nat.le_refl _), Nat.sub_self, List.take_length]
    simp
  | m + 1, h => by
    rw [mulTo_step, one_to hk hp hy h1 h0 hl m (by omega)]; exact row_zero hk (by omega) hy hy (h0 _ (by omega)) (by omega) rfl y.length (Nat.le_refl _)
theorem one_mul {k p n : Int} (hr : ringL k p n) {x : List Int} (hx : InR k p n x) : mulL k p n (oneL k p n) x = x := by
  have hlen := hx.len hr; have hx0 := hx.at hr 0 (by omega); have hwd : 1 ≤ (widthI k n).toNat := by have := hx.1; omega
  by_cases hk : k = 7 ∨ k = 8
  · have htp := top_poly hr (.inr hk); have ho := one_poly (p := p) (n := n) (k := k) (by omega) hwd; have hk' : k = 7 ∧ (widthI k n).toNat ≤ 6 ∨ k = 8 := by rcases hk with h | h; exact .inl ⟨h, by have := hx.1; omega⟩; exact .inr h
    have hol := oneL_len k p n; obtain ⟨q, hq⟩ : ∃ q, (oneL k p n).length = q + 1 := ⟨(oneL k p n).length - 1, by omega⟩
    have := one_to hk' htp.2.1 (hx.poly hr (.inr hk)) ho.1 ho.2 (by rw [hol, hx.1]) q (by omega)
    unfold mulL
    rw [if_neg (by omega), if_neg (by omega), if_neg (by omega), if_neg (by omega), if_neg (by omega), hq, ← hx.1]; exact this
  · have hm := mul_one hr hx; have e : mulL k p n (oneL k p n) x = mulL k p n x (oneL k p n) := by
      unfold mulL
      split
      · rw [Int.min_comm]
      · split
        · rw [Int.mul_comm]
        · split
          · rw [Int.mul_comm]
          · split
            · rw [Int.add_comm]
            · split
              · rw [Nat.and_comm]
              · exfalso
                unfold ringL at hr
                omega
    rw [e, hm]
end Go.Proofs.YtiefkcaplhnnmaaGreat
namespace Go.Proofs.YtiefkcaplhnnmaaGreat
set_option maxRecDepth 100000
open Go.RowKit
def meetP (t u : Ten) : Prop := ∃ x ∈ t.l, x ∈ u.l
def mrgX (a b x : Int) : Int := if x = max a b then min a b else x
def mrgI (P : List Int) (a b : Int) (m : Nat) : List Int := (P.take m).map (mrgX a b) ++ P.drop m
theorem mrgI_zero (P : List Int) (a b : Int) : mrgI P a b 0 = P := by simp [mrgI]
theorem mrgI_len (P : List Int) (a b : Int) (m : Nat) : (mrgI P a b m).length = P.length := by simp [mrgI]; omega
theorem mrgI_step {P : List Int} {a b : Int} {m : Nat} (h : m < P.length) : mrgI P a b (m + 1) = (mrgI P a b m).set m (mrgX a b (P.getD m 0)) := by
  have hl : ((P.take m).map (mrgX a b)).length = m := by simp; omega
  unfold mrgI
  rw [List.set_append_right _ _ (by omega), hl, Nat.sub_self, List.drop_eq_getElem_cons h, List.set_cons_zero, List.take_succ_eq_append_getElem h, List.map_append, List.append_assoc]
  congr 1
  simp [List.getD, h]
open Classical in
noncomputable def ptI (ts : List Ten) (P : List Int) (i : Nat) : Nat → List Int
  | 0 => P
  | m + 1 => if meetP (ts.getD i noTen) (ts.getD m noTen) then mrgI (ptI ts P i m) ((ptI ts P i m).getD i 0) ((ptI ts P i m).getD m 0) P.length else ptI ts P i m
theorem ptI_len {ts : List Ten} {P : List Int} {i : Nat} : ∀ m, (ptI ts P i m).length = P.length
  | 0 => rfl
  | m + 1 => by
    rw [ptI]
    split
    · rw [mrgI_len]; exact ptI_len m
    · exact ptI_len m
def inP (m : Nat) (P : List Int) : Prop := ∀ j, j < P.length → 0 ≤ P.getD j 0 ∧ P.getD j 0 < m
theorem inP.mrg {m : Nat} {P : List Int} {a b : Int} (h : inP m P) (ha : 0 ≤ a ∧ a < m) (hb : 0 ≤ b ∧ b < m) : ∀ q, q ≤ P.length → inP m (mrgI P a b q)
  | 0, _ => by rw [mrgI_zero]; exact h
  | q + 1, hq => by
    have ih := inP.mrg h ha hb q (by omega); intro j hj; rw [mrgI_len] at hj; rw [mrgI_step (by omega)]
    by_cases e : q = j
    · subst e; simp only [List.getD]; rw [List.getElem?_set_self (by rw [mrgI_len]; omega)]
      show 0 ≤ mrgX a b (P.getD q 0) ∧ mrgX a b (P.getD q 0) < m
      have := h q (by omega)
      unfold mrgX
      split <;> omega
    · have := ih j (by rw [mrgI_len]; exact hj); simp only [List.getD] at this ⊢; rw [List.getElem?_set_ne e]; exact this
theorem inP.pt {ts : List Ten} {n : Nat} {P : List Int} {i : Nat} (h : inP n P) (hi : i < P.length) : ∀ m, m ≤ P.length → inP n (ptI ts P i m)
  | 0, _ => h
  | m + 1, hm => by
    have ih := h.pt (ts := ts) hi m (by omega); have hl := ptI_len (ts := ts) (P := P) (i := i) m; rw [ptI]
    split
    · exact ih.mrg (ih i (by omega)) (ih m (by omega)) _ (by omega)
    · exact ih
/-- What each part is. -/
structure PartL (ts : List Ten) (l : List Int) : Prop where
  ne : l ≠ []
  nd : l.Nodup
  inr : ∀ x ∈ l, 0 ≤ x ∧ x < ts.length
theorem PartL.len {ts : List Ten} {l : List Int} (h : PartL ts l) : l.length ≤ ts.length := by
  have h2 := pigeon (m := (List.range ts.length).map Int.ofNat) h.nd fun x hx => by
    have := h.inr x hx; exact List.mem_map.2 ⟨x.toNat, List.mem_range.2 (by omega), by show ((x.toNat : Nat) : Int) = x; omega⟩
  simpa using h2
section
variable {k p n : Int} {ts : List Ten} {op : List Int}
end
end Go.Proofs.YtiefkcaplhnnmaaGreat
namespace Go.Proofs.YtiefkcaplhnnmaaGreat
set_option maxRecDepth 100000
open Go.RowKit
def LR (l : List Int) (cs : List Value) (h : PH) : Prop := ∃ v, cs = [v] ∧ IntsR l v h
theorem LR.mono {l : List Int} {cs : List Value} {h h' : PH} (r : LR l cs h) (q : PLe h h') : LR l cs h' := by
  obtain ⟨v, e, r1⟩ := r; exact ⟨v, e, r1.mono q⟩
def LLR (bs : List (List Int)) (v : Value) (h : PH) : Prop := RowsR 1 LR bs v h
theorem LLR.mono {bs : List (List Int)} {v : Value} {h h' : PH} (r : LLR bs v h) (l : PLe h h') : LLR bs v h' := RowsR.mono (R := LR) LR.mono r l
theorem LLR.sl {bs : List (List Int)} {v : Value} {h : PH} (r : LLR bs v h) : SlL v bs.length := RowsR.sl r
theorem LLR.le {bs : List (List Int)} {v : Value} {h : PH} (r : LLR bs v h) : (bs.length : Int) ≤ 9223372036854775807 := RowsR.le r
theorem LLR.at {bs : List (List Int)} {v : Value} {h : PH} (r : LLR bs v h) : ∃ cells, RowR cells bs.length 1 v h ∧ ∀ i, i < bs.length → ∃ l a, bs[i]? = some l ∧ (cells.drop (i * 1)).take 1 = [a] ∧ IntsR l a h := by
  obtain ⟨cells, rr, hc⟩ := r; refine ⟨cells, rr, fun i hi => ?_⟩; have ht : bs[i]? = some bs[i] := List.getElem?_eq_getElem hi; obtain ⟨a, e, r1⟩ := hc i _ ht; exact ⟨_, a, ht, e, r1⟩
/-- Lists that own their parts. -/
def LLO (bs : List (List Int)) (v : Value) (h : PH) : Prop := ∃ vs h0 hs, RowO 27 vs bs.length 1 v h0 ∧ OwnL bs vs hs ∧ Made h (h0 :: hs)
theorem LLO.toR {bs : List (List Int)} {v : Value} {h : PH} (r : LLO bs v h) : LLR bs v h := by
  obtain ⟨vs, h0, hs, r0, o, m⟩ := r; refine ⟨vs, r0.toR.mono (m.le h0 (by simp)), fun i x hx => ?_⟩; obtain ⟨a, g, e1, e2, q⟩ := o.own i x hx; refine ⟨a, ?_, q.toR.mono (m.le g (by simp [List.mem_of_getElem? e2]))⟩
  apply List.ext_getElem?
  intro j; rw [List.getElem?_take]
  match j with
  | 0 => simpa using e1
  | j + 1 => rw [if_neg (by omega)]; simp
def DecO (bs : List (List Int)) (ps : List Int) (a b : Value) (h : PH) : Prop := ∃ h1 h2, LLO bs a h1 ∧ IntsO ps b h2 ∧ Made h [h1, h2]
theorem DecO.toR {bs : List (List Int)} {ps : List Int} {a b : Value} {h : PH} (r : DecO bs ps a b h) : LLR bs a h ∧ IntsR ps b h := by
  obtain ⟨h1, h2, r1, r2, m⟩ := r; exact ⟨r1.toR.mono (m.le h1 (by simp)), r2.toR.mono (m.le h2 (by simp))⟩
theorem OwnL.one {l : List Int} {a : Value} {h : PH} (r : IntsO l a h) : OwnL [l] [a] [h] := by
  refine ⟨rfl, rfl, fun i xs e => ?_⟩
  match i, e with
  | 0, e => cases e; exact ⟨a, h, rfl, rfl, r⟩
  | i + 1, e => simp at e
end Go.Proofs.YtiefkcaplhnnmaaGreat
namespace Go.Proofs.YtiefkcaplhnnmaaGreat
set_option maxRecDepth 100000
open Go.RowKit
section
variable {P : Program} {n : Nat} {w0 : World} {K : Env} {HS : List PH} {d : Option Tmp} {ty : TypeId} {ps : String} {af : Array Edge} {g : Option (Nat × Bool)}
end
theorem Made.one (h : PH) : Made h [h] := ⟨⟨fun x hx => (List.not_mem_nil hx).elim, trivial⟩, fun x hx => by rw [List.mem_singleton.1 hx]; exact PLe.refl _, fun k o e => ⟨h, List.mem_singleton.2 rfl, e⟩⟩
theorem OwnL.uno {xs : List Int} {v : Value} {h : PH} (r : IntsO xs v h) : OwnL [xs] [v] [h] := by
  refine ⟨rfl, rfl, fun i ys e => ?_⟩
  match i, e with
  | 0, e => cases e; exact ⟨v, h, rfl, rfl, r⟩
  | i + 1, e => simp at e
theorem OwnH.add {xss : List (List Int)} {xs : List Int} {vs : List Value} {v : Value} {h h' : PH} (o : OwnH xss vs h) (r : IntsO xs v h') (hd : PDj h h') : OwnH (xss ++ [xs]) (vs ++ [v]) (PUn h h') := by
  obtain ⟨l, ol, m⟩ := o; exact ⟨l ++ [h'], ol.append (OwnL.uno r), m.un (Made.one h') hd⟩
theorem LLO.of {bs : List (List Int)} {cs : List Value} {v : Value} {h ha hl : PH} (rr : RowO 27 cs bs.length 1 v ha) (o : OwnH bs cs hl) (md : Made h [ha, hl]) : LLO bs v h := by
  obtain ⟨l, ol, ml⟩ := o; refine ⟨cs, ha, l, rr, ol, ⟨⟨fun x hx => ?_, ml.sep⟩, fun x hx => ?_, fun k o e => ?_⟩⟩
  · exact ((md.sep.1 hl (by simp)).symm.mono (ml.le x hx)).symm
  · rcases List.mem_cons.1 hx with rfl | hx
    · exact md.le _ (by simp)
    · exact (ml.le x hx).trans (md.le hl (by simp))
  · obtain ⟨x, hx, hxe⟩ := md.dom k o e
    rcases List.mem_cons.1 hx with rfl | hx
    · exact ⟨x, by simp, hxe⟩
    · rw [List.mem_singleton.1 hx] at hxe; obtain ⟨y, hy, hye⟩ := ml.dom k o hxe; exact ⟨y, by simp [hy], hye⟩
end Go.Proofs.YtiefkcaplhnnmaaGreat
namespace Go.Proofs.YtiefkcaplhnnmaaGreat
set_option maxRecDepth 100000
open Go.RowKit
theorem TensL.drop {us : List Ten} {cs : List Value} {h : PH} (hT : TensL us cs h) (m : Nat) (hm : m ≤ us.length) : TensL (us.drop m) (cs.drop (m * 3)) h := by
  refine ⟨by rw [List.length_drop, List.length_drop, hT.1]; omega, fun i t e => ?_⟩; rw [List.getElem?_drop] at e; have := hT.2 (m + i) t e; rw [List.drop_drop, show m * 3 + i * 3 = (m + i) * 3 by omega]; exact this
end Go.Proofs.YtiefkcaplhnnmaaGreat
namespace Go.Proofs.YtiefkcaplhnnmaaGreat
set_option maxRecDepth 100000
open Go.RowKit
section
variable {k p n : Int} {ts : List Ten} {op ls : List Int}
end
/-- A slice of rows of which nothing is wanted by itself. -/
structure Row0 : Prop where
theorem Row0.at (_ : Row0) : ∃ _ _ : Unit, True := ⟨(), (), trivial⟩
theorem TensL.append {a b : List Ten} {ca cb : List Value} {h : PH} (ra : TensL a ca h) (rb : TensL b cb h) : TensL (a ++ b) (ca ++ cb) h := by
  refine ⟨by rw [List.length_append, List.length_append, ra.1, rb.1]; omega, fun i t e => ?_⟩
  by_cases hi : i < a.length
  · rw [List.getElem?_append_left hi] at e; have := ra.2 i t e; have e2 : ((ca ++ cb).drop (i * 3)).take 3 = (ca.drop (i * 3)).take 3 := by
      rw [List.drop_append, List.take_append]; have hl : 3 - (ca.drop (i * 3)).length = 0 := by rw [List.length_drop, ra.1]; omega
      rw [hl, List.take_zero, List.append_nil]
    rw [e2]; exact this
  · rw [List.getElem?_append_right (by omega)] at e; have := rb.2 _ t e; have e2 : ((ca ++ cb).drop (i * 3)).take 3 = (cb.drop ((i - a.length) * 3)).take 3 := by
      rw [List.drop_append, List.drop_of_length_le (by rw [ra.1]; omega), List.nil_append, ra.1, show i * 3 - a.length * 3 = (i - a.length) * 3 by omega]
    rw [e2]; exact this
theorem tensL_of {us : List Ten} {cs : List Value} {v : Value} {h h' : PH} (rr : RowR cs us.length 3 v h') (hc : ∀ i, i < us.length → ∃ t a b c, us[i]? = some t ∧ (cs.drop (i * 3)).take 3 = [a, b, c] ∧ IntsR t.l a h ∧ IntsR t.d b h ∧ IntsR t.x c h) : TensL us cs h :=
  ⟨rr.1, fun i t e => by
    obtain ⟨u, a, b, c, e1, e2, r1, r2, r3⟩ := hc i (List.getElem?_eq_some_iff.1 e).1; rw [e] at e1
    cases e1
    exact ⟨a, b, c, e2, r1, r2, r3⟩⟩
end Go.Proofs.YtiefkcaplhnnmaaGreat
namespace Go.Proofs.YtiefkcaplhnnmaaGreat
set_option maxRecDepth 100000
open Go.RowKit
structure Opr where
  k : Int
  a : Int
  b : Int
  c : Int
  l : List Int
def OpR (o : Opr) (cs : List Value) (h : PH) : Prop := ∃ v, cs = [num o.k, num o.a, num o.b, num o.c, v] ∧ IntsR o.l v h
theorem OpR.mono {o : Opr} {cs : List Value} {h h' : PH} (r : OpR o cs h) (l : PLe h h') : OpR o cs h' := by
  obtain ⟨v, e, r1⟩ := r; exact ⟨v, e, r1.mono l⟩
def OpsR (os : List Opr) (v : Value) (h : PH) : Prop := RowsR 5 OpR os v h
theorem OpsR.mono {os : List Opr} {v : Value} {h h' : PH} (r : OpsR os v h) (l : PLe h h') : OpsR os v h' := RowsR.mono (R := OpR) OpR.mono r l
theorem OpsR.sl {os : List Opr} {v : Value} {h : PH} (r : OpsR os v h) : SlL v os.length := RowsR.sl r
theorem OpsR.le {os : List Opr} {v : Value} {h : PH} (r : OpsR os v h) : (os.length : Int) ≤ 9223372036854775807 := RowsR.le r
theorem OpsR.at {os : List Opr} {v : Value} {h : PH} (r : OpsR os v h) : ∃ cells, RowR cells os.length 5 v h ∧ ∀ i, i < os.length → ∃ o a, os[i]? = some o ∧ (cells.drop (i * 5)).take 5 = [num o.k, num o.a, num o.b, num o.c, a] ∧ IntsR o.l a h := by
  obtain ⟨cells, rr, hc⟩ := r; refine ⟨cells, rr, fun i hi => ?_⟩; have ht : os[i]? = some os[i] := List.getElem?_eq_getElem hi; obtain ⟨a, e, r1⟩ := hc i _ ht; exact ⟨_, a, ht, e, r1⟩
theorem OpsR.subH {os : List Opr} {v : Value} {h : PH} (r : OpsR os v h) {hi : Nat} (h2 : hi ≤ os.length) : OpsR (os.take hi) (subV v 0 hi 5) h := by
  obtain ⟨cells, rr, hc⟩ := r; have := RowR.sub rr (Nat.zero_le hi) h2; refine ⟨_, by rw [List.length_take, Nat.min_eq_left h2]; simpa using this, fun i x hx => ?_⟩; have hlt : i < hi := by
    have := (List.getElem?_eq_some_iff.1 hx).1
    simp at this; omega
  have hx' : os[i]? = some x := by rwa [List.getElem?_take, if_pos hlt] at hx
  have := hc i x hx'; have e : ((cells.take ((hi - 0) * 5)).drop (i * 5)).take 5 = (cells.drop (i * 5)).take 5 := by
    rw [List.drop_take, List.take_take]
    congr 1
    omega
  show OpR x (((((cells.drop (0 * 5)).take ((hi - 0) * 5))).drop (i * 5)).take 5) h
  rw [Nat.zero_mul, List.drop_zero, e]; exact this
structure OpL (os : List Opr) (cs : List Value) (hs : List PH) : Prop where
  l1 : cs.length = os.length * 5
  l2 : hs.length = os.length
  own : ∀ (i : Nat) (o : Opr), os[i]? = some o → ∃ v h, (cs.drop (i * 5)).take 5 = [num o.k, num o.a, num o.b, num o.c, v] ∧ hs[i]? = some h ∧ IntsO o.l v h
theorem OpL.nil : OpL [] [] [] := ⟨rfl, rfl, fun i xs h => by simp at h⟩
theorem OpL.snoc {os : List Opr} {cs : List Value} {hs : List PH} (r : OpL os cs hs) {o : Opr} {v : Value} {h : PH} (q : IntsO o.l v h) : OpL (os ++ [o]) (cs ++ [num o.k, num o.a, num o.b, num o.c, v]) (hs ++ [h]) := by
  refine ⟨by simp [r.l1]; omega, by simp [r.l2], fun i y e => ?_⟩
  by_cases hi : i < os.length
  · rw [List.getElem?_append_left hi] at e; have e2 : ((cs ++ [num o.k, num o.a, num o.b, num o.c, v]).drop (i * 5)).take 5 = (cs.drop (i * 5)).take 5 := by
      rw [List.drop_append, List.take_append]; have hl : 5 - (cs.drop (i * 5)).length = 0 := by simp [r.l1]; omega
      rw [hl, List.take_zero, List.append_nil]
    rw [e2, List.getElem?_append_left (by rw [r.l2]; exact hi)]; exact r.own i y e
  · have hlt := (List.getElem?_eq_some_iff.1 e).1
    simp at hlt
    have : i = os.length := by omega
    subst this; rw [List.getElem?_append_right (by omega)] at e
    simp at e
    subst e; refine ⟨v, h, ?_, ?_, q⟩
    · rw [← r.l1, List.drop_left]; rfl
    · rw [← r.l2, List.getElem?_append_right (by omega)]; simp
end Go.Proofs.YtiefkcaplhnnmaaGreat
namespace Go.Proofs.YtiefkcaplhnnmaaGreat
set_option maxRecDepth 100000
open Go.RowKit
structure Mach where
  S : List Ten
  F : List Bool
  D : List Bool
/-- A register's labels. -/
def Mach.ten (s : Mach) (i : Nat) : Ten := s.S.getD i noTen
def Mach.lab (s : Mach) (i : Nat) : List Int := if s.F.getD i false = true then (s.ten i).l else []
def tenF (f : Int → Int) (t : Ten) : Prop := t.d = t.l.map f ∧ t.l.Nodup ∧ (∀ x ∈ t.l, 0 ≤ x ∧ x ≤ 99) ∧ ∀ x ∈ t.l, 1 ≤ f x ∧ f x ≤ 8
theorem tenF.few {f : Int → Int} {t : Ten} (h : tenF f t) : t.l.length ≤ 100 := few_labels h.2.1 h.2.2.1
theorem tenF_no (f : Int → Int) : tenF f noTen := ⟨rfl, List.nodup_nil, fun x h => (List.not_mem_nil h).elim, fun x h => (List.not_mem_nil h).elim⟩
structure Mach.ok (f : Int → Int) (s : Mach) : Prop where
  len : s.S.length = s.F.length
  ten : ∀ t ∈ s.S, tenF f t
theorem Mach.ok.at {f : Int → Int} {s : Mach} (h : s.ok f) (i : Nat) : tenF f (s.ten i) := by
  unfold Mach.ten
  by_cases hi : i < s.S.length
  · have : s.S.getD i noTen = s.S[i] := by simp [List.getD, hi]
    rw [this]; exact h.ten _ (List.getElem_mem hi)
  · have : s.S.getD i noTen = noTen := by simp [List.getD, Nat.le_of_not_lt hi]
    rw [this]; exact tenF_no f
def regIn (s : Mach) (a : Int) : Prop := 0 ≤ a ∧ a < s.F.length
instance (s : Mach) (a : Int) : Decidable (regIn s a) := by unfold regIn; infer_instance
noncomputable def keepI (s : Mach) (o : Opr) : List Int := (joinI (s.ten o.b.toNat).l (s.ten o.c.toNat).l).filter fun x => decide (x ∈ o.l)
noncomputable def Mach.load (ts : List Ten) (s : Mach) (o : Opr) : Mach := ⟨s.S.set o.a.toNat (ts.getD o.b.toNat noTen), s.F.set o.a.toNat true, s.D.set o.b.toNat true⟩
noncomputable def Mach.pair (f : Int → Int) (s : Mach) (o : Opr) : Mach := ⟨s.S.set o.a.toNat ⟨keepI s o, (keepI s o).map f, []⟩, ((s.F.set o.b.toNat false).set o.c.toNat false).set o.a.toNat true, s.D⟩
noncomputable def Mach.next (f : Int → Int) (ts : List Ten) (s : Mach) (o : Opr) : Mach := if o.k = 1 then s.load ts o else s.pair f o
theorem set_ok {f : Int → Int} {S : List Ten} (h : ∀ t ∈ S, tenF f t) {i : Nat} {t : Ten} (ht : tenF f t) : ∀ u ∈ S.set i t, tenF f u := fun u hu => by
  rcases List.mem_or_eq_of_mem_set hu with hu | rfl
  · exact h u hu
  · exact ht
theorem keepI_ok {f : Int → Int} {s : Mach} (h : s.ok f) (o : Opr) : tenF f ⟨keepI s o, (keepI s o).map f, []⟩ := by
  have hb := h.at o.b.toNat; have hc := h.at o.c.toNat; have hm : ∀ x ∈ keepI s o, x ∈ (s.ten o.b.toNat).l ∨ x ∈ (s.ten o.c.toNat).l := fun x hx => mem_joinI.1 (List.mem_filter.1 hx).1; exact ⟨rfl, List.Pairwise.filter _ (joinI_nodup hb.2.1 hc.2.1), fun x hx => (hm x hx).elim (hb.2.2.1 x) (hc.2.2.1 x), fun x hx => (hm x hx).elim (hb.2.2.2 x) (hc.2.2.2 x)⟩
theorem Mach.ok.next {f : Int → Int} {ts : List Ten} {s : Mach} (h : s.ok f) (hts : ∀ t ∈ ts, tenF f t) (o : Opr) : (s.next f ts o).ok f := by
  unfold Mach.next
  split
  · refine ⟨by simp [Mach.load, h.len], set_ok h.ten ?_⟩
    by_cases hi : o.b.toNat < ts.length
    · have e : ts.getD o.b.toNat noTen = ts[o.b.toNat] := by simp [List.getD, hi]
      rw [e]; exact hts _ (List.getElem_mem hi)
    · have e : ts.getD o.b.toNat noTen = noTen := by simp [List.getD, Nat.le_of_not_lt hi]
      rw [e]; exact tenF_no f
  · exact ⟨by simp [Mach.pair, h.len], set_ok h.ten (keepI_ok h o)⟩
end Go.Proofs.YtiefkcaplhnnmaaGreat
namespace Go.Proofs.YtiefkcaplhnnmaaGreat
set_option maxRecDepth 100000
open Go.RowKit
theorem TensL.blank (h : PH) : ∀ m, TensL (List.replicate m noTen) (List.replicate m [Value.slice none 0 0, .slice none 0 0, .slice none 0 0]).flatten h
  | 0 => TensL.nil h
  | m + 1 => by
    have := (TensL.blank h m).snoc (t := noTen) (IntsR.nil h) (IntsR.nil h) (IntsR.nil h); rw [← List.replicate_succ'] at this; rw [show (List.replicate (m + 1) [Value.slice none 0 0, .slice none 0 0, .slice none 0 0]).flatten = (List.replicate m [Value.slice none 0 0, .slice none 0 0, .slice none 0 0]).flatten ++ [Value.slice none 0 0, .slice none 0 0, .slice none 0 0] by rw [List.replicate_succ', List.flatten_append]; simp]; exact this
theorem TensL.put {ts : List Ten} {cs : List Value} {h : PH} (r : TensL ts cs h) {i : Nat} {t : Ten} {a b c : Value} (hi : i < ts.length) (r1 : IntsR t.l a h) (r2 : IntsR t.d b h) (r3 : IntsR t.x c h) : TensL (ts.set i t) (cs.take (i * 3) ++ [a, b, c] ++ cs.drop (i * 3 + 3)) h := by
  have hl := r.1; have key : ∀ m, (m < i * 3 ∨ i * 3 + 3 ≤ m) → (cs.take (i * 3) ++ [a, b, c] ++ cs.drop (i * 3 + 3))[m]? = cs[m]? := fun m hm => by
    rcases hm with hm | hm
    · rw [List.append_assoc, List.getElem?_append_left (by simp; omega), List.getElem?_take, if_pos hm]
    · rw [List.getElem?_append_right (by simp; omega)]; simp only [List.length_append, List.length_take, List.length_cons, List.length_nil, List.getElem?_drop]
      congr 1
      omega
  refine ⟨by simp [hl]; omega, fun j y e => ?_⟩
  by_cases hj : j = i
  · subst hj; rw [List.getElem?_set_self hi] at e
    cases e
    have e2 : ((cs.take (j * 3) ++ [a, b, c] ++ cs.drop (j * 3 + 3)).drop (j * 3)).take 3 = [a, b, c] := by
      have e3 : (cs.take (j * 3)).length = j * 3 := by simp; omega
      rw [List.append_assoc, List.drop_append, e3, Nat.sub_self, List.drop_of_length_le (by omega), List.nil_append, List.drop_zero]
      rfl
    rw [e2]; exact ⟨a, b, c, rfl, r1, r2, r3⟩
  · rw [List.getElem?_set_ne (Ne.symm hj)] at e; have e2 : ((cs.take (i * 3) ++ [a, b, c] ++ cs.drop (i * 3 + 3)).drop (j * 3)).take 3 = (cs.drop (j * 3)).take 3 := by
      apply List.ext_getElem?
      intro m; rw [List.getElem?_take, List.getElem?_take]
      split
      · rw [List.getElem?_drop, List.getElem?_drop, key _ (by omega)]
      · rfl
    rw [e2]; exact r.2 j y e
end Go.Proofs.YtiefkcaplhnnmaaGreat
namespace Go.Proofs.YtiefkcaplhnnmaaGreat
set_option maxRecDepth 100000
open Go.RowKit
structure Reg where
  f : Bool
  l : List Int
def RegR (x : Reg) (cs : List Value) (h : PH) : Prop := ∃ v, cs = [.bool x.f, v] ∧ IntsR x.l v h
theorem RegR.mono {x : Reg} {cs : List Value} {h h' : PH} (r : RegR x cs h) (l : PLe h h') : RegR x cs h' := by
  obtain ⟨v, e, r1⟩ := r; exact ⟨v, e, r1.mono l⟩
def RegsR (xs : List Reg) (v : Value) (h : PH) : Prop := RowsR 2 RegR xs v h
theorem RegsR.mono {xs : List Reg} {v : Value} {h h' : PH} (r : RegsR xs v h) (l : PLe h h') : RegsR xs v h' := RowsR.mono (R := RegR) RegR.mono r l
theorem RegsR.sl {xs : List Reg} {v : Value} {h : PH} (r : RegsR xs v h) : SlL v xs.length := RowsR.sl r
theorem RegsR.le {xs : List Reg} {v : Value} {h : PH} (r : RegsR xs v h) : (xs.length : Int) ≤ 9223372036854775807 := RowsR.le r
theorem RegsR.at {xs : List Reg} {v : Value} {h : PH} (r : RegsR xs v h) : ∃ cells, RowR cells xs.length 2 v h ∧ ∀ i, i < xs.length → ∃ x a, xs[i]? = some x ∧ (cells.drop (i * 2)).take 2 = [.bool x.f, a] ∧ IntsR x.l a h := by
  obtain ⟨cells, rr, hc⟩ := r; refine ⟨cells, rr, fun i hi => ?_⟩; have ht : xs[i]? = some xs[i] := List.getElem?_eq_getElem hi; obtain ⟨a, e, r1⟩ := hc i _ ht; exact ⟨_, a, ht, e, r1⟩
def Mach.regs (s : Mach) : List Reg := (List.range s.F.length).map fun i => ⟨s.F.getD i false, s.lab i⟩
abbrev mcCells (k p n : Int) (vt vo vr vd : Value) : List Value := [num k, num p, num n, vt, vo, vr, vd]
structure McR (k p n : Int) (s : Mach) (vt vo vr vd : Value) (b : Nat) (h : PH) : Prop where
  c : ∀ (j : Nat) (u : Value), (mcCells k p n vt vo vr vd)[j]? = some u → cellP h b j = some u
  r : RegsR s.regs vr h
  d : BoolsR s.D vd h
theorem McR.mono {k p n : Int} {s : Mach} {vt vo vr vd : Value} {b : Nat} {h h' : PH} (m : McR k p n s vt vo vr vd b h) (l : PLe h h') : McR k p n s vt vo vr vd b h' := ⟨fun j u e => cellP.mono l (m.c j u e), m.r.mono l, m.d.mono l⟩
def goodL (l : List Int) : Prop := l.Nodup ∧ ∀ y ∈ l, 0 ≤ y ∧ y ≤ 99
theorem goodL.few {l : List Int} (h : goodL l) : l.length ≤ 100 := few_labels h.1 h.2
theorem goodL.join {a b : List Int} (ha : goodL a) (hb : goodL b) : goodL (joinI a b) := ⟨joinI_nodup ha.1 hb.1, fun y hy => (mem_joinI.1 hy).elim (ha.2 y) (hb.2 y)⟩
end Go.Proofs.YtiefkcaplhnnmaaGreat
namespace Go.Proofs.YtiefkcaplhnnmaaGreat
set_option maxRecDepth 100000
open Go.RowKit
def RegL (xs : List Reg) (cs : List Value) (h : PH) : Prop := cs.length = xs.length * 2 ∧ ∀ (i : Nat) (x : Reg), xs[i]? = some x → RegR x ((cs.drop (i * 2)).take 2) h
theorem RegL.mono {xs : List Reg} {cs : List Value} {h h' : PH} (r : RegL xs cs h) (l : PLe h h') : RegL xs cs h' := ⟨r.1, fun i x e => (r.2 i x e).mono l⟩
theorem RegL.regs {xs : List Reg} {cs : List Value} {v : Value} {h : PH} (r : RegL xs cs h) (rr : RowR cs xs.length 2 v h) : RegsR xs v h := ⟨cs, rr, r.2⟩
theorem RegL.blank (r : Nat) (h : PH) : RegL (List.replicate r ⟨false, []⟩) (List.replicate r [Value.bool false, .slice none 0 0]).flatten h := by
  have hl : ∀ l ∈ List.replicate r [Value.bool false, .slice none 0 0], l.length = 2 := fun l hl => by rw [List.eq_of_mem_replicate hl]; rfl
  refine ⟨by rw [flat_length hl]; simp, fun i x hx => ?_⟩; have e : x = ⟨false, []⟩ := List.eq_of_mem_replicate (List.mem_of_getElem? hx); have hi := (List.getElem?_eq_some_iff.1 hx).1; rw [List.length_replicate] at hi; rw [flat_get hl (l := [Value.bool false, .slice none 0 0]) (by simp [hi]), e]; exact ⟨_, rfl, IntsR.nil _⟩
theorem RegL.put {xs : List Reg} {cs : List Value} {h : PH} (r : RegL xs cs h) {i : Nat} {b : Bool} {l : List Int} {v : Value} (hi : i < xs.length) (r1 : IntsR l v h) : RegL (xs.set i ⟨b, l⟩) (cs.take (i * 2) ++ [.bool b, v] ++ cs.drop (i * 2 + 2)) h := by
  have hl := r.1; have key : ∀ m, (m < i * 2 ∨ i * 2 + 2 ≤ m) → (cs.take (i * 2) ++ [.bool b, v] ++ cs.drop (i * 2 + 2))[m]? = cs[m]? := fun m hm => by
    rcases hm with hm | hm
    · rw [List.append_assoc, List.getElem?_append_left (by simp; omega), List.getElem?_take, if_pos hm]
    · rw [List.getElem?_append_right (by simp; omega)]; simp only [List.length_append, List.length_take, List.length_cons, List.length_nil, List.getElem?_drop]
      congr 1
      omega
  refine ⟨by simp [hl]; omega, fun j y e => ?_⟩
  by_cases hj : j = i
  · subst hj; rw [List.getElem?_set_self hi] at e
    cases e
    have e2 : ((cs.take (j * 2) ++ [.bool b, v] ++ cs.drop (j * 2 + 2)).drop (j * 2)).take 2 = [.bool b, v] := by
      have e3 : (cs.take (j * 2)).length = j * 2 := by simp; omega
      rw [List.append_assoc, List.drop_append, e3, Nat.sub_self, List.drop_of_length_le (by omega), List.nil_append, List.drop_zero]
      rfl
    rw [e2]; exact ⟨v, rfl, r1⟩
  · rw [List.getElem?_set_ne (Ne.symm hj)] at e; have e2 : ((cs.take (i * 2) ++ [.bool b, v] ++ cs.drop (i * 2 + 2)).drop (j * 2)).take 2 = (cs.drop (j * 2)).take 2 := by
      apply List.ext_getElem?
      intro m; rw [List.getElem?_take, List.getElem?_take]
      split
      · rw [List.getElem?_drop, List.getElem?_drop, key _ (by omega)]
      · rfl
    rw [e2]; exact r.2 j y e
end Go.Proofs.YtiefkcaplhnnmaaGreat
namespace Go.Proofs.YtiefkcaplhnnmaaGreat
set_option maxRecDepth 100000
open Go.RowKit
theorem OwnH.tensR {us : List Ten} {cs : List Value} {v : Value} {ha hl H : PH} (o : OwnH (flat us) cs hl) (rr : RowR cs us.length 3 v ha) (la : PLe ha H) (ll : PLe hl H) : TensR us v H :=
  ((tensL_of rr o.at).mono ll).tens (rr.mono la)
end Go.Proofs.YtiefkcaplhnnmaaGreat
namespace Go.Proofs.YtiefkcaplhnnmaaGreat
set_option maxRecDepth 100000
open Go.RowKit
def FillR (k p n : Int) (vb vp : Value) (u : Value) (h : PH) : Prop := ∃ hc ht t a b c, u = tenV a b c ∧ CurO vb vp hc ∧ TriO t a b c ht ∧ GenT k p n t ∧ Made h [hc, ht] ∧ IntsR t.l a h ∧ IntsR t.d b h ∧ IntsR t.x c h
theorem ct_s_l05DrawR (k p n : Int) (xs : List Int) (vb vp : Value) (w : World) (h : PH) (hle : PLe h (hp w)) (rc : CurO vb vp h) (rb : BytesR xs vb (restP w h)) (hr : ringL k p n) :
    Calls Tryz.prog 74 [vp, ringV k p n].toArray w (Ret w h (FillR k p n vb vp)) :=
  (ct_s_l05Draw k p n xs vb vp w h hle rc rb hr).mono fun e w' ⟨u, h', he, up, hc, ht, t, cu, ⟨a, b, c, hu, o⟩, hg, md⟩ =>
    ⟨u, h', he, up, hc, ht, t, a, b, c, hu, cu, o, hg, md, o.toR.1.mono (md.le ht (by simp)), o.toR.2.1.mono (md.le ht (by simp)), o.toR.2.2.mono (md.le ht (by simp))⟩
set_option maxHeartbeats 2000000 in
theorem ct_s_l12Net (k p n : Int) (xs : List Int) (vb vp : Value) (w : World) (h : PH) (hle : PLe h (hp w)) (rc : CurO vb vp h) (rb : BytesR xs vb (restP w h)) (hr : ringL k p n) :
    Calls Tryz.prog 35 [vp, ringV k p n, num 4].toArray w (Ret w h (NetGM k p n vb vp)) := by
  refine calls_in Tryz.func35 rfl Tryz.ntmps35 rfl (Sat.start2 hle) ?_; have hle1 := rb.le; refine wp_sc (wp_sq ?_); refine sq_x rfl (x_box rfl rfl) rfl ?_; rintro _ _ ⟨b4, rfl, rfl⟩; refine sq_x rfl (x_alloc ty_29 rfl) rfl ?_; rintro _ _ ⟨b6, rfl, rfl⟩; refine sq_end (qs_n (wp_sc (wp_sq (sq_v rfl (v_loadNB 1 ty_24 rfl rfl rfl rfl) rfl (sq_v rfl (v_build [num k, num p, num n, .slice none 0 0, .slice none 0 0] rfl (by kernel_rfl)) rfl ?_))))); refine sq_x rfl (x_alloc ty_29 rfl) rfl ?_; rintro _ _ ⟨b7, rfl, rfl⟩; refine sq_m 0 rfl rfl (m_store 0 ty_29 rfl rfl rfl rfl (by simp [one_int, one_sl]) rfl (Nat.le_of_ble_eq_true rfl)) rfl ?_; rintro _ _ ⟨rfl, rfl⟩; refine sq_end (qs_n (wp_sc (wp_sc (wp_sq (sq_v rfl (v_move rfl) rfl (sq_v rfl (v_move rfl) rfl ?_)))))); refine sq_v rfl (v_add rfl rfl ((by unfold I64; omega))) rfl ?_; refine sq_m 3 rfl rfl (x_call rfl en_71 (fun w s => ct_s_l01Below _ _ _ _ w _ (s.get 3 rfl) rc (rb.mono (s.getR 3 4 rfl rfl (by decide))) (by omega))) rfl ?_; rintro _ h16 ⟨x16, rfl, hx16, hy16, cu16⟩; refine sq_v rfl (v_assign rfl) rfl (sq_end (qs_n (wp_bl ?_))); refine wp_lp (σ := Int × PH × Value × PH × (List Value) × PH × (List Ten)) (fun z_ => [(0, vp), (4, .pointer (some ⟨b4, 0, none⟩)), (6, .pointer (some ⟨b6, 0, none⟩)), (7, .pointer (some ⟨b7, 0, none⟩)), (8, num z_.1)]) (fun z_ => [z_.2.2.2.1, z_.2.2.2.2.2.1, box b7 [num k, num p, num n, z_.2.2.1, .slice none 0 0] 29, box b6 [num 0, num 0, num 0, .slice none 0 0, .slice none 0 0] 29, box b4 [num k, num p, num n] 24, z_.2.1, (restP w h)]) (fun z_ => (0 ≤ z_.1 ∧ z_.1 + z_.2.2.2.2.2.2.length ≤ 4) ∧ OwnH (flat z_.2.2.2.2.2.2) z_.2.2.2.2.1 z_.2.2.2.2.2.1 ∧ (∀ t ∈ z_.2.2.2.2.2.2, GenT k p n t) ∧ CurO vb vp z_.2.1 ∧ RowO (55) z_.2.2.2.2.1 z_.2.2.2.2.2.2.length 3 z_.2.2.1 z_.2.2.2.1) (fun z_ => z_.1.toNat) (x16, h16, .slice none 0 0, emp, [], emp, []) (⟨by (try dsimp only); simp; omega, OwnH.nil, (fun t ht => (List.not_mem_nil ht).elim), cu16, RowO.nil⟩) ⟨rfl, rfl, rfl, rfl, (by first | rfl | exact ksub rfl (by first | omega | (simp; done) | (simp; omega))), trivial⟩ (fun _ s => (emp_sat (emp_sat s))) ?_; rintro ⟨e, hc, vt, ht, cs, ho, ts⟩ ⟨he, how, hts, cu, q⟩; dsimp only at he how hts cu q ⊢; refine wp_sc (wp_sc (wp_sq (sq_v rfl (v_move rfl) rfl (sq_v rfl (v_gtr rfl rfl) rfl (sq_end (qs_n ?_)))))); refine wp_cd rfl (fun c18 => ?_) (fun c18 => ?_)
  · refine wp_sk (qs_n (wp_sc (wp_bl (wp_rk [false, false, false, false, false, true, false] 6 [(0, true), (1, true), (2, true), (3, true), (4, false), (5, false), (6, false), (7, false), (8, false)] mixed_ok (by kernel_rfl) (rk_v rfl rfl (v_fieldAddr fd_29_1 ty_26 (by decide) rfl) rfl (rk_v rfl rfl (v_loadB 2 ty_26 rfl rfl rfl) rfl (rk_v rfl rfl (v_move rfl) rfl (rk_v rfl rfl (v_loadNB 4 ty_24 rfl rfl rfl rfl) rfl ?_)))))))); refine rk_m 5 rfl rfl rfl rfl (x_call rfl en_74 (fun w s => ct_s_l05DrawR k p n xs vb vp w _ (s.get 5 rfl) cu (rb.mono (s.getR 5 6 rfl rfl (by decide))) hr)) rfl ?_; rintro _ h25 ⟨hc25, ht25, t25, a25, b25, c25, rfl, cu25, o25, hg25, md25, ra25, rb25, rc25⟩; refine rk_x rfl rfl (x_buildS [.agg [a25, b25, c25].toArray] Tryz.underlying26 ty_55 (by decide) rfl rfl rfl (by decide) (by decide) (by intro v hv; simp at hv; subst hv; rfl)) rfl ?_; intro v26 h26 (r26 : RowO 55 [a25, b25, c25] 1 3 v26 h26); refine rk_mt 1 rfl rfl rfl rfl (m_append 1 0 Tryz.underlying26 ty_55 rfl rfl (by decide) rfl rfl rfl q rfl r26.toR (by simp [ra25.sl.one, rb25.sl.one, rc25.sl.one]) (by unfold maxLen; omega) (by omega)) rfl ?_; intro v27 h_r27 (r27 : RowO 55 (cs ++ [a25, b25, c25]) (ts.length + 1) 3 v27 h_r27); refine rk_fv rfl rfl (v_fieldAddr fd_29_1 ty_26 (by decide) rfl) rfl ?_; refine rk_mt 3 rfl rfl rfl rfl (m_store1 3 ty_26 rfl rfl r27.toR.sl.one rfl (Nat.le_of_ble_eq_true rfl)) rfl ?_; rintro _ _ ⟨rfl, rfl⟩; refine rk_end (qs_s [h26, h_r27, ho, box b7 [num k, num p, num n, v27, .slice none 0 0] 29, box b6 [num 0, num 0, num 0, .slice none 0 0, .slice none 0 0] 29, box b4 [num k, num p, num n] 24, (restP w h), hc25, ht25] (fun _ s => Sat.open (A := [h26, h_r27, ho, box b7 [num k, num p, num n, v27, .slice none 0 0] 29, box b6 [num 0, num 0, num 0, .slice none 0 0, .slice none 0 0] 29, box b4 [num k, num p, num n] 24, (restP w h)]) md25 (s.pick [6, 0, 1, 2, 3, 4, 5, 7] (by decide) rfl)) ?_); refine qs_dj 2 8 rfl rfl rfl (fun hd1 => ?_); refine qs_s [PUn ho ht25, _, _, _, _, _, _] (fun _ s => Sat.merge (s.pick [2, 8, 6, 7, 1, 3, 4, 5] (by decide) rfl)) (qs_bn (qs_n (wp_sq (sq_v rfl (v_move rfl) rfl ?_)))); refine sq_v rfl (v_sub rfl rfl ((by unfold I64; omega))) rfl ?_; refine sq_v rfl (v_assign rfl) rfl (sq_end ?_); exact qs_bk ((e - 1), hc25, v27, h_r27, (cs ++ [a25, b25, c25]), (PUn ho ht25), (ts ++ [t25])) ⟨by (try dsimp only); simp; omega, how.snoc o25 hd1, (fun t h9 => by rcases List.mem_append.1 h9 with h8 | h8; exact hts t h8; rw [List.mem_singleton.1 h8]; exact hg25), cu25, by (try dsimp only); rw [List.length_append]; exact r27⟩ (by simp only; omega) ⟨rfl, rfl, rfl, rfl, (by first | rfl | exact ksub rfl (by first | omega | (simp; done) | (simp; omega))), trivial⟩ (fun _ s => s.pick [3, 0, 4, 5, 6, 2, 1] (by decide) rfl)
  · refine wp_ex (qs_x (qs_x (qs_bx (qs_n (wp_sc (wp_sc (wp_sq (sq_v rfl (v_move rfl) rfl (sq_v rfl (v_fieldAddr fd_29_1 ty_26 (by decide) rfl) rfl (sq_v rfl (v_loadB 2 ty_26 rfl rfl rfl) rfl ?_)))))))))); refine sq_x rfl (x_call rfl en_76 (fun w s => ct_s_l12Labels ts _ w (OwnH.tensR how q.toR (s.get 0 rfl) (s.get 1 rfl)) (fun t h9 => axes_ok (tensor_axes (hts t h9).1)))) rfl ?_; rintro v32 h32 r32; have hlb : (labelsL ts).length ≤ 100 := labels_len ts 100; refine sq_m 6 rfl rfl (x_call rfl en_75 (fun w s => ct_s_l06Shuffle (fun x => x ∈ labelsL ts) xs (labelsL ts) vb vp v32 w _ (s.get 6 rfl) cu (rb.mono (s.getR 6 7 rfl rfl (by decide))) (r32.toR.mono (s.getR 6 0 rfl rfl (by decide))) (labels_nodup ts 100) (fun _ h9 => h9) (by omega))) rfl ?_; rintro v33 h33 ⟨hc33, hx33, ys33, cu33, r33, hl33, hn33, hs33, md33⟩; refine sq_v rfl (v_len Tryz.underlying27 rfl (r33.toR.mono (md33.le hx33 (by simp))).sl) rfl (sq_v rfl (v_move rfl) rfl (sq_end (qs_s [h32, ht, ho, box b7 [num k, num p, num n, vt, .slice none 0 0] 29, box b6 [num 0, num 0, num 0, .slice none 0 0, .slice none 0 0] 29, box b4 [num k, num p, num n] 24, (restP w h), hc33, hx33] (fun _ s => Sat.open (A := [h32, ht, ho, box b7 [num k, num p, num n, vt, .slice none 0 0] 29, box b6 [num 0, num 0, num 0, .slice none 0 0, .slice none 0 0] 29, box b4 [num k, num p, num n] 24, (restP w h)]) md33 (s.pick [6, 0, 1, 2, 3, 4, 5, 7] (by decide) rfl)) ?_)))
    skip
    refine qs_n (wp_bl ?_); refine wp_lp (σ := Nat × PH × Value × PH × (List Int)) (fun z_ => [(0, vp), (6, .pointer (some ⟨b6, 0, none⟩)), (7, .pointer (some ⟨b7, 0, none⟩)), (29, vp), (33, v33), (34, num ys33.length), (35, num z_.1)]) (fun z_ => [z_.2.2.2.1, h32, ht, ho, box b7 [num k, num p, num n, vt, z_.2.2.1] 29, box b6 [num 0, num 0, num 0, .slice none 0 0, .slice none 0 0] 29, box b4 [num k, num p, num n] 24, (restP w h), z_.2.1, hx33]) (fun z_ => z_.1 ≤ ys33.length ∧ z_.2.2.2.2.length ≤ z_.1 ∧ (z_.2.2.2.2.Nodup ∧ ∀ x ∈ z_.2.2.2.2, x ∈ ys33.take z_.1) ∧ CurO vb vp z_.2.1 ∧ IntsO z_.2.2.2.2 z_.2.2.1 z_.2.2.2.1) (fun z_ => ys33.length - z_.1) (0, hc33, .slice none 0 0, emp, []) (⟨by (try dsimp only); omega, Nat.le_refl _, ⟨List.nodup_nil, fun x hx => (List.not_mem_nil hx).elim⟩, cu33, IntsO.nil⟩) ⟨rfl, rfl, rfl, rfl, rfl, rfl, (by first | rfl | exact ksub rfl (by first | omega | (simp; done) | (simp; omega))), trivial⟩ (fun _ s => (emp_sat s)) ?_; rintro ⟨j, hc, vo, hop, op⟩ ⟨hj, hol, hon, cu2, qo⟩; dsimp only at hj hol hon cu2 qo ⊢; have hle_qo := qo.toR.le; refine wp_sc (wp_sq (sq_v rfl (v_lss rfl rfl) rfl (sq_end (qs_n (wp_sc ?_))))); refine wp_cd rfl (fun c36 => ?_) (fun c36 => ?_)
    · refine wp_sk (qs_n (wp_sc (wp_bl (wp_sc (wp_sq ?_))))); refine sq_v rfl (v_idxI Tryz.underlying27 ty_3 rfl rfl r33.toR (by first | omega | (simp; omega) | (simp only [List.length_append, List.length_cons, List.length_nil]; omega) | (rw [List.length_set]; omega)) (by first | omega | (simp; omega) | (simp only [List.length_append, List.length_cons, List.length_nil]; omega) | (rw [List.length_set]; omega))) rfl ?_; refine sq_v rfl (v_loadI (k := j) 9 ty_3 rfl rfl r33.toR (by first | omega | (simp; omega) | (simp only [List.length_append, List.length_cons, List.length_nil]; omega) | (rw [List.length_set]; omega))) rfl ?_; refine sq_v rfl (v_assign rfl) rfl (sq_end ?_); have htk : ys33.take (j + 1) = ys33.take j ++ [ys33.getD j 0] := take_succ (by omega); have hnt := nodup_not_take hn33 (show j < ys33.length by omega); refine qs_n (wp_sc (wp_sq (sq_v rfl (v_move rfl) rfl ?_))); refine sq_m 8 rfl rfl (x_call rfl en_77 (fun w s => ct_s_l01Once _ _ _ _ w _ (s.get 8 rfl) cu2 (rb.mono (s.getR 8 7 rfl rfl (by decide))) (by omega))) rfl ?_; rintro _ h40 ⟨y40, rfl, cu40⟩; refine sq_end (qs_n ?_); refine wp_cb _ rfl (fun c40 => ?_) (fun c40 => ?_)
      · refine wp_sq (sq_v rfl (v_fieldAddr fd_29_2 ty_27 (by decide) rfl) rfl (sq_v rfl (v_loadB 4 ty_27 rfl rfl rfl) rfl (sq_v rfl (v_move rfl) rfl ?_))); refine sq_x rfl (x_buildS [num (ys33.getD j 0)] Tryz.underlying27 ty_3 (by decide) rfl rfl rfl (by decide) (by decide) (by intro v hv; simp at hv; rcases hv with rfl <;> rfl)) rfl ?_; intro v44 h44 (r44 : IntsO [ys33.getD j 0] v44 h44); refine sq_m 1 rfl rfl (m_appI 1 0 Tryz.underlying27 ty_3 rfl rfl rfl rfl qo rfl r44.toR (by first | omega | (simp; omega) | (simp only [List.length_append, List.length_cons, List.length_nil]; omega) | (rw [List.length_set]; omega))) rfl ?_; intro v45 h_r45 r45; refine sq_v rfl (v_fieldAddr fd_29_2 ty_27 (by decide) rfl) rfl ?_; refine sq_m 5 rfl rfl (m_store1 5 ty_27 rfl rfl r45.toR.sl.one rfl (Nat.le_of_ble_eq_true rfl)) rfl ?_; rintro _ _ ⟨rfl, rfl⟩; refine sq_end (qs_bn (qs_n (wp_sq ?_))); refine sq_v rfl (v_add rfl rfl ((by unfold I64; omega))) rfl ?_; refine sq_v rfl (v_move rfl) rfl (sq_end ?_); exact qs_bk (j + 1, h40, v45, h_r45, (op ++ [ys33.getD j 0])) ⟨by (try dsimp only); omega, by (try dsimp only); simp; omega, ⟨List.nodup_append.2 ⟨hon.1, by simp, fun a ha b hb => by rw [List.mem_singleton.1 hb]; intro e9; exact hnt (e9 ▸ hon.2 a ha)⟩, fun x hx => by rw [htk]; rcases List.mem_append.1 hx with h9 | h9; exact List.mem_append_left _ (hon.2 x h9); exact List.mem_append_right _ h9⟩, cu40, r45⟩ (by simp only; omega) ⟨rfl, rfl, rfl, rfl, rfl, rfl, (by first | rfl | exact ksub rfl (by first | omega | (simp; done) | (simp; omega))), trivial⟩ (fun _ s => s.pick [1, 2, 3, 4, 5, 6, 7, 8, 9, 10] (by decide) rfl)
      · refine wp_sk (qs_bn (qs_n (wp_sq ?_))); refine sq_v rfl (v_add rfl rfl ((by unfold I64; omega))) rfl ?_; refine sq_v rfl (v_move rfl) rfl (sq_end ?_); exact qs_bk (j + 1, h40, vo, hop, op) ⟨by (try dsimp only); omega, by (try dsimp only); omega, ⟨hon.1, fun x hx => by rw [htk]; exact List.mem_append_left _ (hon.2 x hx)⟩, cu40, qo⟩ (by simp only; omega) ⟨rfl, rfl, rfl, rfl, rfl, rfl, (by first | rfl | exact ksub rfl (by first | omega | (simp; done) | (simp; omega))), trivial⟩ (fun _ s => s)
    · refine wp_ex (qs_x (qs_x (qs_bx (qs_n (wp_sc (wp_sq (sq_v rfl (v_loadNB 4 ty_29 rfl rfl rfl rfl) rfl ?_))))))); refine sq_m 5 rfl rfl (m_store 5 ty_29 rfl rfl rfl rfl (by simp [one_int, q.toR.sl.one, qo.toR.sl.one]) rfl (Nat.le_of_ble_eq_true rfl)) rfl ?_; rintro _ _ ⟨rfl, rfl⟩; refine sq_end (qs_n (wp_rt ?_)); refine qs_close [restP w h, hc, _] [ht, hop, ho] (fun _ s => s.pick [7, 8, 5, 2, 0, 3] (by decide) rfl) (fun md1 => ?_); refine qs_close [restP w h, _] [hc, joinP [ht, hop, ho]] (fun _ s => s.pick [1, 3, 2, 0] (by decide) rfl) (fun md2 => ?_); exact qs_retc 2 rfl ty_29 rfl rfl rfl (fin_m (i := 1) 0 rfl rfl rfl ⟨hc, _, ts, op, cu2, ⟨vt, vo, rfl, NetO.join q qo how md1⟩, ⟨hts, by omega, hon.1, fun x hx => hs33 x (List.mem_of_mem_take (hon.2 x hx))⟩, md2⟩)
end Go.Proofs.YtiefkcaplhnnmaaGreat
namespace Go.Proofs.YtiefkcaplhnnmaaGreat
set_option maxRecDepth 100000
open Go.RowKit
theorem ct_s_MakeRing (m : Int) (xs : List Int) (vb : Value) (w : World) (rb : BytesR xs vb (hp w)) (hxl : xs.length ≤ 1048576) (hm : 0 ≤ m ∧ m ≤ 1000) : Calls Tryz.prog 6 [vb, num m].toArray w (Ret w emp (fun u _ => ∃ k p n, u = ringV k p n ∧ ringL k p n)) := by
  refine calls_in Tryz.func6 rfl Tryz.ntmps6 rfl (Sat.start w) ?_; have hle0 := rb.le; refine wp_sc (wp_sq ?_); refine sq_x rfl (x_alloc ty_24 rfl) rfl ?_; rintro _ _ ⟨b4, rfl, rfl⟩; refine sq_end (qs_n (wp_sc (wp_sq (sq_v rfl (v_move rfl) rfl (sq_v rfl (v_move rfl) rfl ?_))))); refine sq_x rfl (x_call rfl en_34 (fun w s => ct_s_l45At _ _ _ w (rb.mono (s.get 1 rfl)) (by first | assumption | omega) (by first | assumption | omega))) rfl ?_; rintro v7 h7 r7; refine sq_m 0 rfl rfl (x_call rfl en_33 (fun w s => ct_s_l02Ring xs vb v7 w _ (s.get 0 rfl) r7 (rb.mono (s.getR 0 2 rfl rfl (by decide))))) rfl ?_; rintro _ h8 ⟨k8, p8, n8, rfl, hr8, cu8⟩; refine sq_m 1 rfl rfl (m_store 1 ty_24 rfl rfl rfl rfl (by simp [Value.oneCell']) rfl (Nat.le_of_ble_eq_true rfl)) rfl ?_; rintro _ _ ⟨rfl, rfl⟩; refine sq_end (qs_n (wp_rt ?_)); exact qs_retc 1 rfl ty_24 rfl rfl rfl (fin_e (i := 2) rfl ⟨k8, p8, n8, rfl, hr8⟩)
theorem ct_s_MakeNetwork (k p n m : Int) (xs : List Int) (vb : Value) (w : World) (rb : BytesR xs vb (hp w)) (hxl : xs.length ≤ 1048576) (hm : 0 ≤ m ∧ m ≤ 1000) (hr : ringL k p n) : Calls Tryz.prog 7 [vb, num m, ringV k p n, num 4].toArray w (Ret w emp (fun u h' => ∃ ts op, NetT k p n ts op u h' ∧ GenN k p n ts op)) := by
  refine calls_in Tryz.func7 rfl Tryz.ntmps7 rfl (Sat.start w) ?_; have hle0 := rb.le; refine wp_sc (wp_sq ?_); refine sq_x rfl (x_box rfl rfl) rfl ?_; rintro _ _ ⟨b6, rfl, rfl⟩; refine sq_x rfl (x_alloc ty_29 rfl) rfl ?_; rintro _ _ ⟨b8, rfl, rfl⟩; refine sq_end (qs_n (wp_sc (wp_rj 5 [(0, true), (1, true), (3, true), (4, true), (2, false), (5, false), (6, false)] mixed_ok (by kernel_rfl) (rj_v rfl rfl (v_move rfl) rfl (rj_v rfl rfl (v_move rfl) rfl (rj_v rfl rfl (v_loadNB 1 ty_24 rfl rfl rfl rfl) rfl (rj_v rfl rfl (v_move rfl) rfl ?_))))))); refine rj_x rfl rfl (x_call rfl en_34 (fun w s => ct_s_l45At _ _ _ w (rb.mono (s.get 2 rfl)) (by first | assumption | omega) (by first | assumption | omega))) rfl ?_; rintro v11 h11 r11; refine rj_m 0 rfl rfl rfl rfl (x_call rfl en_35 (fun w s => ct_s_l12Net k p n xs vb v11 w _ (s.get 0 rfl) r11 (rb.mono (s.getR 0 3 rfl rfl (by decide))) hr)) rfl ?_; rintro _ h14 ⟨hc14, hn14, ts, op, cu14, ⟨vt, vo, rfl, o14⟩, hg14, md14⟩; refine rj_m 1 rfl rfl rfl rfl (m_store 1 ty_29 rfl rfl rfl rfl (by simp [one_int, o14.toR.1.sl.one, o14.toR.2.sl.one]) rfl (Nat.le_of_ble_eq_true rfl)) rfl ?_; rintro _ _ ⟨rfl, rfl⟩; refine rj_end (qs_s [box b8 [num k, num p, num n, vt, vo] 29, box b6 [num k, num p, num n] 24, hp w, hc14, hn14] (fun _ s => Sat.open (A := [box b8 [num k, num p, num n, vt, vo] 29, box b6 [num k, num p, num n] 24, hp w]) md14 (s.pick [0, 1, 2, 3] (by decide) rfl)) (qs_n (wp_rt ?_))); exact qs_retc 0 rfl ty_29 rfl rfl rfl (fin_t 4 (i := 2) rfl rfl rfl ⟨ts, op, ⟨vt, vo, rfl, o14⟩, hg14⟩)
def ValsM (ds : List Int) (vb vp : Value) (u : Value) (h : PH) : Prop := ∃ hc hx ys, CurO vb vp hc ∧ IntsO ys u hx ∧ ys.length = ds.length ∧ (∀ j, j < ds.length → 0 ≤ ys.getD j 0 ∧ ys.getD j 0 < ds.getD j 0) ∧ Made h [hc, hx]
set_option maxHeartbeats 1000000 in
theorem ct_s_l12Values (k p n : Int) (xs : List Int) (ts : List Ten) (op : List Int) (vb vp vt vo : Value) (w : World) (h : PH) (hle : PLe h (hp w)) (rc : CurO vb vp h) (rb : BytesR xs vb (restP w h)) (r : TensR ts vt (restP w h)) (r' : IntsR op vo (restP w h)) (hs : op.length ≤ 1048576) (hok : ∀ t ∈ ts, AxOK t) (hd : ∀ j, j < (dimsFor ts (labelsOf k p n ts op)).length → 1 ≤ (dimsFor ts (labelsOf k p n ts op)).getD j 0) (hl : (labelsOf k p n ts op).length ≤ 1000) :
    Calls Tryz.prog 40 [vp, netV k p n vt vo].toArray w (Ret w h (ValsM (dimsFor ts (labelsOf k p n ts op)) vb vp)) := by
  have hdl : (dimsFor ts (labelsOf k p n ts op)).length = (labelsOf k p n ts op).length := by simp [dimsFor]
  refine calls_in Tryz.func40 rfl Tryz.ntmps40 rfl (Sat.start2 hle) ?_; have hle1 := rb.le; have hle2 := r.le; obtain ⟨cs_r, rr_r, hc_r⟩ := r.at; have hle3 := r'.le; refine wp_sc (wp_sq ?_); refine sq_x rfl (x_box rfl rfl) rfl ?_; rintro _ _ ⟨b3, rfl, rfl⟩; refine sq_v rfl (v_assign rfl) rfl (sq_end (qs_n (wp_sc (wp_sq ?_)))); refine sq_x rfl (x_build0 Tryz.underlying27 ty_3) rfl ?_; intro v8 h8 (r8 : IntsO [] v8 h8); refine sq_v rfl (v_assign rfl) rfl (sq_end (qs_n (wp_sc (wp_sc (wp_rj 7 [(0, true), (1, true), (2, true), (6, true), (3, false), (4, false), (5, true)] mixed_ok (by kernel_rfl) (rj_v rfl rfl (v_fieldAddr fd_29_1 ty_26 (by decide) rfl) rfl (rj_v rfl rfl (v_loadB 1 ty_26 rfl rfl rfl) rfl (rj_v rfl rfl (v_loadNB 1 ty_29 rfl rfl rfl rfl) rfl (rj_v rfl rfl (v_move rfl) rfl ?_))))))))); refine rj_x rfl rfl (x_call rfl en_84 (fun w s => ct_s_LabelsOf _ _ _ _ _ _ _ w (r.mono (s.get 3 rfl)) (r'.mono (s.get 3 rfl)) (by first | assumption | omega))) rfl ?_; rintro v12 h12 r12; refine rj_x rfl rfl (x_call rfl en_83 (fun w s => ct_s_l12Dims _ _ _ _ w (r.mono (s.get 4 rfl)) (r12.toR.mono (s.get 0 rfl)) (by first | assumption | omega) (by first | assumption | omega))) rfl ?_; rintro v13 h13 r13; refine rj_v rfl rfl (v_len Tryz.underlying27 rfl r13.toR.sl) rfl (rj_end (qs_n (wp_bl ?_))); refine wp_lp (σ := Nat × PH × Value × PH × (List Int)) (fun z_ => [(0, vp), (4, .slice none 0 0), (5, z_.2.2.1), (13, v13), (14, num (dimsFor ts (labelsOf k p n ts op)).length), (15, num z_.1)]) (fun z_ => [z_.2.2.2.1, h13, h12, box b3 [num k, num p, num n, vt, vo] 29, z_.2.1, (restP w h)]) (fun z_ => z_.1 ≤ (dimsFor ts (labelsOf k p n ts op)).length ∧ z_.2.2.2.2.length = z_.1 ∧ (∀ i, i < z_.1 → 0 ≤ z_.2.2.2.2.getD i 0 ∧ z_.2.2.2.2.getD i 0 < (dimsFor ts (labelsOf k p n ts op)).getD i 0) ∧ CurO vb vp z_.2.1 ∧ IntsO z_.2.2.2.2 z_.2.2.1 z_.2.2.2.1) (fun z_ => (dimsFor ts (labelsOf k p n ts op)).length - z_.1) (0, h, v8, h8, []) (⟨by (try dsimp only); omega, rfl, (fun i hi => by omega), rc, r8⟩) ⟨rfl, rfl, (by first | rfl | exact ksub rfl (by first | omega | (simp; done) | (simp; omega))), rfl, rfl, (by first | rfl | exact ksub rfl (by first | omega | (simp; done) | (simp; omega))), trivial⟩ (fun _ s => s.pick [2, 0, 1, 3, 4, 5] (by decide) rfl) ?_; rintro ⟨j, hc, vx, hx, ys⟩ ⟨hj, hyl, hyr, cu, q⟩; dsimp only at hj hyl hyr cu q ⊢; have hle_q := q.toR.le; refine wp_sc (wp_sq (sq_v rfl (v_lss rfl rfl) rfl (sq_end (qs_n (wp_sc ?_))))); refine wp_cd rfl (fun c16 => ?_) (fun c16 => ?_)
  · refine wp_sk (qs_n (wp_sc (wp_bl (wp_sc (wp_sq ?_))))); refine sq_v rfl (v_idxI Tryz.underlying27 ty_3 rfl rfl r13.toR (by first | omega | (simp; omega) | (simp only [List.length_append, List.length_cons, List.length_nil]; omega) | (rw [List.length_set]; omega)) (by first | omega | (simp; omega) | (simp only [List.length_append, List.length_cons, List.length_nil]; omega) | (rw [List.length_set]; omega))) rfl ?_; refine sq_v rfl (v_loadI (k := j) 1 ty_3 rfl rfl r13.toR (by first | omega | (simp; omega) | (simp only [List.length_append, List.length_cons, List.length_nil]; omega) | (rw [List.length_set]; omega))) rfl ?_; refine sq_v rfl (v_assign rfl) rfl (sq_end (qs_n (wp_sq (sq_v rfl (v_move rfl) rfl (sq_v rfl (v_move rfl) rfl (sq_v rfl (v_move rfl) rfl (sq_v rfl (v_min rfl rfl) rfl ?_))))))); have hd9 := hd j (by omega); refine sq_m 4 rfl rfl (x_call rfl en_71 (fun w s => ct_s_l01Below _ _ _ _ w _ (s.get 4 rfl) cu (rb.mono (s.getR 4 5 rfl rfl (by decide))) (by omega))) rfl ?_; rintro _ h23 ⟨x23, rfl, hx23, hy23, cu23⟩; refine sq_x rfl (x_buildS [num (x23)] Tryz.underlying27 ty_3 (by decide) rfl rfl rfl (by decide) (by decide) (by intro v hv; simp at hv; rcases hv with rfl <;> rfl)) rfl ?_; intro v24 h24 (r24 : IntsO [x23] v24 h24); refine sq_m 1 rfl rfl (m_appI 1 0 Tryz.underlying27 ty_3 rfl rfl rfl rfl q rfl r24.toR (by first | omega | (simp; omega) | (simp only [List.length_append, List.length_cons, List.length_nil]; omega) | (rw [List.length_set]; omega))) rfl ?_; intro v25 h_r25 r25; refine sq_v rfl (v_assign rfl) rfl (sq_end (qs_bn (qs_n (wp_sq ?_)))); refine sq_v rfl (v_add rfl rfl ((by unfold I64; omega))) rfl ?_; refine sq_v rfl (v_move rfl) rfl (sq_end ?_); exact qs_bk (j + 1, h23, v25, h_r25, (ys ++ [x23])) ⟨by (try dsimp only); omega, by (try dsimp only); simp [hyl], (fun i hi => by rcases Nat.lt_or_ge i j with h9 | h9; rw [List.getD, List.getElem?_append_left (by omega)]; exact hyr i h9; rw [show i = j by omega, List.getD, List.getElem?_append_right (by omega), hyl, Nat.sub_self]; simp only [List.getElem?_cons_zero, Option.getD_some]; omega), cu23, r25⟩ (by simp only; omega) ⟨rfl, rfl, (by first | rfl | exact ksub rfl (by first | omega | (simp; done) | (simp; omega))), rfl, rfl, (by first | rfl | exact ksub rfl (by first | omega | (simp; done) | (simp; omega))), trivial⟩ (fun _ s => s.pick [1, 2, 3, 4, 5, 6] (by decide) rfl)
  · refine wp_ex (qs_x (qs_x (qs_bx (qs_n (wp_sc (wp_sq (sq_v rfl (v_move rfl) rfl (sq_v rfl (v_assign rfl) rfl (sq_end (qs_n (wp_rt ?_))))))))))); have ej : j = (dimsFor ts (labelsOf k p n ts op)).length := by omega
    refine qs_close [restP w h] [hc, hx] (fun _ s => s.pick [5, 4, 0] (by decide) rfl) (fun md => ?_); exact qs_ret1 rfl rfl (fin_m (i := 1) 0 rfl rfl rfl ⟨hc, hx, ys, cu, q, by omega, fun i hi => hyr i (by omega), md⟩)
theorem ct_s_MakeValues (k p n m : Int) (xs : List Int) (ts : List Ten) (op : List Int) (vb vt vo : Value) (w : World) (rb : BytesR xs vb (hp w)) (hxl : xs.length ≤ 1048576) (hm : 0 ≤ m ∧ m ≤ 1000) (r : TensR ts vt (hp w)) (r' : IntsR op vo (hp w)) (hs : op.length ≤ 1048576) (hok : ∀ t ∈ ts, AxOK t) (hd : ∀ j, j < (dimsFor ts (labelsOf k p n ts op)).length → 1 ≤ (dimsFor ts (labelsOf k p n ts op)).getD j 0) (hl : (labelsOf k p n ts op).length ≤ 1000) :
    Calls Tryz.prog 13 [vb, num m, netV k p n vt vo].toArray w (Ret w emp (fun u h' => ∃ ys, IntsO ys u h' ∧ ys.length = (dimsFor ts (labelsOf k p n ts op)).length ∧ ∀ j, j < (dimsFor ts (labelsOf k p n ts op)).length → 0 ≤ ys.getD j 0 ∧ ys.getD j 0 < (dimsFor ts (labelsOf k p n ts op)).getD j 0)) := by
  refine calls_in Tryz.func13 rfl Tryz.ntmps13 rfl (Sat.start w) ?_; have hle0 := rb.le; have hle1 := r.le; obtain ⟨cs_r, rr_r, hc_r⟩ := r.at; have hle2 := r'.le; refine wp_sc (wp_sq ?_); refine sq_x rfl (x_box rfl rfl) rfl ?_; rintro _ _ ⟨b5, rfl, rfl⟩; refine sq_v rfl (v_assign rfl) rfl (sq_end (qs_n (wp_sc (wp_rj 4 [(0, true), (1, true), (3, true), (2, false), (4, false), (5, false)] mixed_ok (by kernel_rfl) (rj_v rfl rfl (v_move rfl) rfl (rj_v rfl rfl (v_move rfl) rfl (rj_v rfl rfl (v_loadNB 0 ty_29 rfl rfl rfl rfl) rfl ?_))))))); refine rj_x rfl rfl (x_call rfl en_34 (fun w s => ct_s_l45At _ _ _ w (rb.mono (s.get 1 rfl)) (by first | assumption | omega) (by first | assumption | omega))) rfl ?_; rintro v9 h9 r9; refine rj_m 0 rfl rfl rfl rfl (x_call rfl en_40 (fun w s => ct_s_l12Values k p n xs ts op vb v9 vt vo w _ (s.get 0 rfl) r9 (rb.mono (s.getR 0 2 rfl rfl (by decide))) (r.mono (s.getR 0 2 rfl rfl (by decide))) (r'.mono (s.getR 0 2 rfl rfl (by decide))) hs hok hd hl)) rfl ?_; rintro v11 h11 ⟨hc11, hx11, ys11, cu11, r11, hl11, hr11, md11⟩; refine rj_fv rfl rfl (v_assign rfl) rfl (rj_end (qs_s [box b5 [num k, num p, num n, vt, vo] 29, hp w, hc11, hx11] (fun _ s => Sat.open (A := [box b5 [num k, num p, num n, vt, vo] 29, hp w]) md11 (s.pick [0, 1, 2] (by decide) rfl)) (qs_n (wp_rt ?_)))); exact qs_ret1 rfl rfl (fin_t 3 (i := 1) rfl rfl rfl ⟨ys11, r11, hl11, hr11⟩)
end Go.Proofs.YtiefkcaplhnnmaaGreat
namespace Go.Proofs.YtiefkcaplhnnmaaGreat
set_option maxRecDepth 100000
open Go.RowKit
theorem prod3 : ∀ (ds : List Int) (a : Int), 1 ≤ a → (∀ d ∈ ds, 1 ≤ d ∧ d ≤ 3) → 1 ≤ ds.foldl (· * ·) a ∧ ds.foldl (· * ·) a ≤ a * 3 ^ ds.length
  | [], a, ha, _ => by simp; exact ha
  | d :: r, a, ha, h => by
    have hd := h d (by simp); have h1 : 1 * 1 ≤ a * d := Int.mul_le_mul ha hd.1 (by omega) (by omega); have ih := prod3 r (a * d) (by omega) (fun x hx => h x (List.mem_cons_of_mem _ hx)); refine ⟨ih.1, Int.le_trans ih.2 ?_⟩; rw [List.length_cons, Int.pow_succ]; have h2 : a * d ≤ a * 3 := Int.mul_le_mul_of_nonneg_left hd.2 (by omega); have h3 : (0 : Int) ≤ 3 ^ r.length := Int.le_of_lt (Int.pow_pos (by decide)); have h4 := Int.mul_le_mul_of_nonneg_right h2 h3; rw [Int.mul_assoc a 3, Int.mul_comm 3] at h4; exact h4
section
variable {k p n : Int} {ts : List Ten} {op : List Int}
theorem GenN.dim (h : GenN k p n ts op) {x : Int} (hx : x ∈ labelsL ts) : (∃ t ∈ ts, x ∈ t.l) ∧ (0 ≤ x ∧ x ≤ 5) ∧ dimOf ts x = dimG x := by
  have h1 := (mem_labels.1 hx).2; have h2 := dimOf_mem (show dimOf ts x ≠ 0 by omega); refine ⟨h2, ?_, dimOf_map (fun t ht => (h.1 t ht).2.2.1) h2⟩; obtain ⟨t, ht, hxt⟩ := h2; exact (h.1 t ht).2.1.2 x hxt
theorem GenN.few (h : GenN k p n ts op) {l : List Int} (hn : l.Nodup) (hl : ∀ x ∈ l, x ∈ labelsL ts) : l.length ≤ 6 := by
  have := pigeon (m := [0, 1, 2, 3, 4, 5]) hn fun x hx => by
    have := (h.dim (hl x hx)).2.1; simp only [List.mem_cons, List.not_mem_nil, or_false]
    omega
  simpa using this
theorem pow3 {m : Nat} (h : m ≤ 6) : (3 : Int) ^ m ≤ 729 := by
  have : m = 0 ∨ m = 1 ∨ m = 2 ∨ m = 3 ∨ m = 4 ∨ m = 5 ∨ m = 6 := by omega
  rcases this with rfl | rfl | rfl | rfl | rfl | rfl | rfl <;> decide
theorem GenN.prod (h : GenN k p n ts op) {l : List Int} (hn : l.Nodup) (hl : ∀ x ∈ l, x ∈ labelsL ts) : 1 ≤ prodI (l.map (dimOf ts)) ∧ prodI (l.map (dimOf ts)) ≤ 729 := by
  have h1 := prod3 (l.map (dimOf ts)) 1 (by omega) fun d hd => by
    obtain ⟨x, hx, rfl⟩ := List.mem_map.1 hd; obtain ⟨_, h2, h3⟩ := h.dim (hl x hx); rw [h3]; exact dimG_in h2
  have h2 := pow3 (h.few hn hl); rw [List.length_map, Int.one_mul] at h1; exact ⟨h1.1, Int.le_trans h1.2 h2⟩
theorem gen_net (hr : ringL k p n) (h : GenN k p n ts op) : netL k p n ts op := by
  have h4 := h.2.1; have hf := h.few h.2.2.1 h.2.2.2; have hp := h.prod h.2.2.1 h.2.2.2; refine ⟨hr, by omega, fun t ht => (h.1 t ht).1, cons_of_map fun t ht => (h.1 t ht).2.2.1, sizeI_ge.2 ⟨⟨by omega, by simp [dimsFor], fun j hj => ⟨?_, ?_, nodup_not_take h.2.2.1 hj⟩⟩, by unfold dimsFor; omega⟩⟩
  · have := (h.dim (h.2.2.2 _ (mem_getD hj))).2.1; omega
  · obtain ⟨_, h2, h3⟩ := h.dim (h.2.2.2 _ (mem_getD hj)); have h5 := dimG_in h2
    unfold dimsFor
    rw [map_getD hj, h3]
    omega
theorem gen_labels (hr : ringL k p n) (h : GenN k p n ts op) : labelsOf k p n ts op = labelsL ts := if_pos (gen_net hr h)
theorem gen_vals (hr : ringL k p n) (h : GenN k p n ts op) : ∀ j, j < (dimsFor ts (labelsOf k p n ts op)).length → 1 ≤ (dimsFor ts (labelsOf k p n ts op)).getD j 0 := fun j hj => by
  rw [gen_labels hr h] at hj ⊢
  unfold dimsFor at hj ⊢
  rw [List.length_map] at hj; rw [map_getD hj]; obtain ⟨_, h2, h3⟩ := h.dim (mem_getD hj); have := dimG_in h2
  omega
end
end Go.Proofs.YtiefkcaplhnnmaaGreat
namespace Go.Proofs.YtiefkcaplhnnmaaGreat
set_option maxRecDepth 100000
open Go.RowKit
section
variable {k p n : Int} {ts : List Ten}
/-- Any distinct labels of the network make up a small tensor. -/
def SmallN (ts : List Ten) : Prop := ∀ l : List Int, l.Nodup → (∀ x ∈ l, x ∈ labelsL ts) → l.length ≤ 12 ∧ prodI (l.map (dimOf ts)) ≤ 4096
theorem small_lab {t : Ten} (ht : tensorL k p n t.l t.d t.x) (hd : t.d = t.l.map (dimOf ts)) : ∀ x ∈ t.l, x ∈ labelsL ts ∧ (0 ≤ x ∧ x ≤ 99) ∧ 1 ≤ dimOf ts x ∧ dimOf ts x ≤ 8 := fun x hx => by
  have h1 := dims_mem (axes_dims (ten_axes ht)) (dimOf ts x) (by rw [hd]; exact List.mem_map_of_mem hx); obtain ⟨j, hj, e⟩ := getD_of_mem hx; have h2 := ((ten_axes ht).2.2 j hj).1; rw [e] at h2; exact ⟨mem_labels.2 ⟨⟨h2.1, by omega⟩, by omega⟩, h2, h1⟩
theorem fit_small {op : List Int} {ss : List Stp} (h : orderL k p n ts op ss) (hf : SmallN ts) : ∀ i, i ≤ ss.length → ∀ j, j < i → runFit k p n ts op ss j
  | 0, _, j, hj => by omega
  | i + 1, hi, j, hj => by
    have ih := fit_small h hf i (by omega)
    by_cases c : j < i
    · exact ih j c
    · have e : j = i := by omega
      subst e; have r := run_ok h j (by omega) ih; obtain ⟨⟨ta, la, da⟩, ⟨tb, lb, db⟩⟩ := r.two h (by omega); have hk := r.kept h (by omega); have hjn : (joinI (runA k p n ts op ss j).l (runB k p n ts op ss j).l).Nodup := joinI_nodup (axes_nodup (ten_axes ta)) (axes_nodup (ten_axes tb)); have hjm : ∀ x ∈ joinI (runA k p n ts op ss j).l (runB k p n ts op ss j).l, x ∈ labelsL ts ∧ (0 ≤ x ∧ x ≤ 99) ∧ 1 ≤ dimOf ts x ∧ dimOf ts x ≤ 8 := fun x hx => (mem_joinI.1 hx).elim (small_lab ta da x) (small_lab tb db x); refine (pairP_iff ta tb da db).2 ⟨Int.le_trans (hf _ hjn fun x hx => (hjm x hx).1).2 (by decide), ?_⟩; have hkm : ∀ x ∈ keepL (runA k p n ts op ss j) (runB k p n ts op ss j) (runK ts op ss j), x ∈ joinI (runA k p n ts op ss j).l (runB k p n ts op ss j).l := fun x hx => (List.mem_filter.1 hx).1; have hkn : (keepL (runA k p n ts op ss j) (runB k p n ts op ss j) (runK ts op ss j)).Nodup := hjn.filter _; have hs := hf _ hkn fun x hx => (hjm x (hkm x hx)).1; refine sizeI_ge.2 ⟨⟨hs.1, by simp, fun q hq => ⟨(hjm _ (hkm _ (mem_getD hq))).2.1, by rw [map_getD hq]; exact (hjm _ (hkm _ (mem_getD hq))).2.2, nodup_not_take hkn hq⟩⟩, hs.2⟩
theorem plain_get {m i : Nat} (h : i < m - 1) : (plainL m)[i]? = some (plainAt m i) := by simp [plainL, plainTo, h]
theorem plain_ixs {op : List Int} (h : netL k p n ts op) : ∀ i, i ≤ ts.length - 1 → ∀ j, j ∈ (runS ts op (plainL ts.length) i).ixs ↔ (i = 0 ∧ j < ts.length) ∨ (0 < i ∧ ((i + 1 ≤ j ∧ j < ts.length) ∨ j = ts.length + i - 1))
  | 0, _, j => by
    show j ∈ (sh0 ts).ixs ↔ _
    rw [sh0_ixs, List.mem_range]
    omega
  | i + 1, hi, j => by
    have ih := plain_ixs h i (by omega) j; have hx := plain_get (m := ts.length) (i := i) (by omega); have ha := run_all (ts := ts) (op := op) (ss := plainL ts.length) (i := i) (by rw [plain_len']; omega); have hs : runS ts op (plainL ts.length) (i + 1) = (runS ts op (plainL ts.length) i).step op (plainAt ts.length i).a.toNat (plainAt ts.length i).b.toNat := shTo_step hx; rw [hs, step_ixs (run_fine (ss := plainL ts.length) h i).1, List.mem_append, List.mem_filter, ih, List.mem_singleton, ha, decide_eq_true_eq]
    unfold plainAt
    by_cases c : i = 0
    · rw [if_pos c]
      simp only
      omega
    · rw [if_neg c]
      simp only
      omega
theorem plain_order {op : List Int} (h : netL k p n ts op) : orderL k p n ts op (plainL ts.length) := by
  refine ⟨h, plain_len' _, fun i hi x hx => ?_⟩; rw [plain_len'] at hi; rw [plain_get hi] at hx
  cases hx
  have hl : ∀ a : Int, 0 ≤ a → a.toNat ∈ (runS ts op (plainL ts.length) i).ixs → (runS ts op (plainL ts.length) i).live a := fun a h0 hm => live_ixs.2 ⟨h0, hm⟩; have hp := plain_ixs h i (by omega)
  show (runS ts op (plainL ts.length) i).live _ ∧ (runS ts op (plainL ts.length) i).live _ ∧ _
  unfold plainAt
  by_cases c : i = 0
  · rw [if_pos c]; exact ⟨hl _ (by simp) ((hp _).2 (by simp only; omega)), hl _ (by simp) ((hp _).2 (by simp only; omega)), by simp⟩
  · rw [if_neg c]; exact ⟨hl _ (by simp only; omega) ((hp _).2 (by simp only; omega)), hl _ (by simp only; omega) ((hp _).2 (by simp only; omega)), by simp only; omega⟩
theorem tot_small {op : List Int} (h : netL k p n ts op) (hf : SmallN ts) : totP k p n ts op :=
  ⟨h, plain_order (net_nil h), fit_small (plain_order (net_nil h)) hf _ (Nat.le_refl _)⟩
theorem gen_small {op : List Int} (h : GenN k p n ts op) : SmallN ts := fun l hn hl => by
  have h1 := h.few hn hl; have h2 := h.prod hn hl; exact ⟨by omega, by omega⟩
end
end Go.Proofs.YtiefkcaplhnnmaaGreat
namespace Go.Proofs.YtiefkcaplhnnmaaGreat
set_option maxRecDepth 100000
open Go.RowKit
section
variable {k p n : Int} {ts : List Ten} {op vs : List Int}
structure NxW (k p n : Int) (ts : List Ten) (op vs : List Int) : Prop where
  net : netL k p n ts op
  cnt : cntP k p n ts op
  len : vs.length = (labelsL ts).length
  fit : fitI ts (labelsL ts) vs (labelsL ts).length
theorem NxW.tot (h : NxW k p n ts op vs) : ∀ {i : Nat}, i ≤ (labelsL ts).length → netL 3 1000000 0 (nxT k p n ts vs i) (opI op (labelsL ts) i) ∧ totP 3 1000000 0 (nxT k p n ts vs i) (opI op (labelsL ts) i) ∧
    ∀ j, i ≤ j → j < (labelsL ts).length → dimOf (nxT k p n ts vs i) ((labelsL ts).getD j 0) = dimOf ts ((labelsL ts).getD j 0)
  | 0, _ => by
    unfold nxT
    rw [tsI_zero, opI_zero]; exact ⟨supp_net h.net, h.cnt.2, fun j _ _ => supp_dim ts _⟩
  | i + 1, hi => by
    obtain ⟨_, h2, h3⟩ := h.tot (i := i) (by omega); have hn := netI (supp_net h.net) (labL_nodup ts) (i + 1) hi fun j hj => by rw [supp_dim]; exact h.fit j (by omega)
    have hdi := h3 i (Nat.le_refl _) (by omega); have hf := h.fit i (by omega); refine ⟨hn.1, ?_, fun j h1 h2 => by rw [show nxT k p n ts vs (i + 1) = tsI 3 0 (suppTs k p n ts) (labelsL ts) vs (i + 1) from rfl, hn.2 j h1 h2, supp_dim]⟩; have e := nx_slice (k := k) (p := p) (n := n) (ts := ts) (vs := vs) (i := i) (by have := h.len; omega) (vs.getD i 0); rw [nx_next (by have := h.len; omega)] at e; have hn1 := hn.1; rw [show tsI 3 0 (suppTs k p n ts) (labelsL ts) vs (i + 1) = nxT k p n ts vs (i + 1) from rfl, e] at hn1; rw [e]; exact tot_cut h2 (by rw [hdi]; exact hf) hn1
theorem NxW.cu (h : NxW k p n ts op vs) {i : Nat} (hi : i < (labelsL ts).length) {v : Int} (hv : 0 ≤ v ∧ v < dimOf ts ((labelsL ts).getD i 0)) : cuP k p n ts op vs i v := by
  obtain ⟨_, h2, h3⟩ := h.tot (i := i) (by omega); have hdi := h3 i (Nat.le_refl _) hi; have hlen := h.len; have hn := (netI (supp_net h.net) (labL_nodup ts) (i + 1) hi (vs := vs.take i ++ [v]) fun j hj => by
    rw [supp_dim]; exact cu_fit (by omega) (fun q hq => h.fit q (by omega)) hv j hj).1
  unfold cuP
  have e := nx_slice (k := k) (p := p) (n := n) (ts := ts) (vs := vs) (i := i) (by omega) v; rw [e] at hn ⊢; exact tot_cut h2 (by rw [hdi]; exact hv) hn
theorem NxW.next (h : NxW k p n ts op vs) {i : Nat} (hi : i < (labelsL ts).length) : nxV k p n ts op vs (i + 1) = cuV k p n ts op vs i (vs.getD i 0) := by
  unfold nxV cuV
  rw [nx_next (by have := h.len; omega)]
theorem NxW.sum (h : NxW k p n ts op vs) {i : Nat} (hi : i < (labelsL ts).length) : nxV k p n ts op vs i = min (rkIn k p n ts op vs i (dimOf ts ((labelsL ts).getD i 0)).toNat) 1000000 := by
  obtain ⟨_, h2, h3⟩ := h.tot (i := i) (by omega); have hdi := h3 i (Nat.le_refl _) hi; have hm := mem_labels.1 (mem_getD hi); have hx : (labelsL ts).getD i 0 ∈ labelsL (nxT k p n ts vs i) := mem_labels.2 ⟨hm.1, by rw [hdi]; exact hm.2⟩; have hlen := h.len; have hR := law_cap (p := 1000000) (by omega) 0; have hcu : ∀ v : Nat, (v : Int) < dimOf ts ((labelsL ts).getD i 0) → totP 3 1000000 0 ((nxT k p n ts vs i).map fun t => fix1 3 0 t ((labelsL ts).getD i 0) v) (opI op (labelsL ts) (i + 1)) := fun v hv => by
    have := h.cu hi (v := v) ⟨by omega, hv⟩
    unfold cuP at this
    rwa [nx_slice (by omega)] at this
  have e := tot_split r3 hR h2 hx (op' := opI op (labelsL ts) (i + 1)) fun v hv => hcu v (by rw [hdi] at hv; exact hv); have e2 := congrArg Subtype.val e; rw [toA_val r3 h2.inR, hdi] at e2; rw [cap_sum r3 hR (c := fun (u : Nat) => cuV k p n ts op vs i u) fun v hv => ?_] at e2
  · rw [rk_isum]
    unfold nxV
    rw [e2]; rfl
  · have hc := hcu v (by omega); have hl := tot_len hc; refine ⟨?_, (cu_range (h.cu hi (v := v) ⟨by omega, by omega⟩)).1⟩; rw [toA_val r3 hc.inR]
    unfold cuV
    rw [nx_slice (by omega)]
    match hX : totX 3 1000000 0 ((nxT k p n ts vs i).map fun t => fix1 3 0 t ((labelsL ts).getD i 0) v) (opI op (labelsL ts) (i + 1)) with
    | [] => have := hc.inR.1; rw [hX] at this; simp [w3] at this
    | [a] => rfl
    | a :: b :: l => have := hc.inR.1; rw [hX] at this; simp [w3] at this
theorem NxW.zero (h : NxW k p n ts op vs) : nxV k p n ts op vs 0 = cntV k p n ts op := by
  unfold nxV nxT
  rw [tsI_zero, opI_zero, cntV, cntB_true.2 h.cnt]; rfl
theorem NxW.cpos (h : NxW k p n ts op vs) {i : Nat} (hi : i < (labelsL ts).length) : ∀ u : Nat, u < (dimOf ts ((labelsL ts).getD i 0)).toNat → 0 ≤ cuV k p n ts op vs i u := fun u hu => (cu_range (h.cu hi (v := u) ⟨by omega, by omega⟩)).1
theorem NxW.labs (h : NxW k p n ts op vs) : ∀ i, i ≤ (labelsL ts).length → (labelsL ts).Perm ((labelsL ts).take i ++ labelsL (nxT k p n ts vs i))
  | 0, _ => by
    unfold nxT
    rw [tsI_zero, supp_lab, List.take_zero, List.nil_append]
  | i + 1, hi => by
    have ih := h.labs i (by omega); obtain ⟨h1, _, h3⟩ := h.tot (i := i) (by omega); have hdi := h3 i (Nat.le_refl _) (by omega); have hm := mem_labels.1 (mem_getD (show i < (labelsL ts).length by omega)); have hx : (labelsL ts).getD i 0 ∈ labelsL (nxT k p n ts vs i) := mem_labels.2 ⟨hm.1, by rw [hdi]; exact hm.2⟩; have hf := h.fit i (by omega); have hp := sl_labels h1 hx (v := vs.getD i 0) (by rw [hdi]; exact hf); have hlen := h.len; have e := nx_slice (k := k) (p := p) (n := n) (ts := ts) (vs := vs) (i := i) (by omega) (vs.getD i 0); rw [nx_next (by omega)] at e; rw [← e] at hp; refine ih.trans ?_; rw [take_succ (by omega), List.append_assoc]; exact hp.append_left _
theorem NxW.done (h : NxW k p n ts op vs) : labelsL (nxT k p n ts vs (labelsL ts).length) = [] := by
  have hp := (h.labs (labelsL ts).length (Nat.le_refl _)).length_eq; rw [List.take_length, List.length_append] at hp; exact List.eq_nil_of_length_eq_zero (by omega)
theorem NxW.inrange (h : NxW k p n ts op vs) {i : Nat} (hi : i ≤ (labelsL ts).length) {y : Int} (hy : y ∈ labelsL (nxT k p n ts vs i)) : 0 ≤ asgn (labelsL ts) vs y ∧ asgn (labelsL ts) vs y < dimOf (nxT k p n ts vs i) y := by
  have hp := h.labs i hi; have hyl : y ∈ labelsL ts := hp.mem_iff.2 (List.mem_append_right _ hy); have hg := findI_get hyl; have hnd := hp.nodup_iff.1 (labL_nodup ts); have hge : i ≤ (findI (labelsL ts) y).toNat := by
    rcases Nat.lt_or_ge (findI (labelsL ts) y).toNat i with c | c
    · have hmem : y ∈ (labelsL ts).take i := by
        rw [← hg.2]; have hlt : (findI (labelsL ts) y).toNat < ((labelsL ts).take i).length := by rw [List.length_take]; omega
        have e : ((labelsL ts).take i).getD (findI (labelsL ts) y).toNat 0 = (labelsL ts).getD (findI (labelsL ts) y).toNat 0 := by
          simp only [List.getD]; rw [List.getElem?_take, if_pos c]
        rw [← e]; exact mem_getD hlt
      exact absurd rfl ((List.nodup_append.1 hnd).2.2 y hmem y hy)
    · exact c
  obtain ⟨_, _, h3⟩ := h.tot hi; have hd := h3 _ hge hg.1; rw [hg.2] at hd; rw [hd]; have hf := h.fit _ hg.1; rw [hg.2] at hf; exact hf
theorem NxW.prod (h : NxW k p n ts op vs) (hR : RLaw 3 1000000 0) : ∀ i, i ≤ (labelsL ts).length → prodV r3 hR (nxT k p n ts vs i) (asgn (labelsL ts) vs) = prodV r3 hR (suppTs k p n ts) (asgn (labelsL ts) vs)
  | 0, _ => by unfold nxT; rw [tsI_zero]
  | i + 1, hi => by
    rw [← h.prod hR i (by omega)]; obtain ⟨h1, _, h3⟩ := h.tot (i := i) (by omega); have hdi := h3 i (Nat.le_refl _) (by omega); have hf := h.fit i (by omega); have hlen := h.len; have e := nx_slice (k := k) (p := p) (n := n) (ts := ts) (vs := vs) (i := i) (by omega) (vs.getD i 0); rw [nx_next (by omega)] at e; rw [e]; have hdm := net_dmap h1; have hat := asgn_at (vs := vs) (labL_nodup ts) (show i < (labelsL ts).length by omega); have hsub : ∀ l : List Ten, (∀ t ∈ l, t ∈ nxT k p n ts vs i) → prodV r3 hR (l.map fun t => fix1 3 0 t ((labelsL ts).getD i 0) (vs.getD i 0)) (asgn (labelsL ts) vs) = prodV r3 hR l (asgn (labelsL ts) vs) := fun l => by
      induction l with
      | nil => intro _; rfl
      | cons t l ih =>
        intro hl; have htm := hl t (by simp); rw [List.map_cons, prodV_cons, prodV_cons, ih fun u hu => hl u (by simp [hu]), val_fix r3 (h1.2.2.1 t htm) (hdm t htm) (by rw [hdi]; exact hf) fun y hy _ => h.inrange (by omega) (net_label h1 htm hy)]
        congr 2
        rw [← hat, upd_self]
    exact hsub _ fun _ h => h
theorem NxW.weight (h : NxW k p n ts op vs) (ha : assignL 3 1000000 0 (suppTs k p n ts) op vs) : weightL 3 1000000 0 (suppTs k p n ts) op vs = [nxV k p n ts op vs (labelsL ts).length] ∧ (nxV k p n ts op vs (labelsL ts).length = 0 ∨ nxV k p n ts op vs (labelsL ts).length = 1) := by
  have hR := law_cap (p := 1000000) (by omega) 0; have hat := assign_at ha; rw [supp_lab] at hat; have hel : ∀ t ∈ suppTs k p n ts, InR 3 1000000 0 (elt t.x (widthI 3 0) (offL t.d (idxAt (labelsL ts) vs t.l))) := fun t ht => elt_inR (hat.ten t ht) (hat.off ht).1 (hat.off ht).2; obtain ⟨h1, h2⟩ := fold_prod (vs := vs) (ls := labelsL ts) hR (suppTs k p n ts) (oneL 3 1000000 0) (oneL_in r3) hel; have hbit := fold_bit (vs := vs) (ls := labelsL ts) (suppTs k p n ts) (oneL 3 1000000 0) (.inr rfl) fun t ht => by
    have hi := hel t ht; obtain ⟨b, hb, _⟩ := in_one (by omega) (by omega) hi; obtain ⟨u, hu, rfl⟩ := List.mem_map.1 ht; have hbx : b ∈ (suppT k p n u).x := elt_mem (by rw [hb]; simp); have hbx' : b ∈ bitsL k p n u (prodI u.d).toNat := hbx; rw [bits_map] at hbx'; obtain ⟨m, _, e⟩ := List.mem_map.1 hbx'; rw [hb, ← e]
    unfold bitAt
    split
    · exact .inl rfl
    · exact .inr rfl
  have e1 : weightL 3 1000000 0 (suppTs k p n ts) op vs = (suppTs k p n ts).foldl (fun a t => mulL 3 1000000 0 a (elt t.x (widthI 3 0) (offL t.d (idxAt (labelsL ts) vs t.l)))) (oneL 3 1000000 0) := by
    rw [weightL, if_pos ha, weightTo, supp_lab]
  obtain ⟨_, ht, _⟩ := h.tot (Nat.le_refl _); have e2 := tot_sum r3 hR ht (asgn (labelsL ts) vs); rw [h.done, sumO, h.prod hR _ (Nat.le_refl _)] at e2; have e3 : toA r3 (oneL 3 1000000 0) = (smL r3 hR).one := by rw [toA_eq r3 (oneL_in r3)]; rfl
  rw [e3, (smL r3 hR).mul1, ← e2] at h2; have e4 := congrArg Subtype.val h2; rw [toA_val r3 h1, toA_val r3 ht.inR] at e4; rw [e1]; rw [e4] at hbit ⊢; have e5 : nxV k p n ts op vs (labelsL ts).length = (totX 3 1000000 0 (nxT k p n ts vs (labelsL ts).length) (opI op (labelsL ts) (labelsL ts).length)).getD 0 0 := rfl; rw [e5]
  rcases hbit with e | e
  · rw [e]; exact ⟨rfl, .inl rfl⟩
  · rw [e]; exact ⟨rfl, .inr rfl⟩
end
end Go.Proofs.YtiefkcaplhnnmaaGreat
namespace Go.Proofs.YtiefkcaplhnnmaaGreat
set_option maxRecDepth 100000
open Go.RowKit
theorem isum_le {c : Nat → Int} {B : Int} : ∀ {D : Nat}, (∀ i, i < D → c i ≤ B) → isum c D ≤ D * B
  | 0, _ => by simp [isum]
  | D + 1, h => by
    have ih := isum_le (c := c) (B := B) (D := D) fun i hi => h i (by omega); have h1 := h D (by omega); rw [isum]; rw [show ((D + 1 : Nat) : Int) = (D : Int) + 1 by omega, Int.add_mul, Int.one_mul]
    omega
section
variable {k p n : Int} {ts : List Ten} {op vs : List Int}
theorem NxW.set (h : NxW k p n ts op vs) {i : Nat} {v : Int} (hi : i < (labelsL ts).length) (hv : 0 ≤ v ∧ v < dimOf ts ((labelsL ts).getD i 0)) : NxW k p n ts op (vs.set i v) := by
  have hl := h.len; refine ⟨h.net, h.cnt, by rw [List.length_set]; exact hl, fun j hj => ?_⟩; have e : (vs.set i v).getD j 0 = if j = i then v else vs.getD j 0 := by
    by_cases c : j = i
    · subst c; simp [List.getD, show j < vs.length by omega]
    · rw [if_neg c]; simp [List.getD, List.getElem?_set_ne (Ne.symm c)]
  rw [e]
  by_cases c : j = i
  · rw [if_pos c, c]; exact hv
  · rw [if_neg c]; exact h.fit j hj
theorem NxW.cu_set (h : NxW k p n ts op vs) {i : Nat} {v : Int} (hi : i < (labelsL ts).length) (hv : 0 ≤ v ∧ v < dimOf ts ((labelsL ts).getD i 0)) : cuV k p n ts op vs i v = nxV k p n ts op (vs.set i v) (i + 1) := by
  have hl := h.len; rw [(h.set hi hv).next hi]; have e : (vs.set i v).getD i 0 = v := by simp [List.getD, show i < vs.length by omega]
  rw [e]
  unfold cuV
  rw [List.take_set_of_le (Nat.le_refl i)]
theorem NxW.assign (h : NxW k p n ts op vs) : assignL 3 1000000 0 (suppTs k p n ts) op vs := by
  have hl := h.len; refine ⟨supp_net h.net, ?_⟩; rw [supp_lab]; refine ⟨by simp [dimsFor, hl], fun j hj => ?_⟩
  unfold dimsFor
  rw [map_getD (by omega), supp_dim]; exact h.fit j (by omega)
theorem NxW.bound : ∀ (d : Nat) {i : Nat} {vs : List Int}, NxW k p n ts op vs → i + d = (labelsL ts).length → nxV k p n ts op vs i ≤ prodI (((labelsL ts).drop i).map (dimOf ts))
  | 0, i, vs, h, hd => by
    have := (h.weight h.assign).2; rw [show i = (labelsL ts).length by omega, List.drop_length]
    show _ ≤ (1 : Int)
    omega
  | d + 1, i, vs, h, hd => by
    have hi : i < (labelsL ts).length := by omega
    have hm : 0 < dimOf ts ((labelsL ts).getD i 0) := (mem_labels.1 (mem_getD hi)).2; have hB : ∀ u : Nat, u < (dimOf ts ((labelsL ts).getD i 0)).toNat → cuV k p n ts op vs i u ≤ prodI (((labelsL ts).drop (i + 1)).map (dimOf ts)) := fun u hu => by
      have hv : 0 ≤ (u : Int) ∧ (u : Int) < dimOf ts ((labelsL ts).getD i 0) := by omega
      rw [h.cu_set hi hv]; exact NxW.bound d (h.set hi hv) (by omega)
    have h1 := isum_le (c := fun (u : Nat) => cuV k p n ts op vs i u) hB; rw [h.sum hi, rk_isum]; have e : (labelsL ts).drop i = (labelsL ts).getD i 0 :: (labelsL ts).drop (i + 1) := by rw [List.drop_eq_getElem_cons hi]; simp [List.getD, hi]
    rw [e, List.map_cons, prodI_cons]; rw [Int.toNat_of_nonneg (by omega)] at h1; exact Int.le_trans (Int.min_le_left _ _) h1
theorem supp_small (h : SmallN ts) : SmallN (suppTs k p n ts) := fun l hn hl => by
  rw [supp_lab] at hl; have := h l hn hl; rw [show l.map (dimOf (suppTs k p n ts)) = l.map (dimOf ts) from List.map_congr_left fun x _ => supp_dim ts x]; exact this
theorem gen_cnt (hr : ringL k p n) (h : GenN k p n ts op) : cntP k p n ts op :=
  ⟨gen_net hr h, tot_small (supp_net (gen_net hr h)) (supp_small (gen_small h))⟩
theorem gen_nxw (hr : ringL k p n) (h : GenN k p n ts op) (hl : vs.length = (labelsL ts).length) (hf : fitI ts (labelsL ts) vs (labelsL ts).length) : NxW k p n ts op vs := ⟨gen_net hr h, gen_cnt hr h, hl, hf⟩
theorem gen_zero (hr : ringL k p n) (h : GenN k p n ts op) : NxW k p n ts op (List.replicate (labelsL ts).length 0) := gen_nxw hr h List.length_replicate fun j hj => by
  have e : (List.replicate (labelsL ts).length (0 : Int)).getD j 0 = 0 := by simp [List.getD, hj]
  have hm := (mem_labels.1 (mem_getD hj)).2; rw [e]; exact ⟨Int.le_refl 0, hm⟩
theorem gen_few (hr : ringL k p n) (h : GenN k p n ts op) : cntV k p n ts op ≤ 729 := by
  have h0 := gen_zero hr h; have h1 := h0.bound (labelsL ts).length (i := 0) (by omega); rw [h0.zero, List.drop_zero] at h1; exact Int.le_trans h1 (h.prod (labL_nodup ts) fun _ hx => hx).2
theorem gen_nx (hr : ringL k p n) (h : GenN k p n ts op) (hl : vs.length = (labelsL ts).length) (hf : fitI ts (labelsL ts) vs (labelsL ts).length) : NxOK k p n ts op vs :=
  ⟨gen_net hr h, gen_cnt hr h, by have := gen_few hr h; omega, hl, hf⟩
end
end Go.Proofs.YtiefkcaplhnnmaaGreat
namespace Go.Proofs.YtiefkcaplhnnmaaGreat
set_option maxRecDepth 100000
open Go.RowKit
section
variable {k p n : Int} {ts : List Ten} {op vs : List Int}
theorem asIn_some {i : Nat} {D : Int} (hcu : ∀ u : Nat, (u : Int) < D → cuP k p n ts op vs i u) : ∀ (f v : Nat) (q : Int), (v : Int) + f = D → 0 ≤ q → q < rkIn k p n ts op vs i D.toNat - rkIn k p n ts op vs i v →
    ∃ u : Nat, v ≤ u ∧ (u : Int) < D ∧ asIn k p n ts op vs i (D - v).toNat q v = some (vs ++ [(u : Int)], q - (rkIn k p n ts op vs i u - rkIn k p n ts op vs i v)) ∧ 0 ≤ q - (rkIn k p n ts op vs i u - rkIn k p n ts op vs i v) ∧ q - (rkIn k p n ts op vs i u - rkIn k p n ts op vs i v) < cuV k p n ts op vs i u
  | 0, v, q, hv, h0, hq => by
    rw [show D.toNat = v by omega] at hq
    omega
  | f + 1, v, q, hv, h0, hq => by
    have hc := hcu v (by omega)
    by_cases c : q < cuV k p n ts op vs i v
    · refine ⟨v, Nat.le_refl _, by omega, ?_, by omega, by omega⟩; rw [as_hit ⟨by omega, by omega⟩ hc c, Int.sub_self, Int.sub_zero]
    · have hs : rkIn k p n ts op vs i (v + 1) = rkIn k p n ts op vs i v + cuV k p n ts op vs i v := by rw [rkIn]
      obtain ⟨u, h1, h2, h3, h4, h5⟩ := asIn_some hcu f (v + 1) (q - cuV k p n ts op vs i v) (by omega) (by omega) (by rw [hs]; omega); have e : q - cuV k p n ts op vs i v - (rkIn k p n ts op vs i u - rkIn k p n ts op vs i (v + 1)) = q - (rkIn k p n ts op vs i u - rkIn k p n ts op vs i v) := by rw [hs]; omega
      rw [e] at h3 h4 h5; refine ⟨u, by omega, h2, ?_, h4, h5⟩; rw [as_next ⟨by omega, by omega⟩ hc c]; exact h3
def padV (ts : List Ten) (vs : List Int) : List Int := vs ++ List.replicate ((labelsL ts).length - vs.length) 0
theorem pad_snoc {u : Int} (h : vs.length < (labelsL ts).length) : (padV ts vs).set vs.length u = padV ts (vs ++ [u]) := by
  unfold padV
  rw [List.set_append_right _ _ (Nat.le_refl _), Nat.sub_self, show (labelsL ts).length - vs.length = (labelsL ts).length - (vs ++ [u]).length + 1 by simp; omega, List.replicate_succ, List.set_cons_zero, List.append_assoc]
  rfl
theorem gen_pad (hr : ringL k p n) (h : GenN k p n ts op) (hl : vs.length ≤ (labelsL ts).length) (hf : fitI ts (labelsL ts) vs vs.length) : NxOK k p n ts op (padV ts vs) := gen_nx hr h (by simp [padV]; omega) fun j hj => by
  by_cases c : j < vs.length
  · have e : (padV ts vs).getD j 0 = vs.getD j 0 := by simp only [padV, List.getD]; rw [List.getElem?_append_left c]
    rw [e]; exact hf j c
  · have e : (padV ts vs).getD j 0 = 0 := by
      simp only [padV, List.getD]; rw [List.getElem?_append_right (by omega), List.getElem?_replicate]
      split <;> rfl
    rw [e]; have hm := (mem_labels.1 (mem_getD hj)).2; exact ⟨Int.le_refl 0, hm⟩
theorem NxOK.w (h : NxOK k p n ts op vs) : NxW k p n ts op vs := ⟨h.net, h.cnt, h.len, h.fit⟩
theorem asTo_some (hr : ringL k p n) (h : GenN k p n ts op) {q : Int} (hq : 0 ≤ q ∧ q < cntV k p n ts op) : ∀ i, i ≤ (labelsL ts).length → ∃ vs q', asTo k p n ts op q i = some (vs, q') ∧ vs.length = i ∧ fitI ts (labelsL ts) vs i ∧ 0 ≤ q' ∧ q' < nxV k p n ts op (padV ts vs) i
  | 0, _ => by
    have H := gen_pad (vs := []) hr h (by simp) fun j hj => by simp at hj
    exact ⟨[], q, rfl, rfl, fun j hj => by omega, hq.1, by rw [H.zero]; exact hq.2⟩
  | i + 1, hi => by
    obtain ⟨vs, q', e1, hl, hf, h0, h1⟩ := asTo_some hr h hq i (by omega); subst hl; have hi' : vs.length < (labelsL ts).length := by omega
    have H := gen_pad hr h (by omega) hf; have htk : (padV ts vs).take vs.length = vs := by simp [padV]
    have hm := (mem_labels.1 (mem_getD hi')).2; have hD : 0 < dimOf ts ((labelsL ts).getD vs.length 0) := hm; have hs := H.sum hi'; have hrk := rkIn_take (k := k) (p := p) (n := n) (ts := ts) (op := op) (vs := padV ts vs) (i := vs.length) (m := vs.length) (Nat.le_refl _); rw [htk] at hrk; have hct := fun v : Int => cu_take (k := k) (p := p) (n := n) (ts := ts) (op := op) (vs := padV ts vs) (i := vs.length) (m := vs.length) (Nat.le_refl _) v; rw [htk] at hct; obtain ⟨u, _, hu, hA, hn, hx⟩ := asIn_some (vs := vs) (i := vs.length) (D := dimOf ts ((labelsL ts).getD vs.length 0)) (fun u hu => by rw [(hct u).1]; exact H.cu hi' ⟨by omega, hu⟩) (dimOf ts ((labelsL ts).getD vs.length 0)).toNat 0 q' (by omega) h0 (by rw [hrk, show rkIn k p n ts op vs vs.length 0 = 0 from rfl]; omega); have hv : 0 ≤ (u : Int) ∧ (u : Int) < dimOf ts ((labelsL ts).getD vs.length 0) := ⟨by omega, hu⟩
    refine ⟨vs ++ [(u : Int)], _, by rw [asTo_step e1]; exact hA, by simp, fun j hj => ?_, hn, ?_⟩
    · by_cases c : j < vs.length
      · have e : (vs ++ [(u : Int)]).getD j 0 = vs.getD j 0 := by simp only [List.getD]; rw [List.getElem?_append_left c]
        rw [e]; exact hf j c
      · have e : (vs ++ [(u : Int)]).getD j 0 = u := by rw [show j = vs.length by omega]; simp [List.getD]
        rw [e, show j = vs.length by omega]; exact hv
    · rw [← pad_snoc hi', ← H.w.cu_set hi' hv, ← (hct u).2]; exact hx
theorem NxOK.assign (h : NxOK k p n ts op vs) : assignL k p n ts op vs := by
  have hl := h.len; refine ⟨h.net, by simp [dimsFor, hl], fun j hj => ?_⟩
  unfold dimsFor
  rw [map_getD (by omega)]; exact h.fit j (by omega)
theorem NxOK.rank (h : NxOK k p n ts op vs) : rkB k p n ts op vs = true ∧ rkV k p n ts op vs = rkTo k p n ts op vs (labelsL ts).length := by
  have hP : rkP k p n ts op vs := ⟨⟨h.cnt, h.small⟩, h.assign, fun j hj v hv => h.cu hj ⟨by omega, by have := h.fit j hj; omega⟩⟩
  have hb : rkB k p n ts op vs = true := by simp [rkB, hP]
  exact ⟨hb, by rw [rkV, hb]; rfl⟩
theorem NxOK.last (h : NxOK k p n ts op vs) : nxV k p n ts op vs (labelsL ts).length = 0 ∨ nxV k p n ts op vs (labelsL ts).length = 1 := (h.w.weight h.w.assign).2
theorem NxOK.rank_le (h : NxOK k p n ts op vs) : rkV k p n ts op vs ≤ cntV k p n ts op := by
  have h1 := h.room (labelsL ts).length (i := 0) (by omega); have h2 := h.last; rw [h.zero, show rkTo k p n ts op vs 0 = 0 from rfl] at h1; rw [h.rank.2]
  omega
theorem gen_at (hr : ringL k p n) (h : GenN k p n ts op) {q : Int} (hq : 0 ≤ q ∧ q < cntV k p n ts op) :
    asB k p n ts op q = true ∧ NxOK k p n ts op (asX k p n ts op q) ∧ rkTo k p n ts op (asX k p n ts op q) (labelsL ts).length = q ∧ nxV k p n ts op (asX k p n ts op q) (labelsL ts).length = 1 := by
  obtain ⟨vs, q', e1, hl, hf, h0, h1⟩ := asTo_some hr h hq (labelsL ts).length (Nat.le_refl _); have hP : asP k p n ts op q := ⟨⟨gen_cnt hr h, by have := gen_few hr h; omega⟩, hq⟩
  have hO : asO k p n ts op q = some (vs, q') := by rw [asO, if_pos hP]; exact e1
  have hX : asX k p n ts op q = vs := by rw [asX, hO]; rfl
  have hB : asB k p n ts op q = true := by rw [asB, hO]; rfl
  have hpd : padV ts vs = vs := by simp [padV, hl]
  rw [hpd] at h1; have H := gen_nx hr h hl hf; have hinv := (asTo_inv e1).2.1; have hw := H.last; rw [hX]
  simp only at hinv
  exact ⟨hB, H, by omega, by omega⟩
theorem gen_none {q : Int} (hq : cntV k p n ts op ≤ q) : asB k p n ts op q = false := by
  rw [asB, asO_none fun h => by have := h.2.2; omega]
  rfl
end
end Go.Proofs.YtiefkcaplhnnmaaGreat
namespace Go.Proofs.YtiefkcaplhnnmaaGreat
set_option maxRecDepth 100000
open Go.RowKit
set_option maxHeartbeats 4000000 in
theorem ct_i_AssignmentAt (k p n q : Int) (ts : List Ten) (op : List Int) (vt vo : Value) (w : World) (r : TensR ts vt (hp w)) (r' : IntsR op vo (hp w)) (hs : op.length ≤ 1048576) :
    Calls Tryz.prog 9 [netV k p n vt vo, num q].toArray w (Ret w emp (IntsB (asX k p n ts op q) (asB k p n ts op q))) := by
  have hcr := cnt_range (k := k) (p := p) (n := n) (ts := ts) (op := op); refine calls_in Tryz.func9 rfl Tryz.ntmps9 rfl (Sat.start w) ?_; have hle0 := r.le; obtain ⟨cs_r, rr_r, hc_r⟩ := r.at; have hle1 := r'.le; refine wp_sc (wp_sq ?_); refine sq_x rfl (x_box rfl rfl) rfl ?_; rintro _ _ ⟨b2, rfl, rfl⟩; refine sq_v rfl (v_assign rfl) rfl (sq_v rfl (v_assign rfl) rfl (sq_end (qs_n (wp_sc (wp_sq (sq_v rfl (v_loadNB 0 ty_29 rfl rfl rfl rfl) rfl (sq_u rfl (x_callv rfl en_36 (fun w s => ct_i_countBelow _ _ _ _ _ _ _ w (r.mono (s.get 1 rfl)) (r'.mono (s.get 1 rfl)) (by first | assumption | omega))) rfl (sq_v rfl (v_move rfl) rfl (sq_v rfl (v_extract rfl rfl) rfl (sq_v rfl (v_extract rfl rfl) rfl (sq_v rfl (v_assign rfl) rfl (sq_v rfl (v_assign rfl) rfl (sq_end (qs_n (wp_sc (wp_sc (wp_sq ?_))))))))))))))))); refine sq_bb 7 rfl (fun c7 => ?_) (fun c7 => ?_)
  · refine sq_v rfl (v_move rfl) rfl (sq_v rfl (v_not rfl) rfl (sq_v rfl (v_move rfl) rfl (sq_v rfl (v_move rfl) rfl (sq_v rfl (v_lss rfl rfl) rfl (sq_v rfl (v_pickf rfl rfl) rfl ?_))))); refine sq_bd 28 rfl (fun c28 => ?_) (fun c28 => ?_)
    · refine sq_v rfl (v_move rfl) rfl (sq_s rfl rfl (sq_s rfl rfl (sq_s rfl rfl (sq_v rfl (v_pickt rfl rfl) rfl (sq_end (qs_n (wp_ct rfl (wp_sc (wp_sq (sq_v rfl (v_assign rfl) rfl (sq_v rfl (v_assign rfl) rfl (sq_end (qs_n (wp_rt (qs_r ?_))))))))))))))); exact qs_ret2 rfl rfl rfl (fin_e (i := 1) rfl (AtNo (asO_none fun h => by have := h.2.1; omega)))
    · refine sq_v rfl (v_move rfl) rfl (sq_v rfl (v_move rfl) rfl (sq_v rfl (v_move rfl) rfl (sq_v rfl (v_geq rfl rfl) rfl (sq_v rfl (v_pickf rfl rfl) rfl (sq_end (qs_n ?_)))))); refine wp_cd rfl (fun c33 => ?_) (fun c33 => ?_)
      · refine wp_sc (wp_sq (sq_v rfl (v_assign rfl) rfl (sq_v rfl (v_assign rfl) rfl (sq_end (qs_n (wp_rt (qs_r ?_))))))); exact qs_ret2 rfl rfl rfl (fin_e (i := 1) rfl (AtNo (asO_none fun h => by have := h.2.2; rw [show ifB (cntB k p n ts op && decide (cntV k p n ts op ≠ 1000000)) (cntV k p n ts op) 0 = cntV k p n ts op from by rw [c7]; rfl] at c33; omega)))
      · refine wp_sk (qs_n (wp_sc (wp_sq (sq_v rfl (v_assign rfl) rfl (sq_end (qs_n (wp_sc (wp_sq (sq_v rfl (v_loadNB 0 ty_29 rfl rfl rfl rfl) rfl ?_))))))))); refine sq_x rfl (x_alloc ty_29 rfl) rfl ?_; rintro _ _ ⟨b9, rfl, rfl⟩; refine sq_m 0 rfl rfl (m_store 0 ty_29 rfl rfl rfl rfl (by simp [one_int, r.sl.one, r'.sl.one]) rfl (Nat.le_of_ble_eq_true rfl)) rfl ?_; rintro _ _ ⟨rfl, rfl⟩; refine sq_end (qs_n (wp_sc (wp_sc (wp_sq (sq_v rfl (v_loadNB 1 ty_29 rfl rfl rfl rfl) rfl ?_))))); refine sq_x rfl (x_call rfl en_23 (fun w s => ct_i_LabelsOf _ _ _ _ _ _ _ w (r.mono (s.get 2 rfl)) (r'.mono (s.get 2 rfl)) (by first | assumption | omega))) rfl ?_; rintro v36 h36 r36; refine sq_v rfl (v_len Tryz.underlying27 rfl r36.toR.sl) rfl (sq_v rfl (v_move rfl) rfl (sq_end ?_)); have hcc : cntP k p n ts op ∧ cntV k p n ts op ≠ 1000000 := by rw [Bool.and_eq_true] at c7; exact ⟨cntB_true.1 c7.1, of_decide_eq_true c7.2⟩
        have hnet := hcc.1.1; have hap : asP k p n ts op q := ⟨hcc, by rw [show ifB (cntB k p n ts op && decide (cntV k p n ts op ≠ 1000000)) (cntV k p n ts op) 0 = cntV k p n ts op from by rw [c7]; rfl] at c33; omega⟩
        have hB := netB_true.2 hnet; have hlo : labelsOf k p n ts op = labelsL ts := if_pos hnet; rw [hlo] at r36 ⊢; refine qs_s [PUn emp (hp w), h36, box b9 [num k, num p, num n, vt, vo] 29, box b2 [num k, num p, num n, vt, vo] 29] (fun _ s => Sat.merge (emp_sat (s.pick (HS' := [hp w, h36, box b9 [num k, num p, num n, vt, vo] 29, box b2 [num k, num p, num n, vt, vo] 29]) [3, 0, 1, 2] (by decide) rfl))) (qs_n (wp_bl ?_)); refine wp_lp (σ := Nat × (List Int) × Int × Value × PH × Value × Value × PH) (fun z_ => [(1, num z_.2.2.1), (2, .pointer (some ⟨b2, 0, none⟩)), (4, .slice none 0 0), (5, .bool false), (8, z_.2.2.2.1), (9, .pointer (some ⟨b9, 0, none⟩)), (36, v36), (37, num (labelsL ts).length), (38, num z_.1)]) (fun z_ => [z_.2.2.2.2.1, (PUn z_.2.2.2.2.2.2.2 (hp w)), h36, box b9 [num k, num p, num n, z_.2.2.2.2.2.1, z_.2.2.2.2.2.2.1] 29, box b2 [num k, num p, num n, vt, vo] 29]) (fun z_ => z_.1 ≤ (labelsL ts).length ∧ z_.2.1.length = z_.1 ∧ fitI ts (labelsL ts) z_.2.1 z_.1 ∧ (0 ≤ z_.2.2.1 ∧ z_.2.2.1 ≤ 1000000) ∧ asTo k p n ts op q z_.1 = some (z_.2.1, z_.2.2.1) ∧ PDj z_.2.2.2.2.2.2.2 (hp w) ∧ TensR (tsI k n ts (labelsL ts) z_.2.1 z_.1) z_.2.2.2.2.2.1 (PUn z_.2.2.2.2.2.2.2 (hp w)) ∧ IntsR (opI op (labelsL ts) z_.1) z_.2.2.2.2.2.2.1 (PUn z_.2.2.2.2.2.2.2 (hp w)) ∧ IntsO z_.2.1 z_.2.2.2.1 z_.2.2.2.2.1) (fun z_ => (labelsL ts).length - z_.1) (0, [], q, .slice none 0 0, emp, vt, vo, emp) (⟨by (try dsimp only); omega, rfl, fun j hj => by omega, by (try dsimp only); have := hap.2; omega, rfl, PDj.emp _, by (try dsimp only); rw [tsI_zero]; exact r.mono (PLe.un_r (PDj.emp _)), by (try dsimp only); rw [opI_zero]; exact r'.mono (PLe.un_r (PDj.emp _)), IntsO.nil⟩) ⟨(by first | rfl | exact ksub rfl (by first | omega | (simp; done) | (simp; omega))), rfl, rfl, rfl, (by first | rfl | exact ksub rfl (by first | omega | (simp; done) | (simp; omega))), rfl, rfl, rfl, (by first | rfl | exact ksub rfl (by first | omega | (simp; done) | (simp; omega))), trivial⟩ (fun _ s => (emp_sat s)) ?_; rintro ⟨i, vs, q', lv, lh, lx, lo, hl⟩ ⟨hi, hvl, hfi, hq, has, hdj, rT, rO, qv⟩; dsimp only at hi hvl hfi hq has hdj rT rO qv ⊢; have hle_qv := qv.toR.le; have hll : (labelsL ts).length ≤ 100 := labels_len ts 100; have htk : vs.take i = vs := List.take_of_length_le (by omega); have hni := netI hnet (labL_nodup ts) i hi hfi; have hol := opI_len op (labelsL ts) i; refine wp_sc (wp_sq (sq_v rfl (v_lss rfl rfl) rfl (sq_end (qs_n (wp_sc ?_))))); refine wp_cd rfl (fun c39 => ?_) (fun c39 => ?_)
        · refine wp_sk (qs_n (wp_sc (wp_bl (wp_sc (wp_sq ?_))))); refine sq_v rfl (v_idxI Tryz.underlying27 ty_3 rfl rfl r36.toR (by first | omega | (simp; omega) | (simp only [List.length_append, List.length_cons, List.length_nil]; omega) | (rw [List.length_set]; omega)) (by first | omega | (simp; omega) | (simp only [List.length_append, List.length_cons, List.length_nil]; omega) | (rw [List.length_set]; omega))) rfl ?_; refine sq_v rfl (v_loadI (k := i) 2 ty_3 rfl rfl r36.toR (by first | omega | (simp; omega) | (simp only [List.length_append, List.length_cons, List.length_nil]; omega) | (rw [List.length_set]; omega))) rfl ?_; refine sq_v rfl (v_assign rfl) rfl (sq_end (qs_n (wp_sc (wp_sq (sq_v rfl (v_assign rfl) rfl (sq_end (qs_n (wp_sc (wp_sc (wp_sq (sq_v rfl (v_assign rfl) rfl (sq_end (qs_n (wp_bl ?_)))))))))))))); refine wp_lp (σ := Int × Int × Bool × (List Int) × Nat × Value × PH × Value × Value × PH) (fun z_ => [(1, num z_.2.1), (2, .pointer (some ⟨b2, 0, none⟩)), (4, .slice none 0 0), (5, .bool false), (8, z_.2.2.2.2.2.1), (9, .pointer (some ⟨b9, 0, none⟩)), (11, num ((labelsL ts).getD i 0)), (12, .bool z_.2.2.1), (13, num z_.1), (36, v36), (37, num (labelsL ts).length), (38, num i), (39, .bool (decide ((i : Int) < (labelsL ts).length))), (41, num ((labelsL ts).getD i 0))]) (fun z_ => [z_.2.2.2.2.2.2.1, (PUn z_.2.2.2.2.2.2.2.2.2 (hp w)), h36, box b9 [num k, num p, num n, z_.2.2.2.2.2.2.2.1, z_.2.2.2.2.2.2.2.2.1] 29, box b2 [num k, num p, num n, vt, vo] 29]) (fun z_ => (0 ≤ z_.1 ∧ z_.1 ≤ dimOf ts ((labelsL ts).getD i 0)) ∧ (0 ≤ z_.2.1 ∧ z_.2.1 ≤ 1000000) ∧ ((z_.2.2.1 = false → i = z_.2.2.2.2.1 ∧ vs = z_.2.2.2.1 ∧ asTo k p n ts op q (i + 1) = asIn k p n ts op vs i (dimOf ts ((labelsL ts).getD i 0) - z_.1).toNat z_.2.1 z_.1)) ∧ ((z_.2.2.1 = true → z_.2.2.2.2.1 = i + 1 ∧ z_.2.2.2.1.length = i + 1 ∧ fitI ts (labelsL ts) z_.2.2.2.1 (i + 1) ∧ asTo k p n ts op q (i + 1) = some (z_.2.2.2.1, z_.2.1))) ∧ PDj z_.2.2.2.2.2.2.2.2.2 (hp w) ∧ TensR (tsI k n ts (labelsL ts) z_.2.2.2.1 z_.2.2.2.2.1) z_.2.2.2.2.2.2.2.1 (PUn z_.2.2.2.2.2.2.2.2.2 (hp w)) ∧ IntsR (opI op (labelsL ts) z_.2.2.2.2.1) z_.2.2.2.2.2.2.2.2.1 (PUn z_.2.2.2.2.2.2.2.2.2 (hp w)) ∧ IntsO z_.2.2.2.1 z_.2.2.2.2.2.1 z_.2.2.2.2.2.2.1) (fun z_ => (dimOf ts ((labelsL ts).getD i 0) - z_.1).toNat) (0, q', false, vs, i, lv, lh, lx, lo, hl) (⟨by (try dsimp only); have := (dimOf_range (ts := ts) (fun t ht => axes_ok (net_axes hnet t ht)) ((labelsL ts).getD i 0)); omega, hq, fun _ => ⟨rfl, rfl, asTo_step has⟩, (fun h => by cases h), hdj, rT, rO, qv⟩) ⟨(by first | rfl | exact ksub rfl (by first | omega | (simp; done) | (simp; omega))), rfl, rfl, rfl, (by first | rfl | exact ksub rfl (by first | omega | (simp; done) | (simp; omega))), rfl, rfl, (by first | rfl | exact ksub rfl (by first | omega | (simp; done) | (simp; omega))), (by first | rfl | exact ksub rfl (by first | omega | (simp; done) | (simp; omega))), rfl, rfl, rfl, rfl, rfl, trivial⟩ (fun _ s => s) ?_; rintro ⟨v, q2, fd, cs2, m2, cv, ch, mx, mo, hm⟩ ⟨hv, hq2, hf0, hf1, hdm, sT, sO, qw⟩; dsimp only at hv hq2 hf0 hf1 hdm sT sO qw ⊢; have hle_qw := qw.toR.le; have hd8 := (dimOf_range (ts := ts) (fun t ht => axes_ok (net_axes hnet t ht)) ((labelsL ts).getD i 0))
          have hx8 : ifB (netB k p n ts op) (dimOf ts ((labelsL ts).getD i 0)) 0 = dimOf ts ((labelsL ts).getD i 0) := by rw [hB]; rfl
          refine wp_sc (wp_sc (wp_sq (sq_v rfl (v_move rfl) rfl (sq_v rfl (v_loadNB 4 ty_29 rfl rfl rfl rfl) rfl (sq_v rfl (v_move rfl) rfl (sq_u rfl (x_callv rfl en_37 (fun w s => ct_i_DimOf _ _ _ _ _ _ _ _ w ((r.mono (PLe.un_r hdm)).mono (s.get 1 rfl)) ((r'.mono (PLe.un_r hdm)).mono (s.get 1 rfl)) (by first | assumption | omega))) rfl (sq_v rfl (v_lss rfl rfl) rfl ?_))))))); refine sq_bd 46 rfl (fun c46 => ?_) (fun c46 => ?_)
          · refine sq_v rfl (v_move rfl) rfl (sq_v rfl (v_move rfl) rfl (sq_v rfl (v_not rfl) rfl (sq_v rfl (v_pickt rfl rfl) rfl (sq_end (qs_n ?_))))); refine wp_cn _ rfl (fun c50 => ?_) (fun c50 => ?_)
            · refine wp_sk (qs_n (wp_sc (wp_bl (wp_sc (wp_sq ?_))))); subst c50; obtain ⟨rfl, rfl, hin⟩ := hf0 rfl; have hlt : v < dimOf ts ((labelsL ts).getD i 0) := (by rw [hx8] at c46; exact c46); have hni2 := hni.2 i (Nat.le_refl _) (by omega); have hofl := List.length_filter_le (fun y => decide (y ≠ (labelsL ts).getD i 0)) (opI op (labelsL ts) i); have hci := cu_impl hnet (show i < (labelsL ts).length by omega) (show i ≤ vs.length by omega) hfi ⟨hv.1, hlt⟩; rw [cu_step (show i ≤ vs.length by omega), opI_step op (show i < (labelsL ts).length by omega)] at hci; refine sq_v rfl (v_loadNB 3 ty_29 rfl rfl rfl rfl) rfl (sq_v rfl (v_move rfl) rfl (sq_v rfl (v_move rfl) rfl ?_)); refine sq_x rfl (x_call rfl en_38 (fun w s => ct_i_SliceNetwork _ _ _ _ _ _ _ _ _ w (sT.mono (s.get 1 rfl)) (sO.mono (s.get 1 rfl)) (by omega) hni.1 ⟨hv.1, by rw [hni2]; exact hlt⟩)) rfl ?_; rintro _ h57 ⟨vt57, vo57, rfl, o57⟩; obtain ⟨cs_T_57, rr_T_57, hc_T_57⟩ := o57.toR.1.at; refine sq_v rfl (v_move rfl) rfl (sq_v rfl (v_extract rfl rfl) rfl (sq_v rfl (v_extract rfl rfl) rfl ?_)); refine sq_x rfl (x_alloc ty_29 rfl) rfl ?_; rintro _ _ ⟨b14, rfl, rfl⟩; refine sq_m 0 rfl rfl (m_store 0 ty_29 rfl rfl rfl rfl (by simp [one_int, o57.toR.1.sl.one, o57.toR.2.sl.one]) rfl (Nat.le_of_ble_eq_true rfl)) rfl ?_; rintro _ _ ⟨rfl, rfl⟩; refine sq_v rfl (v_assign rfl) rfl (sq_end (qs_n (wp_sc (wp_sq (sq_v rfl (v_loadNB 0 ty_29 rfl rfl rfl rfl) rfl (sq_u rfl (x_callv rfl en_8 (fun w s => ct_i_CountPositive _ _ _ _ _ _ _ w (o57.toR.1.mono (s.get 1 rfl)) (o57.toR.2.mono (s.get 1 rfl)) (by omega))) rfl (sq_v rfl (v_move rfl) rfl (sq_v rfl (v_extract rfl rfl) rfl (sq_v rfl (v_extract rfl rfl) rfl (sq_v rfl (v_assign rfl) rfl (sq_v rfl (v_assign rfl) rfl (sq_end (qs_n (wp_sc (wp_sc (wp_sq (sq_v rfl (v_move rfl) rfl (sq_v rfl (v_not rfl) rfl (sq_end (qs_n ?_)))))))))))))))))))); refine wp_cn _ rfl (fun c66 => ?_) (fun c66 => ?_)
              · refine wp_sc (wp_sq (sq_v rfl (v_assign rfl) rfl (sq_v rfl (v_assign rfl) rfl (sq_end (qs_n (wp_rt (qs_r (qs_br (qs_r (qs_r (qs_br (qs_r (qs_br (qs_r (qs_r (qs_br (qs_r (qs_s [hm, hp w] (fun _ s => Sat.part hdm (s.pick [3] (by decide) rfl)) ?_)))))))))))))))))); exact qs_ret2 rfl rfl rfl (fin_e (i := 1) rfl (AtNo (asO_at (i := i + 1) (hin.trans (as_no (fun h => cntB_false.1 c66 (hci.1.2 h)))) (by omega))))
              · refine wp_sk (qs_n (wp_sc (wp_sq ?_))); have hcu := hci.1.1 (cntB_true.1 c66); rw [hci.2 hcu]; have hrg := cu_range hcu; refine sq_v rfl (v_move rfl) rfl (sq_v rfl (v_move rfl) rfl (sq_v rfl (v_lss rfl rfl) rfl (sq_end (qs_n ?_)))); refine wp_cd rfl (fun c69 => ?_) (fun c69 => ?_)
                · refine wp_sc (wp_sq (sq_v rfl (v_assign rfl) rfl (sq_end (qs_n (wp_sc (wp_sq (sq_v rfl (v_move rfl) rfl (sq_v rfl (v_move rfl) rfl ?_)))))))); refine sq_x rfl (x_buildS [num (v)] Tryz.underlying27 ty_3 (by decide) rfl rfl rfl (by decide) (by decide) (by intro v hv; simp at hv; rcases hv with rfl <;> rfl)) rfl ?_; intro v72 h72 (r72 : IntsO [v] v72 h72); refine sq_m 3 rfl rfl (m_appI 3 0 Tryz.underlying27 ty_3 rfl rfl rfl rfl qw rfl r72.toR (by first | omega | (simp; omega) | (simp only [List.length_append, List.length_cons, List.length_nil]; omega) | (rw [List.length_set]; omega))) rfl ?_; intro v73 h_r73 r73; refine sq_v rfl (v_assign rfl) rfl (sq_end (qs_n (wp_sq (sq_v rfl (v_loadNB 1 ty_29 rfl rfl rfl rfl) rfl ?_)))); refine sq_m 6 rfl rfl (m_store 6 ty_29 rfl rfl rfl rfl (by simp [one_int, o57.toR.1.sl.one, o57.toR.2.sl.one]) rfl (Nat.le_of_ble_eq_true rfl)) rfl ?_; rintro _ _ ⟨rfl, rfl⟩; refine sq_end (qs_bn (qs_n (wp_sq (sq_v rfl (v_move rfl) rfl ?_)))); refine sq_v rfl (v_add rfl rfl ((by unfold I64; omega))) rfl ?_; refine sq_v rfl (v_assign rfl) rfl (sq_end ?_); refine qs_dj 4 2 rfl rfl rfl (fun hdm2 => ?_); exact qs_bk (v + 1, q2, true, vs ++ [v], i + 1, v73, h_r73, vt57, vo57, h57) ⟨by (try dsimp only); omega, hq2, (fun h => by cases h), (fun _ => ⟨rfl, by rw [List.length_append, hvl]; rfl, by have := cu_fit (show i ≤ vs.length by omega) hfi ⟨hv.1, hlt⟩; rwa [htk] at this, hin.trans (as_hit ⟨hv.1, hlt⟩ hcu c69)⟩), (hdm2.mono (PLe.un_r hdm)).symm, by (try dsimp only); have e := cu_step (k := k) (n := n) (ts := ts) (v := v) (show i ≤ vs.length by omega); rw [cuT, htk] at e; rw [e]; exact o57.toR.1.mono (PLe.un_l _ _), by (try dsimp only); rw [opI_step op (by omega)]; exact o57.toR.2.mono (PLe.un_l _ _), r73⟩ (by simp only; omega) ⟨(by first | rfl | exact ksub rfl (by first | omega | (simp; done) | (simp; omega))), rfl, rfl, rfl, (by first | rfl | exact ksub rfl (by first | omega | (simp; done) | (simp; omega))), rfl, rfl, (by first | rfl | exact ksub rfl (by first | omega | (simp; done) | (simp; omega))), (by first | rfl | exact ksub rfl (by first | omega | (simp; done) | (simp; omega))), rfl, rfl, rfl, rfl, rfl, trivial⟩ (fun _ s => (Sat.merge ((Sat.part hdm (s.pick (HS' := [PUn hm (hp w), h57, h_r73, h36, box b9 [num k, num p, num n, vt57, vo57] 29, box b2 [num k, num p, num n, vt, vo] 29]) [4, 2, 3, 5, 6, 7] (by decide) rfl)).pick (HS' := [h57, hp w, h_r73, h36, box b9 [num k, num p, num n, vt57, vo57] 29, box b2 [num k, num p, num n, vt, vo] 29]) [2, 1, 3, 4, 5, 6] (by decide) rfl)).pick (HS' := [h_r73, PUn h57 (hp w), h36, box b9 [num k, num p, num n, vt57, vo57] 29, box b2 [num k, num p, num n, vt, vo] 29]) [1, 0, 2, 3, 4] (by decide) rfl)
                · refine wp_sq (sq_v rfl (v_move rfl) rfl (sq_v rfl (v_move rfl) rfl ?_)); refine sq_v rfl (v_sub rfl rfl ((by unfold I64; omega))) rfl ?_; refine sq_v rfl (v_assign rfl) rfl (sq_end (qs_bn (qs_n (wp_sq (sq_v rfl (v_move rfl) rfl ?_))))); refine sq_v rfl (v_add rfl rfl ((by unfold I64; omega))) rfl ?_; refine sq_v rfl (v_assign rfl) rfl (sq_end ?_); exact qs_bk (v + 1, q2 - cuV k p n ts op vs i v, false, vs, i, cv, ch, mx, mo, hm) ⟨by (try dsimp only); omega, by (try dsimp only); omega, (fun _ => ⟨rfl, rfl, hin.trans (as_next ⟨hv.1, hlt⟩ hcu c69)⟩), (fun h => by cases h), hdm, sT, sO, qw⟩ (by simp only; omega) ⟨(by first | rfl | exact ksub rfl (by first | omega | (simp; done) | (simp; omega))), rfl, rfl, rfl, (by first | rfl | exact ksub rfl (by first | omega | (simp; done) | (simp; omega))), rfl, rfl, (by first | rfl | exact ksub rfl (by first | omega | (simp; done) | (simp; omega))), (by first | rfl | exact ksub rfl (by first | omega | (simp; done) | (simp; omega))), rfl, rfl, rfl, rfl, rfl, trivial⟩ (fun _ s => s.pick [2, 3, 4, 5, 6] (by decide) rfl)
            · refine wp_ex (qs_x (qs_x (qs_bx (qs_n (wp_sc (wp_sq (sq_v rfl (v_move rfl) rfl (sq_v rfl (v_not rfl) rfl (sq_end (qs_n ?_)))))))))); refine wp_cn _ rfl (fun c79 => ?_) (fun c79 => ?_)
              · refine wp_sc (wp_sq (sq_v rfl (v_assign rfl) rfl (sq_v rfl (v_assign rfl) rfl (sq_end (qs_n (wp_rt (qs_br (qs_r (qs_r (qs_br (qs_r ?_))))))))))); exact absurd (c50.symm.trans c79) (by decide)
              · refine wp_sk (qs_bn (qs_n (wp_sq ?_))); refine sq_v rfl (v_add rfl rfl ((by unfold I64; omega))) rfl ?_; refine sq_v rfl (v_move rfl) rfl (sq_end ?_); exact qs_bk (i + 1, cs2, q2, cv, ch, mx, mo, hm) ⟨by (try dsimp only); omega, (hf1 c79).2.1, (hf1 c79).2.2.1, hq2, (hf1 c79).2.2.2, hdm, by (try dsimp only); have e := (hf1 c79).1; subst e; exact sT, by (try dsimp only); have e := (hf1 c79).1; subst e; exact sO, qw⟩ (by simp only; omega) ⟨(by first | rfl | exact ksub rfl (by first | omega | (simp; done) | (simp; omega))), rfl, rfl, rfl, (by first | rfl | exact ksub rfl (by first | omega | (simp; done) | (simp; omega))), rfl, rfl, rfl, (by first | rfl | exact ksub rfl (by first | omega | (simp; done) | (simp; omega))), trivial⟩ (fun _ s => s)
          · refine sq_v rfl (v_move rfl) rfl (sq_s rfl rfl (sq_s rfl rfl (sq_v rfl (v_pickf rfl rfl) rfl (sq_end (qs_n (wp_cf rfl (wp_ex (qs_x (qs_x (qs_bx (qs_n (wp_sc (wp_sq (sq_v rfl (v_move rfl) rfl (sq_v rfl (v_not rfl) rfl (sq_end (qs_n ?_))))))))))))))))); refine wp_cn _ rfl (fun c79 => ?_) (fun c79 => ?_)
            · refine wp_sc (wp_sq (sq_v rfl (v_assign rfl) rfl (sq_v rfl (v_assign rfl) rfl (sq_end (qs_n (wp_rt (qs_br (qs_r (qs_r (qs_br (qs_r (qs_s [hm, hp w] (fun _ s => Sat.part hdm (s.pick [1] (by decide) rfl)) ?_)))))))))))); exact qs_ret2 rfl rfl rfl (fin_e (i := 1) rfl (AtNo (asO_at (i := i + 1) ((hf0 c79).2.2.trans (as_end (by rw [hx8] at c46; omega))) (by omega))))
            · refine wp_sk (qs_bn (qs_n (wp_sq ?_))); refine sq_v rfl (v_add rfl rfl ((by unfold I64; omega))) rfl ?_; refine sq_v rfl (v_move rfl) rfl (sq_end ?_); exact qs_bk (i + 1, cs2, q2, cv, ch, mx, mo, hm) ⟨by (try dsimp only); omega, (hf1 c79).2.1, (hf1 c79).2.2.1, hq2, (hf1 c79).2.2.2, hdm, by (try dsimp only); have e := (hf1 c79).1; subst e; exact sT, by (try dsimp only); have e := (hf1 c79).1; subst e; exact sO, qw⟩ (by simp only; omega) ⟨(by first | rfl | exact ksub rfl (by first | omega | (simp; done) | (simp; omega))), rfl, rfl, rfl, (by first | rfl | exact ksub rfl (by first | omega | (simp; done) | (simp; omega))), rfl, rfl, rfl, (by first | rfl | exact ksub rfl (by first | omega | (simp; done) | (simp; omega))), trivial⟩ (fun _ s => s)
        · refine wp_ex (qs_x (qs_x (qs_bx (qs_n (wp_sc (wp_sq (sq_v rfl (v_move rfl) rfl (sq_v rfl (v_assign rfl) rfl (sq_v rfl (v_assign rfl) rfl (sq_end (qs_n (wp_rt (qs_s [hl, hp w, lh] (fun _ s => Sat.part hdj (s.pick [1, 0] (by decide) rfl)) ?_))))))))))))); exact qs_ret2 rfl rfl rfl (fin_t 2 (i := 1) rfl rfl rfl (AtYes hap has (by omega) qv))
  · refine sq_v rfl (v_move rfl) rfl (sq_v rfl (v_not rfl) rfl (sq_v rfl (v_move rfl) rfl (sq_s rfl rfl (sq_s rfl rfl (sq_v rfl (v_pickt rfl rfl) rfl (sq_v rfl (v_move rfl) rfl (sq_s rfl rfl (sq_s rfl rfl (sq_s rfl rfl ?_))))))))); refine sq_v rfl (v_pickt rfl rfl) rfl (sq_end (qs_n (wp_ct rfl (wp_sc (wp_sq (sq_v rfl (v_assign rfl) rfl (sq_v rfl (v_assign rfl) rfl (sq_end (qs_n (wp_rt (qs_r ?_))))))))))); exact qs_ret2 rfl rfl rfl (fin_e (i := 1) rfl (AtNo (asO_none fun h => by rw [cntB_true.2 h.1.1, decide_eq_true h.1.2] at c7; cases c7)))
end Go.Proofs.YtiefkcaplhnnmaaGreat
namespace Go.Proofs.YtiefkcaplhnnmaaGreat
set_option maxRecDepth 100000
open Go.RowKit
section
variable {k p n : Int} {ts : List Ten} {op vs : List Int}
noncomputable def nxQ (k p n : Int) (ts : List Ten) (op vs : List Int) : Int := rkTo k p n ts op vs (labelsL ts).length + nxV k p n ts op vs (labelsL ts).length
noncomputable def nxB (k p n : Int) (ts : List Ten) (op vs : List Int) : Bool := ifB (rkB k p n ts op vs) (asB k p n ts op (nxQ k p n ts op vs)) false
noncomputable def nxX (k p n : Int) (ts : List Ten) (op vs : List Int) : List Int := ifB (rkB k p n ts op vs) (asX k p n ts op (nxQ k p n ts op vs)) []
theorem rkB_true : rkB k p n ts op vs = true ↔ rkP k p n ts op vs := by simp [rkB]
theorem rk_nx (h : rkP k p n ts op vs) : NxOK k p n ts op vs := by
  obtain ⟨⟨hc, hs⟩, ha, _⟩ := h; obtain ⟨hvl, hfi, _⟩ := assign_fit ha; exact ⟨ha.1, hc, hs, hvl, hfi⟩
theorem rk_assign (h : rkP k p n ts op vs) : assignL 3 1000000 0 (suppTs k p n ts) op vs := by
  have ha := h.2.1; have e : dimsFor (suppTs k p n ts) (labelsL (suppTs k p n ts)) = dimsFor ts (labelsL ts) := by
    rw [supp_lab]; exact List.map_congr_left fun x _ => supp_dim ts x
  exact ⟨supp_net ha.1, by rw [e]; exact ha.2⟩
theorem rk_val (h : rkP k p n ts op vs) : rkV k p n ts op vs = rkTo k p n ts op vs (labelsL ts).length := by rw [rkV, rkB_true.2 h]; rfl
theorem rk_range : 0 ≤ rkV k p n ts op vs ∧ rkV k p n ts op vs ≤ 1000000000 := by
  by_cases h : rkP k p n ts op vs
  · obtain ⟨hvl, _, h8⟩ := assign_fit h.2.1; have h1 := rk_to (k := k) (p := p) (n := n) (ts := ts) (op := op) h8 (i := (labelsL ts).length) (by omega) h.2.2; have h2 : (labelsL ts).length ≤ 100 := labels_len ts 100; rw [rk_val h]
    omega
  · have e : rkB k p n ts op vs = false := by simp [rkB, h]
    rw [rkV, e]
    show (0 : Int) ≤ 0 ∧ (0 : Int) ≤ 1000000000
    omega
theorem NextNo (h : rkB k p n ts op vs = false) : IntsB (nxX k p n ts op vs) (nxB k p n ts op vs) (.tuple [.slice none 0 0, .bool false].toArray) emp :=
  ⟨.slice none 0 0, by rw [nxB, h]; rfl, by rw [nxX, h]; exact IntsO.nil⟩
theorem NextYes {v : Value} {g : PH} {q : Int} (h : rkP k p n ts op vs) (hq : q = nxQ k p n ts op vs) (r : IntsO (asX k p n ts op q) v g) : IntsB (nxX k p n ts op vs) (nxB k p n ts op vs) (.tuple [v, .bool (asB k p n ts op q)].toArray) g := by
  subst hq; exact ⟨v, by rw [nxB, rkB_true.2 h]; rfl, by rw [nxX, rkB_true.2 h]; exact r⟩
end
set_option maxHeartbeats 4000000 in
theorem ct_i_NextPositive (k p n : Int) (ts : List Ten) (op vs : List Int) (vt vo u : Value) (w : World) (r : TensR ts vt (hp w)) (r' : IntsR op vo (hp w)) (rv : IntsR vs u (hp w)) (hs : op.length ≤ 1048576) :
    Calls Tryz.prog 11 [netV k p n vt vo, u].toArray w (Ret w emp (IntsB (nxX k p n ts op vs) (nxB k p n ts op vs))) := by
  have hrv := rk_range (k := k) (p := p) (n := n) (ts := ts) (op := op) (vs := vs); refine calls_in Tryz.func11 rfl Tryz.ntmps11 rfl (Sat.start w) ?_; have hle0 := r.le; obtain ⟨cs_r, rr_r, hc_r⟩ := r.at; have hle1 := r'.le; have hle2 := rv.le; refine wp_sc (wp_sq ?_); refine sq_x rfl (x_box rfl rfl) rfl ?_; rintro _ _ ⟨b2, rfl, rfl⟩; refine sq_v rfl (v_assign rfl) rfl (sq_v rfl (v_assign rfl) rfl (sq_end (qs_n (wp_sc (wp_sq (sq_v rfl (v_loadNB 0 ty_29 rfl rfl rfl rfl) rfl (sq_v rfl (v_move rfl) rfl (sq_u rfl (x_callv rfl en_10 (fun w s => ct_i_RankOf _ _ _ _ _ _ _ _ _ w (r.mono (s.get 1 rfl)) (r'.mono (s.get 1 rfl)) (rv.mono (s.get 1 rfl)) (by first | assumption | omega))) rfl (sq_v rfl (v_move rfl) rfl (sq_v rfl (v_extract rfl rfl) rfl (sq_v rfl (v_extract rfl rfl) rfl (sq_v rfl (v_assign rfl) rfl (sq_v rfl (v_assign rfl) rfl (sq_end (qs_n (wp_sc (wp_sc (wp_sq ?_)))))))))))))))))); refine sq_v rfl (v_move rfl) rfl (sq_v rfl (v_not rfl) rfl (sq_end (qs_n ?_))); refine wp_cn _ rfl (fun c16 => ?_) (fun c16 => ?_)
  · refine wp_sc (wp_sq (sq_v rfl (v_assign rfl) rfl (sq_v rfl (v_assign rfl) rfl (sq_end (qs_n (wp_rt (qs_r ?_))))))); exact qs_ret2 rfl rfl rfl (fin_e (i := 1) rfl (NextNo c16))
  · refine wp_sk (qs_n (wp_sc (wp_sq ?_))); have hrk := rkB_true.1 c16; have hnet := hrk.2.1.1; refine sq_v rfl (v_loadNB 0 ty_29 rfl rfl rfl rfl) rfl ?_; refine sq_x rfl (x_call rfl en_15 (fun w s => ct_u_iSupport _ _ _ _ _ _ _ w (r.mono (s.get 1 rfl)) (r'.mono (s.get 1 rfl)) (by first | assumption | omega) hnet)) rfl ?_; rintro _ h18 ⟨vt18, vo18, rfl, o18⟩; obtain ⟨cs_T_18, rr_T_18, hc_T_18⟩ := o18.toR.1.at; refine sq_v rfl (v_move rfl) rfl ?_; refine sq_x rfl (x_call rfl en_21 (fun w s => ct_i_WeightOf _ _ _ _ _ _ _ _ _ w (o18.toR.1.mono (s.get 0 rfl)) (o18.toR.2.mono (s.get 0 rfl)) (rv.mono (s.get 2 rfl)) (by first | assumption | omega))) rfl ?_; rintro v20 h20 r20; refine sq_v rfl (v_assign rfl) rfl (sq_end ?_); obtain ⟨hw1, hw2⟩ := (rk_nx hrk).weight (rk_assign hrk); rw [hw1] at r20; have hg0 : ([nxV k p n ts op vs (labelsL ts).length] : List Int).getD 0 0 = nxV k p n ts op vs (labelsL ts).length := rfl; refine qs_n (wp_sc (wp_rj 11 [(0, true), (1, true), (2, true), (3, true), (4, true), (5, true), (6, false), (7, true), (8, true), (9, true), (10, true)] mixed_ok (by kernel_rfl) (rj_v rfl rfl (v_loadNB 2 ty_29 rfl rfl rfl rfl) rfl (rj_v rfl rfl (v_move rfl) rfl (rj_v rfl rfl (v_move rfl) rfl ?_))))); refine rj_v rfl rfl (v_idxI Tryz.underlying27 ty_3 rfl rfl r20.toR (by first | omega | (simp; omega) | (simp only [List.length_append, List.length_cons, List.length_nil]; omega) | (rw [List.length_set]; omega)) (by first | omega | (simp; omega) | (simp only [List.length_append, List.length_cons, List.length_nil]; omega) | (rw [List.length_set]; omega))) rfl ?_; refine rj_v rfl rfl (v_loadI (k := 0) 0 ty_3 rfl rfl r20.toR (by first | omega | (simp; omega) | (simp only [List.length_append, List.length_cons, List.length_nil]; omega) | (rw [List.length_set]; omega))) rfl ?_; refine rj_v rfl rfl (v_add rfl rfl ((by unfold I64; omega))) rfl ?_; refine rj_x rfl rfl (x_call rfl en_9 (fun w s => ct_i_AssignmentAt _ _ _ _ _ _ _ _ w (r.mono (s.get 3 rfl)) (r'.mono (s.get 3 rfl)) (by first | assumption | omega))) rfl ?_; rintro _ h27 ⟨v27, rfl, r27⟩; refine rj_v rfl rfl (v_extract rfl rfl) rfl (rj_v rfl rfl (v_extract rfl rfl) rfl (rj_v rfl rfl (v_assign rfl) rfl (rj_v rfl rfl (v_assign rfl) rfl (rj_end (qs_n (wp_rt ?_)))))); exact qs_ret2 rfl rfl rfl (fin_t 0 (i := 4) rfl rfl rfl (NextYes hrk (by rw [rk_val hrk]; rfl) r27))
end Go.Proofs.YtiefkcaplhnnmaaGreat
namespace Go.Proofs.YtiefkcaplhnnmaaGreat
set_option maxRecDepth 100000
open Go.RowKit
section
variable {k p n : Int} {ts : List Ten} {op : List Int}
theorem gen_next (hr : ringL k p n) (h : GenN k p n ts op) {q : Int} (hq : 0 ≤ q ∧ q < cntV k p n ts op) : nxB k p n ts op (asX k p n ts op q) = asB k p n ts op (q + 1) ∧ nxX k p n ts op (asX k p n ts op q) = asX k p n ts op (q + 1) ∧ (asB k p n ts op (q + 1) = true ↔ q + 1 < cntV k p n ts op) := by
  obtain ⟨hB, H, hk, hw⟩ := gen_at hr h hq; have hrk := H.rank; have hQ : nxQ k p n ts op (asX k p n ts op q) = q + 1 := by
    unfold nxQ
    rw [hk, hw]
  refine ⟨by rw [nxB, hrk.1, hQ]; rfl, by rw [nxX, hrk.1, hQ]; rfl, fun hb => ?_, fun hc => (gen_at hr h ⟨by omega, hc⟩).1⟩
  rcases Int.lt_or_le (q + 1) (cntV k p n ts op) with c | c
  · exact c
  · rw [gen_none c] at hb; cases hb
end
end Go.Proofs.YtiefkcaplhnnmaaGreat
namespace Go.Proofs.YtiefkcaplhnnmaaGreat
set_option maxRecDepth 100000
open Go.ChangeShapes Go.WideShapes Go.ChangeAt Go.RowKit
section
variable {k p n : Int} {ts : List Ten} {op : List Int}
theorem gen_last (hr : ringL k p n) (h : GenN k p n ts op) {q : Int} (hq : 0 ≤ q ∧ q < cntV k p n ts op) : asB k p n ts op (q + 1) = decide (q + 1 < cntV k p n ts op) := by
  rw [Bool.eq_iff_iff, decide_eq_true_eq]; exact (gen_next hr h hq).2.2
theorem gen_rank (hr : ringL k p n) (h : GenN k p n ts op) {q : Int} (hq : 0 ≤ q ∧ q < cntV k p n ts op) : rkB k p n ts op (asX k p n ts op q) = true ∧ rkV k p n ts op (asX k p n ts op q) = q := by
  obtain ⟨_, h2, h3, _⟩ := gen_at hr h hq; exact ⟨h2.rank.1, by rw [h2.rank.2, h3]⟩
theorem gen_ys (hr : ringL k p n) (h : GenN k p n ts op) {ys : List Int} (hl : ys.length = (dimsFor ts (labelsOf k p n ts op)).length) (hf : ∀ j, j < (dimsFor ts (labelsOf k p n ts op)).length → 0 ≤ ys.getD j 0 ∧ ys.getD j 0 < (dimsFor ts (labelsOf k p n ts op)).getD j 0) :
    ys.length = (labelsL ts).length ∧ fitI ts (labelsL ts) ys (labelsL ts).length := by
  rw [gen_labels hr h] at hl hf; have e : (dimsFor ts (labelsL ts)).length = (labelsL ts).length := by simp [dimsFor]
  rw [e] at hl hf; refine ⟨hl, fun j hj => ?_⟩; have := hf j hj
  unfold dimsFor at this
  rwa [map_getD hj] at this
end
set_option maxHeartbeats 8000000 in
theorem ct_l_FnRanks (xs : List Int) (vb : Value) (w : World) (rb : BytesR xs vb (hp w)) : Calls Tryz.prog 3 [vb].toArray w (RetV w (.bool true)) := by
  refine calls_in Tryz.func3 rfl Tryz.ntmps3 rfl (Sat.start w) ?_; have hle0 := rb.le; refine wp_sc (wp_sq (sq_v rfl (v_assign rfl) rfl (sq_end (qs_n (wp_sc (wp_sc (wp_sq (sq_v rfl (v_move rfl) rfl (sq_v rfl (v_len Tryz.underlying22 rfl rb.1.sl) rfl (sq_v rfl (v_gtr rfl rfl) rfl (sq_end (qs_n ?_)))))))))))); refine wp_cd rfl (fun c23 => ?_) (fun c23 => ?_)
  · refine wp_sc (wp_sq (sq_v rfl (v_assign rfl) rfl (sq_end (qs_n (wp_rt (qs_r ?_)))))); exact qs_ret1 rfl rfl (fin_v (i := 0) rfl)
  · refine wp_sk (qs_n (wp_sc (wp_sq (sq_v rfl (v_move rfl) rfl ?_)))); refine sq_x rfl (x_call rfl en_6 (fun w s => ct_s_MakeRing 0 xs vb w (rb.mono (s.get 0 rfl)) (by omega) (by omega))) rfl ?_; rintro _ h25 ⟨k25, p25, n25, rfl, hr25⟩; refine sq_x rfl (x_alloc ty_24 rfl) rfl ?_; rintro _ _ ⟨b3, rfl, rfl⟩; refine sq_m 0 rfl rfl (m_store 0 ty_24 rfl rfl rfl rfl (by simp [Value.oneCell']) rfl (Nat.le_of_ble_eq_true rfl)) rfl ?_; rintro _ _ ⟨rfl, rfl⟩; refine sq_end (qs_n (wp_sc (wp_sq (sq_v rfl (v_move rfl) rfl (sq_v rfl (v_loadNB 0 ty_24 rfl rfl rfl rfl) rfl ?_))))); refine sq_x rfl (x_call rfl en_7 (fun w s => ct_s_MakeNetwork k25 p25 n25 10 xs vb w (rb.mono (s.get 2 rfl)) (by omega) (by omega) hr25)) rfl ?_; rintro _ h28 ⟨ts, op, ⟨vt, vo, rfl, o28⟩, hg⟩; obtain ⟨cs_T_28, rr_T_28, hc_T_28⟩ := o28.toR.1.at; refine sq_x rfl (x_alloc ty_29 rfl) rfl ?_; rintro _ _ ⟨b4, rfl, rfl⟩; refine sq_m 0 rfl rfl (m_store 0 ty_29 rfl rfl rfl rfl (by simp [one_int, o28.toR.1.sl.one, o28.toR.2.sl.one]) rfl (Nat.le_of_ble_eq_true rfl)) rfl ?_; rintro _ _ ⟨rfl, rfl⟩; refine sq_end ?_; have hnet := gen_net hr25 hg; have hof := hg.few hg.2.2.1 hg.2.2.2; have hcb : cntB k25 p25 n25 ts op = true := cntB_true.2 (gen_cnt hr25 hg); have hcr := cnt_range (k := k25) (p := p25) (n := n25) (ts := ts) (op := op); have hll : (labelsL ts).length ≤ 100 := labels_len ts 100; refine qs_n (wp_sc (wp_sq (sq_v rfl (v_loadNB 0 ty_29 rfl rfl rfl rfl) rfl (sq_u rfl (x_callv rfl en_8 (fun w s => ct_i_CountPositive _ _ _ _ _ _ _ w (o28.toR.1.mono (s.get 1 rfl)) (o28.toR.2.mono (s.get 1 rfl)) (by first | assumption | exact iota_held _ _ | omega | rfl))) rfl (sq_v rfl (v_move rfl) rfl (sq_v rfl (v_extract rfl rfl) rfl (sq_v rfl (v_extract rfl rfl) rfl (sq_v rfl (v_assign rfl) rfl (sq_v rfl (v_assign rfl) rfl (sq_end ?_)))))))))); rw [hcb]; refine qs_n (wp_sc (wp_sc (wp_sq (sq_v rfl (v_move rfl) rfl (sq_v rfl (v_not rfl) rfl (sq_end (qs_n (wp_cf rfl (wp_sk (qs_n (wp_sc (wp_sc (wp_sq (sq_v rfl (v_assign rfl) rfl (sq_end (qs_n (wp_bl ?_))))))))))))))))); refine wp_lp (σ := Nat) (fun z_ => [(0, vb), (2, .bool false), (4, .pointer (some ⟨b4, 0, none⟩)), (5, num (cntV k25 p25 n25 ts op)), (7, num z_)]) (fun z_ => [box b4 [num k25, num p25, num n25, vt, vo] 29, h28, box b3 [num k25, num p25, num n25] 24, h25, hp w]) (fun z_ => z_ ≤ 5) (fun z_ => 5 - z_) 0 (by omega) ⟨rfl, rfl, rfl, rfl, (by first | rfl | exact ksub rfl (by first | omega | (simp; done) | (simp; omega))), trivial⟩ (fun _ s => s) ?_; rintro q hq5; refine wp_sc (wp_sc (wp_sq (sq_v rfl (v_move rfl) rfl (sq_v rfl (v_move rfl) rfl (sq_v rfl (v_lss rfl rfl) rfl ?_))))); refine sq_bd 38 rfl (fun c38 => ?_) (fun c38 => ?_)
    · refine sq_v rfl (v_move rfl) rfl (sq_v rfl (v_move rfl) rfl (sq_v rfl (v_lss rfl rfl) rfl (sq_v rfl (v_pickt rfl rfl) rfl (sq_end (qs_n ?_))))); refine wp_cd rfl (fun c42 => ?_) (fun c42 => ?_)
      · refine wp_sk (qs_n (wp_sc (wp_bl (wp_sc (wp_sq (sq_v rfl (v_loadNB 0 ty_29 rfl rfl rfl rfl) rfl (sq_v rfl (v_move rfl) rfl ?_))))))); refine sq_x rfl (x_call rfl en_9 (fun w s => ct_i_AssignmentAt _ _ _ _ _ _ _ _ w (o28.toR.1.mono (s.get 1 rfl)) (o28.toR.2.mono (s.get 1 rfl)) (by first | assumption | exact iota_held _ _ | omega | rfl))) rfl ?_; rintro _ h48 ⟨v48, rfl, r48⟩; refine sq_v rfl (v_move rfl) rfl (sq_v rfl (v_extract rfl rfl) rfl (sq_v rfl (v_extract rfl rfl) rfl (sq_v rfl (v_assign rfl) rfl (sq_v rfl (v_assign rfl) rfl (sq_end ?_))))); have hlt : 0 ≤ (q : Int) ∧ (q : Int) < cntV k25 p25 n25 ts op := by omega
        rw [(gen_at hr25 hg hlt).1]; refine qs_n (wp_sc (wp_sq (sq_v rfl (v_loadNB 1 ty_29 rfl rfl rfl rfl) rfl (sq_v rfl (v_move rfl) rfl (sq_u rfl (x_callv rfl en_10 (fun w s => ct_i_RankOf _ _ _ _ _ _ _ _ _ w (o28.toR.1.mono (s.get 2 rfl)) (o28.toR.2.mono (s.get 2 rfl)) (r48.toR.mono (s.get 0 rfl)) (by first | assumption | exact iota_held _ _ | omega | rfl))) rfl (sq_v rfl (v_move rfl) rfl (sq_v rfl (v_extract rfl rfl) rfl (sq_v rfl (v_extract rfl rfl) rfl (sq_v rfl (v_assign rfl) rfl (sq_v rfl (v_assign rfl) rfl (sq_end ?_))))))))))); rw [(gen_rank hr25 hg hlt).1, (gen_rank hr25 hg hlt).2]; refine qs_n (wp_sc (wp_sq (sq_v rfl (v_loadNB 1 ty_29 rfl rfl rfl rfl) rfl (sq_v rfl (v_move rfl) rfl ?_)))); refine sq_x rfl (x_call rfl en_11 (fun w s => ct_i_NextPositive _ _ _ _ _ _ _ _ _ w (o28.toR.1.mono (s.get 2 rfl)) (o28.toR.2.mono (s.get 2 rfl)) (r48.toR.mono (s.get 0 rfl)) (by first | assumption | exact iota_held _ _ | omega | rfl))) rfl ?_; rintro _ h60 ⟨v60, rfl, r60⟩; refine sq_v rfl (v_move rfl) rfl (sq_v rfl (v_extract rfl rfl) rfl (sq_v rfl (v_extract rfl rfl) rfl (sq_v rfl (v_assign rfl) rfl (sq_v rfl (v_assign rfl) rfl (sq_end ?_))))); rw [(gen_next hr25 hg hlt).1, gen_last hr25 hg hlt]; rw [(gen_next hr25 hg hlt).2.1] at r60; refine qs_n (wp_sc (wp_sq (sq_v rfl (v_loadNB 2 ty_29 rfl rfl rfl rfl) rfl (sq_v rfl (v_move rfl) rfl ?_)))); refine sq_v rfl (v_add rfl rfl ((by unfold I64; omega))) rfl ?_; refine sq_x rfl (x_call rfl en_9 (fun w s => ct_i_AssignmentAt _ _ _ _ _ _ _ _ w (o28.toR.1.mono (s.get 3 rfl)) (o28.toR.2.mono (s.get 3 rfl)) (by first | assumption | exact iota_held _ _ | omega | rfl))) rfl ?_; rintro _ h67 ⟨v67, rfl, r67⟩; refine sq_v rfl (v_move rfl) rfl (sq_v rfl (v_extract rfl rfl) rfl (sq_v rfl (v_extract rfl rfl) rfl (sq_v rfl (v_assign rfl) rfl (sq_v rfl (v_assign rfl) rfl (sq_end ?_))))); rw [gen_last hr25 hg hlt]; refine qs_n (wp_sc (wp_sq (sq_v rfl (v_move rfl) rfl (sq_v rfl (v_not rfl) rfl (sq_v rfl (v_move rfl) rfl (sq_v rfl (v_move rfl) rfl (sq_v rfl (v_not rfl) rfl (sq_v rfl (v_pickf rfl rfl) rfl (sq_v rfl (v_move rfl) rfl (sq_v rfl (v_move rfl) rfl (sq_v rfl (v_move rfl) rfl (sq_v rfl (v_neq rfl rfl) rfl ?_)))))))))))); refine sq_v rfl (v_pickf rfl rfl) rfl ?_; refine sq_bd 80 rfl (fun c80 => ?_) (fun c80 => ?_)
        · refine sq_v rfl (v_move rfl) rfl (sq_s rfl rfl (sq_s rfl rfl (sq_s rfl rfl (sq_v rfl (v_pickt rfl rfl) rfl (sq_v rfl (v_move rfl) rfl (sq_s rfl rfl (sq_s rfl rfl (sq_s rfl rfl (sq_s rfl rfl ?_))))))))); refine sq_s rfl rfl (sq_s rfl rfl (sq_v rfl (v_pickt rfl rfl) rfl (sq_v rfl (v_move rfl) rfl (sq_s rfl rfl (sq_s rfl rfl (sq_s rfl rfl (sq_s rfl rfl (sq_v rfl (v_pickt rfl rfl) rfl (sq_end (qs_n (wp_ct rfl (wp_sc (wp_sq ?_))))))))))))); refine sq_v rfl (v_assign rfl) rfl (sq_end (qs_n (wp_rt (qs_br (qs_r (qs_r (qs_br (qs_r ?_))))))))
          exfalso; first | omega | contradiction
        · refine sq_v rfl (v_move rfl) rfl (sq_v rfl (v_move rfl) rfl (sq_v rfl (v_move rfl) rfl (sq_v rfl (v_neqsb Tryz.underlying4 rfl rfl) rfl (sq_v rfl (v_pickf rfl rfl) rfl (sq_v rfl (v_move rfl) rfl (sq_v rfl (v_move rfl) rfl (sq_v rfl (v_move rfl) rfl ?_))))))); refine sq_v rfl (v_add rfl rfl ((by unfold I64; omega))) rfl ?_; refine sq_v rfl (v_move rfl) rfl (sq_v rfl (v_lss rfl rfl) rfl (sq_v rfl (v_neqsb Tryz.underlying4 rfl rfl) rfl (sq_v rfl (v_pickf rfl rfl) rfl (sq_v rfl (v_move rfl) rfl (sq_v rfl (v_move rfl) rfl (sq_v rfl (v_move rfl) rfl (sq_u rfl (x_callv rfl en_12 (fun w s => ct_l_ints _ _ _ w (r60.toR.mono (s.get 1 rfl)) (r67.toR.mono (s.get 0 rfl)))) rfl (sq_v rfl (v_not rfl) rfl (sq_v rfl (v_pickf rfl rfl) rfl (sq_end (qs_n ?_))))))))))); refine wp_cf rfl (wp_sk (qs_bn (qs_n (wp_sq (sq_v rfl (v_move rfl) rfl ?_))))); refine sq_v rfl (v_add rfl rfl ((by unfold I64; omega))) rfl ?_; refine sq_v rfl (v_assign rfl) rfl (sq_end ?_); exact qs_bk (q + 1) (by omega) (by omega) ⟨rfl, rfl, rfl, rfl, (by first | rfl | exact ksub rfl (by first | omega | (simp; done) | (simp; omega))), trivial⟩ (fun _ s => s.pick [3, 4, 5, 6, 7] (by decide) rfl)
      · refine wp_ex (qs_x (qs_x (qs_bx (qs_n (wp_sc (wp_sq (sq_v rfl (v_move rfl) rfl (sq_v rfl (v_loadNB 0 ty_29 rfl rfl rfl rfl) rfl ?_)))))))); refine sq_x rfl (x_call rfl en_13 (fun w s => ct_s_MakeValues _ _ _ _ _ _ _ _ _ _ w (rb.mono (s.get 4 rfl)) (by first | assumption | exact iota_held _ _ | omega | rfl) (by first | assumption | exact iota_held _ _ | omega | rfl) (o28.toR.1.mono (s.get 1 rfl)) (o28.toR.2.mono (s.get 1 rfl)) (by first | assumption | exact iota_held _ _ | omega | rfl) (fun t ht => axes_ok (net_axes hnet t ht)) (gen_vals hr25 hg) (by rw [gen_labels hr25 hg]; omega))) rfl ?_; rintro v102 h102 ⟨ys, ry, hyl, hyr⟩; refine sq_v rfl (v_assign rfl) rfl (sq_end ?_); have hys := gen_ys hr25 hg hyl hyr; have H2 := gen_nx hr25 hg hys.1 hys.2; have hle := H2.rank_le; refine qs_n (wp_sc (wp_sq (sq_v rfl (v_loadNB 1 ty_29 rfl rfl rfl rfl) rfl (sq_v rfl (v_move rfl) rfl (sq_u rfl (x_callv rfl en_10 (fun w s => ct_i_RankOf _ _ _ _ _ _ _ _ _ w (o28.toR.1.mono (s.get 2 rfl)) (o28.toR.2.mono (s.get 2 rfl)) (ry.toR.mono (s.get 0 rfl)) (by first | assumption | exact iota_held _ _ | omega | rfl))) rfl (sq_v rfl (v_move rfl) rfl (sq_v rfl (v_extract rfl rfl) rfl (sq_v rfl (v_extract rfl rfl) rfl (sq_v rfl (v_assign rfl) rfl (sq_v rfl (v_assign rfl) rfl (sq_end ?_))))))))))); rw [H2.rank.1]; refine qs_n (wp_sc (wp_sq (sq_v rfl (v_loadNB 1 ty_29 rfl rfl rfl rfl) rfl (sq_v rfl (v_move rfl) rfl ?_)))); refine sq_x rfl (x_call rfl en_9 (fun w s => ct_i_AssignmentAt _ _ _ _ _ _ _ _ w (o28.toR.1.mono (s.get 2 rfl)) (o28.toR.2.mono (s.get 2 rfl)) (by first | assumption | exact iota_held _ _ | omega | rfl))) rfl ?_; rintro _ h112 ⟨v112, rfl, r112⟩; refine sq_v rfl (v_move rfl) rfl (sq_v rfl (v_extract rfl rfl) rfl (sq_v rfl (v_extract rfl rfl) rfl (sq_v rfl (v_assign rfl) rfl (sq_v rfl (v_assign rfl) rfl (sq_end ?_))))); rw [gen_none (Int.le_refl _)]; refine qs_n (wp_sc (wp_sq (sq_v rfl (v_move rfl) rfl (sq_v rfl (v_move rfl) rfl (sq_v rfl (v_move rfl) rfl (sq_v rfl (v_move rfl) rfl (sq_v rfl (v_leq rfl rfl) rfl (sq_v rfl (v_pickt rfl rfl) rfl ?_)))))))); refine sq_bd 120 rfl (fun c120 => ?_) (fun c120 => ?_)
        · refine sq_v rfl (v_move rfl) rfl (sq_v rfl (v_move rfl) rfl (sq_v rfl (v_not rfl) rfl (sq_v rfl (v_pickt rfl rfl) rfl (sq_v rfl (v_move rfl) rfl (sq_v rfl (v_loadNB 2 ty_29 rfl rfl rfl rfl) rfl ?_))))); refine sq_x rfl (x_call rfl en_15 (fun w s => ct_u_iSupport _ _ _ _ _ _ _ w (o28.toR.1.mono (s.get 3 rfl)) (o28.toR.2.mono (s.get 3 rfl)) (by first | assumption | exact iota_held _ _ | omega | rfl) hnet)) rfl ?_; rintro _ h127 ⟨vt127, vo127, rfl, o127⟩; obtain ⟨cs_T_127, rr_T_127, hc_T_127⟩ := o127.toR.1.at; refine sq_u rfl (x_callv rfl en_14 (fun w s => ct_i_NetworkOk _ _ _ _ _ _ _ w (o127.toR.1.mono (s.get 0 rfl)) (o127.toR.2.mono (s.get 0 rfl)) (by first | assumption | exact iota_held _ _ | omega | rfl))) rfl (sq_v rfl (v_pickt rfl rfl) rfl (sq_v rfl (v_assign rfl) rfl (sq_end ?_)))
          try rw [netB_true.2 (supp_net hnet)]
          refine qs_n (wp_rt ?_); exact qs_ret1 rfl rfl (fin_v (i := 7) rfl)
        · refine sq_v rfl (v_move rfl) rfl (sq_s rfl rfl (sq_s rfl rfl (sq_v rfl (v_pickf rfl rfl) rfl (sq_v rfl (v_move rfl) rfl (sq_s rfl rfl (sq_s rfl rfl (sq_s rfl rfl (sq_v rfl (v_pickf rfl rfl) rfl (sq_v rfl (v_assign rfl) rfl (sq_end ?_))))))))))
          try rw [netB_true.2 (supp_net hnet)]
          refine qs_n (wp_rt ?_)
          exfalso; first | omega | contradiction
    · refine sq_v rfl (v_move rfl) rfl (sq_s rfl rfl (sq_s rfl rfl (sq_v rfl (v_pickf rfl rfl) rfl (sq_end (qs_n (wp_cf rfl (wp_ex (qs_x (qs_x (qs_bx (qs_n (wp_sc (wp_sq (sq_v rfl (v_move rfl) rfl (sq_v rfl (v_loadNB 0 ty_29 rfl rfl rfl rfl) rfl ?_))))))))))))))); refine sq_x rfl (x_call rfl en_13 (fun w s => ct_s_MakeValues _ _ _ _ _ _ _ _ _ _ w (rb.mono (s.get 4 rfl)) (by first | assumption | exact iota_held _ _ | omega | rfl) (by first | assumption | exact iota_held _ _ | omega | rfl) (o28.toR.1.mono (s.get 1 rfl)) (o28.toR.2.mono (s.get 1 rfl)) (by first | assumption | exact iota_held _ _ | omega | rfl) (fun t ht => axes_ok (net_axes hnet t ht)) (gen_vals hr25 hg) (by rw [gen_labels hr25 hg]; omega))) rfl ?_; rintro v102 h102 ⟨ys, ry, hyl, hyr⟩; refine sq_v rfl (v_assign rfl) rfl (sq_end ?_); have hys := gen_ys hr25 hg hyl hyr; have H2 := gen_nx hr25 hg hys.1 hys.2; have hle := H2.rank_le; refine qs_n (wp_sc (wp_sq (sq_v rfl (v_loadNB 1 ty_29 rfl rfl rfl rfl) rfl (sq_v rfl (v_move rfl) rfl (sq_u rfl (x_callv rfl en_10 (fun w s => ct_i_RankOf _ _ _ _ _ _ _ _ _ w (o28.toR.1.mono (s.get 2 rfl)) (o28.toR.2.mono (s.get 2 rfl)) (ry.toR.mono (s.get 0 rfl)) (by first | assumption | exact iota_held _ _ | omega | rfl))) rfl (sq_v rfl (v_move rfl) rfl (sq_v rfl (v_extract rfl rfl) rfl (sq_v rfl (v_extract rfl rfl) rfl (sq_v rfl (v_assign rfl) rfl (sq_v rfl (v_assign rfl) rfl (sq_end ?_))))))))))); rw [H2.rank.1]; refine qs_n (wp_sc (wp_sq (sq_v rfl (v_loadNB 1 ty_29 rfl rfl rfl rfl) rfl (sq_v rfl (v_move rfl) rfl ?_)))); refine sq_x rfl (x_call rfl en_9 (fun w s => ct_i_AssignmentAt _ _ _ _ _ _ _ _ w (o28.toR.1.mono (s.get 2 rfl)) (o28.toR.2.mono (s.get 2 rfl)) (by first | assumption | exact iota_held _ _ | omega | rfl))) rfl ?_; rintro _ h112 ⟨v112, rfl, r112⟩; refine sq_v rfl (v_move rfl) rfl (sq_v rfl (v_extract rfl rfl) rfl (sq_v rfl (v_extract rfl rfl) rfl (sq_v rfl (v_assign rfl) rfl (sq_v rfl (v_assign rfl) rfl (sq_end ?_))))); rw [gen_none (Int.le_refl _)]; refine qs_n (wp_sc (wp_sq (sq_v rfl (v_move rfl) rfl (sq_v rfl (v_move rfl) rfl (sq_v rfl (v_move rfl) rfl (sq_v rfl (v_move rfl) rfl (sq_v rfl (v_leq rfl rfl) rfl (sq_v rfl (v_pickt rfl rfl) rfl ?_)))))))); refine sq_bd 120 rfl (fun c120 => ?_) (fun c120 => ?_)
      · refine sq_v rfl (v_move rfl) rfl (sq_v rfl (v_move rfl) rfl (sq_v rfl (v_not rfl) rfl (sq_v rfl (v_pickt rfl rfl) rfl (sq_v rfl (v_move rfl) rfl (sq_v rfl (v_loadNB 2 ty_29 rfl rfl rfl rfl) rfl ?_))))); refine sq_x rfl (x_call rfl en_15 (fun w s => ct_u_iSupport _ _ _ _ _ _ _ w (o28.toR.1.mono (s.get 3 rfl)) (o28.toR.2.mono (s.get 3 rfl)) (by first | assumption | exact iota_held _ _ | omega | rfl) hnet)) rfl ?_; rintro _ h127 ⟨vt127, vo127, rfl, o127⟩; obtain ⟨cs_T_127, rr_T_127, hc_T_127⟩ := o127.toR.1.at; refine sq_u rfl (x_callv rfl en_14 (fun w s => ct_i_NetworkOk _ _ _ _ _ _ _ w (o127.toR.1.mono (s.get 0 rfl)) (o127.toR.2.mono (s.get 0 rfl)) (by first | assumption | exact iota_held _ _ | omega | rfl))) rfl (sq_v rfl (v_pickt rfl rfl) rfl (sq_v rfl (v_assign rfl) rfl (sq_end ?_)))
        try rw [netB_true.2 (supp_net hnet)]
        refine qs_n (wp_rt ?_); exact qs_ret1 rfl rfl (fin_v (i := 7) rfl)
      · refine sq_v rfl (v_move rfl) rfl (sq_s rfl rfl (sq_s rfl rfl (sq_v rfl (v_pickf rfl rfl) rfl (sq_v rfl (v_move rfl) rfl (sq_s rfl rfl (sq_s rfl rfl (sq_s rfl rfl (sq_v rfl (v_pickf rfl rfl) rfl (sq_v rfl (v_assign rfl) rfl (sq_end ?_))))))))))
        try rw [netB_true.2 (supp_net hnet)]
        refine qs_n (wp_rt ?_)
        exfalso; first | omega | contradiction
set_option maxRecDepth 100000 in
theorem lifted_fnRanks (os : Os) (started : os.Started) (H : Type) (enc : TypeId × Value → H) :
    ReturnsInHanded {} Tryz.checked os 3 .any (Rows.fnRanksSpec.pre6 enc Tryz.prog Tryz.f3 Rows.fnRanksRow.domain false) (Rows.fnRanksSpec.post enc Tryz.prog Tryz.f3 false true false false) := by
  refine returnsInHanded_of_change (C := Tryz.checked) lift_own started (by kernel_rfl) Tryz.func3
    (ChangeSpec.witness6 (enc := enc) (C := Tryz.checked) false ⟨#[], #[.slice none 0 0], []⟩ 8 (by kernel_rfl) (by kernel_rfl) (by kernel_rfl) (by kernel_rfl)) ?_
  intro W base args ds gs before hval0 hW hcnd _; have hval : ∀ (j : Nat) t v, Tryz.f3.params[j]? = some t → args[j]? = some v → Value.okWide Tryz.prog W .any base t v := hval0; have hW' := hW; obtain ⟨p, q, hA0, hV, rfl, hfz, hnd⟩ := hW; have hlt : ∀ x ∈ p, x.block < W.heap.size := fun x hx => by simpa using hW'.lt x (by simp [hx])
  have hA : DataW.TrodAll enc Tryz.prog W 0 (fun _ => true) true Tryz.f3.params.toList args.toList ds p := hA0; have hA1 := hA; rw [Tryz.params3] at hA1 hval; obtain ⟨v0, vs0, d0, ds0, p0, q0, hargs, rfl, rfl, h0, r0⟩ := trodAll_cons hA1; obtain ⟨rfl, rfl, rfl⟩ := trodAll_nil r0; obtain rfl : args = #[v0] := by cases args; simp_all
  obtain ⟨rfl, rfl⟩ := trodVars_none hV; have k0 := hval 0 22 v0 rfl rfl; obtain ⟨xs, rb⟩ := arg_bytes k0 h0; refine (show Calls Tryz.prog 3 _ W (RetV W (.bool true)) from ct_l_FnRanks xs v0 W rb).mono fun e W' ⟨he, hu⟩ => ?_; subst he; refine ⟨_, rfl, _, _, _, [], _, [], hW', trodAll_mk1 (shut_bool Tryz.underlying4 true), trodAll_below lift_laid hu.below (by kernel_rfl) hA hlt, rfl, hu.below.frame _, fun h => by cases h⟩
set_option maxHeartbeats 4000000 in
theorem joined_fnRanks : joinedFacts Tryz.pinned.checked.prog 3 Tryz.f3 Rows.fnRanksSpec Rows.fnRanksRow = true := by
  unfold joinedFacts
  repeat' (with_reducible refine cd_and ?_ ?_)
  all_goals first | with_reducible exact cd_enter | (with_reducible refine cd_lifts' ?_; rfl) | (with_reducible refine cd_make' ?_; rfl) | (as_aux_lemma => kernel_rfl)
theorem named_fnRanks : Tryz.pinned.checked.prog.funcNamed Rows.fnRanksRow.func = some 3 := by kernel_rfl
theorem over_fnRanks : Rows.fnRanksRow.holds Tryz.pinned (OpenSpec.ofChange Rows.fnRanksSpec) :=
  OpenClaim.holds_of_wide 3 Tryz.f3 rfl rfl rfl rfl rfl rfl rfl ⟨rfl, rfl, rfl, rfl, rfl⟩ rfl rfl rfl rfl rfl named_fnRanks Tryz.func3 joined_fnRanks
    (of_decide_eq_true (by kernel_rfl)) (by unfold Func.isWrapper; first | (rw [if_pos (by decide +kernel)]; kernel_rfl) | (rw [if_neg (by decide +kernel)]; exact ⟨rfl, rfl⟩))
    (fun os started H enc _ => lifted_fnRanks os started H enc)
/-- The law FnRanks holds at every input. -/
theorem proved_fnRanks : Rows.FnRanksSaid :=
  over_fnRanks
#print axioms proved_fnRanks
end Go.Proofs.YtiefkcaplhnnmaaGreat
