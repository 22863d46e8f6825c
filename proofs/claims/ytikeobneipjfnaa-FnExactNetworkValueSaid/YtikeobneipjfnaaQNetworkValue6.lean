/-
  At every network the program's NetworkValue returns what the reference's returns; the result shares no memory with an argument.
  Conditions: none.
-/
import Derived.Test.YtikeobneipjfnaaQNetworkValue5
namespace Go.Proofs.Ytikeobneipjfnaa
set_option maxRecDepth 100000
open Go.RowKit
theorem at_off {f : Int → Int} {L ls : List Int} (hn : L.Nodup) (hl : ls.Nodup) (hs : ∀ l ∈ ls, l ∈ L) (m : Int) : atI f L ls m = offL (ls.map f) (idxAt L (idxL (L.map f) m) ls) := by
  unfold atI dotL; rw [stepsL_len]; exact dot_off hn (by simp) hl hs
structure ValOK (k p n : Int) (ts : List Ten) (op : List Int) : Prop where
  net : netL k p n ts op
  work : prodI (dimsFor ts (labelsL ts)) ≤ 65536
theorem ValOK.nd {k p n : Int} {ts : List Ten} {op : List Int} (_ : ValOK k p n ts op) : (labelsL ts).Nodup := labels_nodup ts 100
section
variable {k p n : Int} {ts : List Ten} {op : List Int} (h : ValOK k p n ts op)
include h
theorem ValOK.f : ∀ x ∈ labelsL ts, 1 ≤ dimOf ts x ∧ dimOf ts x ≤ 8 := fun x hx => by
  have h1 := mem_labels.1 hx
  have h2 := dimOf_range (net_ax h.net) x
  omega
theorem ValOK.opn : op.Nodup := axes_nodup (sizeI_ge.1 h.net.2.2.2.2).1
theorem ValOK.sub : ∀ l ∈ op, l ∈ labelsL ts := fun l hl => by
  obtain ⟨j, hj, rfl⟩ := getD_of_mem hl
  have := open_at h.net.2.2.2.2 hj
  exact mem_labels.2 ⟨by omega, by omega⟩
theorem ValOK.at_k (m : Int) : 0 ≤ atI (dimOf ts) (labelsL ts) op m ∧ atI (dimOf ts) (labelsL ts) op m < prodI (dimsFor ts op) := at_in h.nd h.opn h.sub h.f m
theorem ValOK.dims : ∀ d ∈ dimsFor ts (labelsL ts), 1 ≤ d ∧ d ≤ 8 := map_dim h.f fun _ h => h
theorem ValOK.odims : ∀ d ∈ dimsFor ts op, 1 ≤ d ∧ d ≤ 8 := map_dim h.f h.sub
theorem ValOK.idx (m : Int) : AtOK k p n ts (labelsL ts) (idxL (dimsFor ts (labelsL ts)) m) := by
  have hi := idxL_in (fun d hd => (h.dims d hd).1) m
  exact assign_at (op := op) ⟨h.net, hi.1, fun j hj => hi.2 j (by rw [← hi.1]; exact hj)⟩
end
noncomputable def valX (k p n : Int) (ts : List Ten) (op : List Int) : Nat → List Int
  | 0 => (List.replicate (prodI (dimsFor ts op)).toNat (zeroL k p n)).flatten
  | m + 1 => putL (valX k p n ts op m) (atI (dimOf ts) (labelsL ts) op m * widthI k n).toNat
      (addL k p (elt (valX k p n ts op m) (widthI k n) (atI (dimOf ts) (labelsL ts) op m)) (weightTo k p n (labelsL ts) (idxL (dimsFor ts (labelsL ts)) m) ts))
section
variable {k p n : Int} {ts : List Ten} {op : List Int} (h : ValOK k p n ts op)
include h
theorem ValOK.weight (m : Int) : InR k p n (weightTo k p n (labelsL ts) (idxL (dimsFor ts (labelsL ts)) m) ts) := by
  have := weight_in (h.idx m) ts.length (Nat.le_refl _)
  rwa [List.take_length] at this
theorem ValOK.all : ∀ m : Nat, AllR k p n (prodI (dimsFor ts op)) (valX k p n ts op m)
  | 0 => AllR.zero h.net.1 (by have := prodI_one fun d hd => (h.odims d hd).1; omega)
  | m + 1 => (ValOK.all m).put h.net.1 (h.at_k m).1 (h.at_k m).2 (addL_in h.net.1 ((ValOK.all m).el h.net.1 (h.at_k m).1 (h.at_k m).2) (h.weight m))
theorem ValOK.small (m : Nat) : (valX k p n ts op m).length ≤ 24576 := by
  have hw := width_range h.net.1
  have := (h.all m).1
  have h3 : prodI (dimsFor ts op) * widthI k n ≤ 4096 * 6 := Int.mul_le_mul (sizeI_ge.1 h.net.2.2.2.2).2 hw.2 (by omega) (by omega)
  omega
theorem ValOK.fits (m : Nat) : atI (dimOf ts) (labelsL ts) op m * widthI k n + widthI k n ≤ (valX k p n ts op m).length := by
  have hw := width_range h.net.1
  have := (h.all m).1
  have := (mul_room (show 0 ≤ widthI k n by omega) (h.at_k m).1 (h.at_k m).2).2
  omega
end
open Classical in
noncomputable def valB (k p n : Int) (ts : List Ten) (op : List Int) : Bool := decide (ValOK k p n ts op)
open Classical in
noncomputable def valR (k p n : Int) (ts : List Ten) (op : List Int) : Ten := if ValOK k p n ts op then ⟨op, dimsFor ts op, valX k p n ts op (prodI (dimsFor ts (labelsL ts))).toNat⟩ else ⟨[], [], []⟩
theorem ValNo {k p n : Int} {ts : List Ten} {op : List Int} (h : ¬ ValOK k p n ts op) : TenB (valR k p n ts op) (valB k p n ts op) (.tuple [tenV (.slice none 0 0) (.slice none 0 0) (.slice none 0 0), .bool false].toArray) emp :=
  ⟨.slice none 0 0, .slice none 0 0, .slice none 0 0, by simp [valB, h], by rw [valR, if_neg h]; exact ⟨emp, emp, emp, IntsO.nil, IntsO.nil, IntsO.nil, ⟨by simp [sepL, PDj.emp], fun x hx => by simp at hx; subst hx; exact PLe.emp _, fun k o e => by cases e⟩⟩⟩
theorem ValYes {k p n : Int} {ts : List Ten} {op : List Int} {a b c : Value} {g : PH} (h : ValOK k p n ts op) (r : TriO ⟨op, dimsFor ts op, valX k p n ts op (prodI (dimsFor ts (labelsL ts))).toNat⟩ a b c g) : TenB (valR k p n ts op) (valB k p n ts op) (.tuple [tenV a b c, .bool true].toArray) g :=
  ⟨a, b, c, by simp [valB, h], by rw [valR, if_pos h]; exact r⟩
set_option maxHeartbeats 4000000 in
theorem ct_s_NetworkValue (k p n : Int) (ts : List Ten) (op : List Int) (vt vo : Value) (w : World) (r : TensR ts vt (hp w)) (r' : IntsR op vo (hp w)) (hs : op.length ≤ 1048576) :
    Calls Try.prog 53 [netV k p n vt vo].toArray w (Ret w emp (TenB (valR k p n ts op) (valB k p n ts op))) := by
  obtain ⟨L, hL⟩ : ∃ L, labelsL ts = L := ⟨_, rfl⟩
  obtain ⟨D, hD⟩ : ∃ D, dimsFor ts L = D := ⟨_, rfl⟩
  refine calls_in Try.func53 rfl Try.ntmps53 rfl (Sat.start w) ?_
  have hle0 := r.le
  obtain ⟨cs_r, rr_r, hc_r⟩ := r.at
  have hle1 := r'.le
  refine wp_sc ?_
  refine wp_sq ?_
  refine sq_x rfl (x_box rfl rfl) rfl ?_; rintro _ _ ⟨b1, rfl, rfl⟩
  refine sq_x rfl (x_alloc ty_28 rfl) rfl ?_; rintro _ _ ⟨b2, rfl, rfl⟩
  refine sq_v rfl (v_assign rfl) rfl ?_
  refine sq_end ?_
  refine qs_n ?_
  refine wp_sc ?_
  refine wp_sc ?_
  refine wp_sq ?_
  refine sq_v rfl (v_loadNB 1 ty_48 rfl rfl rfl rfl) rfl ?_
  refine sq_u rfl (x_callv rfl en_86 (fun w s => ct_s_NetworkOk _ _ _ _ _ _ _ w (r.mono (s.get 2 rfl)) (r'.mono (s.get 2 rfl)) (by first | assumption | omega))) rfl ?_
  refine sq_v rfl (v_not rfl) rfl ?_
  refine sq_end ?_
  refine qs_n ?_
  refine wp_cn _ rfl (fun c16 => ?_) (fun c16 => ?_)
  · refine wp_sc ?_
    refine wp_sq ?_
    refine sq_v rfl (v_build [.slice none 0 0, .slice none 0 0, .slice none 0 0] rfl (by kernel_rfl)) rfl ?_
    refine sq_m 0 rfl rfl (m_store 0 ty_28 rfl rfl rfl rfl (by simp [one_sl]) rfl (Nat.le_of_ble_eq_true rfl)) rfl ?_; rintro _ _ ⟨rfl, rfl⟩
    refine sq_v rfl (v_assign rfl) rfl ?_
    refine sq_end ?_
    refine qs_n ?_
    refine wp_rt ?_
    refine qs_r ?_
    exact qs_retct 0 rfl ty_28 rfl rfl rfl rfl (fin_e (i := 2) rfl (ValNo (fun h => netB_false.1 c16 h.net)))
  · refine wp_sk ?_
    refine qs_n ?_
    refine wp_sc ?_
    refine wp_sq ?_
    refine sq_v rfl (v_fieldAddr fd_48_1 ty_46 (by decide) rfl) rfl ?_
    refine sq_v rfl (v_loadB 1 ty_46 rfl rfl rfl) rfl ?_
    have hnet := netB_true.1 c16; have hax := net_ax hnet; have hll : (labelsL ts).length ≤ 100 := labels_len ts 100
    refine sq_x rfl (x_call rfl en_118 (fun w s => ct_s_l12Labels _ _ w (r.mono (s.get 2 rfl)) (by first | assumption | omega))) rfl ?_; rintro v20 h20 r20
    refine sq_v rfl (v_assign rfl) rfl ?_
    refine sq_end ?_
    rw [hL] at r20 hll
    refine qs_n ?_
    refine wp_sc ?_
    refine wp_sq ?_
    refine sq_v rfl (v_fieldAddr fd_48_1 ty_46 (by decide) rfl) rfl ?_
    refine sq_v rfl (v_loadB 2 ty_46 rfl rfl rfl) rfl ?_
    refine sq_v rfl (v_move rfl) rfl ?_
    refine sq_x rfl (x_call rfl en_119 (fun w s => ct_s_l12Dims _ _ _ _ w (r.mono (s.get 3 rfl)) (r20.toR.mono (s.get 0 rfl)) (by first | assumption | omega) (by first | assumption | omega))) rfl ?_; rintro v24 h24 r24
    refine sq_v rfl (v_assign rfl) rfl ?_
    refine sq_end ?_
    rw [hD] at r24
    refine qs_n ?_
    refine wp_sc ?_
    refine wp_sq ?_
    refine sq_v rfl (v_move rfl) rfl ?_
    have hDd : dimsIn D := (fun j hj => by have hj' : j < L.length := (by rw [← hD, dimsFor, List.length_map] at hj; exact hj); rw [← hD, dimsFor, map_getD hj']; have h1 := mem_labels.1 (show L.getD j 0 ∈ labelsL ts by rw [hL]; exact mem_getD hj'); have h2 := dimOf_range hax (L.getD j 0); omega)
    refine sq_u rfl (x_callv rfl en_120 (fun w s => ct_s_l05Product _ _ _ w (r24.toR.mono (s.get 0 rfl)) (by first | assumption | omega) (by first | assumption | omega))) rfl ?_
    refine sq_v rfl (v_assign rfl) rfl ?_
    refine sq_end ?_
    refine qs_n ?_
    refine wp_sc ?_
    refine wp_sc ?_
    refine wp_sq ?_
    refine sq_v rfl (v_move rfl) rfl ?_
    refine sq_v rfl (v_gtr rfl rfl) rfl ?_
    refine sq_end ?_
    refine qs_n ?_
    refine wp_cd rfl (fun c28 => ?_) (fun c28 => ?_)
    · refine wp_sc ?_
      refine wp_sq ?_
      refine sq_v rfl (v_build [.slice none 0 0, .slice none 0 0, .slice none 0 0] rfl (by kernel_rfl)) rfl ?_
      refine sq_m 2 rfl rfl (m_store 2 ty_28 rfl rfl rfl rfl (by simp [one_sl]) rfl (Nat.le_of_ble_eq_true rfl)) rfl ?_; rintro _ _ ⟨rfl, rfl⟩
      refine sq_v rfl (v_assign rfl) rfl ?_
      refine sq_end ?_
      refine qs_n ?_
      refine wp_rt ?_
      refine qs_r ?_
      exact qs_retct 2 rfl ty_28 rfl rfl rfl rfl (fin_e (i := 4) rfl (ValNo (fun h => by have := h.work; rw [hL, hD] at this; omega)))
    · refine wp_sk ?_
      refine qs_n ?_
      refine wp_sc ?_
      refine wp_ra (σ := Nat × PH × PH × Value × Value × Value × Value) 11 (fun z_ => IntsO (dimsFor ts op) z_.2.2.2.1 z_.2.2.1 ∧ TriO ⟨op, (dimsFor ts op), (List.replicate (prodI (dimsFor ts op)).toNat (zeroL k p n)).flatten⟩ z_.2.2.2.2.1 z_.2.2.2.2.2.1 z_.2.2.2.2.2.2 z_.2.1) (fun z_ => [(1, .pointer (some ⟨b1, 0, none⟩)), (2, .pointer (some ⟨b2, 0, none⟩)), (3, .bool false), (4, v20), (5, v24), (6, num (min (prodI D) (65536 + 1))), (7, .pointer (some ⟨z_.1, 0, none⟩)), (16, .bool (!(netB k p n ts op))), (28, .bool (decide ((65536 : Int) < min (prodI D) (65536 + 1))))]) (fun z_ => [box z_.1 [z_.2.2.2.2.1, z_.2.2.2.2.2.1, z_.2.2.2.2.2.2] 28, z_.2.1, z_.2.2.1, h24, h20, box b2 [.slice none 0 0, .slice none 0 0, .slice none 0 0] 28, box b1 [num k, num p, num n, vt, vo] 48, hp w]) mixed_ok (by kernel_rfl) ?_ ?_
      · refine ra_v (i := 0) (by kernel_rfl) rfl rfl (v_fieldAddr fd_48_0 ty_30 (by decide) rfl) rfl ?_
        refine ra_v (i := 1) (by kernel_rfl) rfl rfl (v_loadNB 3 ty_30 rfl rfl rfl rfl) rfl ?_
        refine ra_v (i := 2) (by kernel_rfl) rfl rfl (v_fieldAddr fd_48_2 ty_24 (by decide) rfl) rfl ?_
        refine ra_v (i := 3) (by kernel_rfl) rfl rfl (v_loadB 3 ty_24 rfl rfl rfl) rfl ?_
        refine ra_v (i := 4) (by kernel_rfl) rfl rfl (v_fieldAddr fd_48_1 ty_46 (by decide) rfl) rfl ?_
        refine ra_v (i := 5) (by kernel_rfl) rfl rfl (v_loadB 3 ty_46 rfl rfl rfl) rfl ?_
        refine ra_v (i := 6) (by kernel_rfl) rfl rfl (v_fieldAddr fd_48_2 ty_24 (by decide) rfl) rfl ?_
        refine ra_v (i := 7) (by kernel_rfl) rfl rfl (v_loadB 3 ty_24 rfl rfl rfl) rfl ?_
        refine ra_2 (i := 8) (j := 10) (by kernel_rfl) ?_ ?_
        · have ok : ValOK k p n ts op := ⟨hnet, by rw [hL, hD]; omega⟩; have hsz := sizeI_ge.1 hnet.2.2.2.2; have ho12 := hsz.1.1; have hol := hsz.1.2.1; have hodi := axes_dims hsz.1; have hring := hnet.1; have hwr := width_range hring
          refine ro_x rfl rfl (x_call rfl en_119 (fun w s => ct_s_l12Dims _ _ _ _ w (r.mono (s.get 4 rfl)) (r'.mono (s.get 4 rfl)) (by first | assumption | omega) (by first | assumption | omega))) rfl ?_; rintro v38 h38 r38
          refine ra_2 (i := 9) (j := 10) (by kernel_rfl) ?_ ?_
          · refine ro_x rfl rfl (x_call rfl en_121 (fun w s => ct_s_l05Zero _ _ _ _ _ _ _ w (by first | assumption | omega) (r'.mono (s.get 5 rfl)) (r38.toR.mono (s.get 0 rfl)) (by first | assumption | omega) (by first | assumption | omega) (by first | assumption | omega) (by first | assumption | omega))) rfl ?_; rintro _ h39 ⟨va39, vb39, vc39, rfl, o39⟩
            refine ra_rj [(10, false), (11, false)] (by kernel_rfl) rfl ?_
            refine rj_x rfl rfl (x_alloc ty_28 rfl) rfl ?_; rintro _ _ ⟨b7, rfl, rfl⟩
            refine rj_m 0 rfl rfl rfl rfl (m_store 0 ty_28 rfl rfl rfl rfl (by simp [o39.toR.1.sl.one, o39.toR.2.1.sl.one, o39.toR.2.2.sl.one]) rfl (Nat.le_of_ble_eq_true rfl)) rfl ?_; rintro _ _ ⟨rfl, rfl⟩
            refine rj_end ?_
            exact qs_mid (b7, h39, h38, v38, va39, vb39, vc39) ⟨r38, o39⟩ ⟨rfl, rfl, rfl, rfl, rfl, rfl, rfl, rfl, rfl, trivial⟩ (fun _ s => s.pick [0, 1, 2, 3, 4, 5, 6, 7] (by decide) rfl)
          · refine ro_x rfl rfl (x_alloc ty_28 rfl) rfl ?_; rintro _ _ ⟨b7, rfl, rfl⟩
            refine ra_rj [(9, false), (11, false)] (by kernel_rfl) rfl ?_
            refine rj_x rfl rfl (x_call rfl en_121 (fun w s => ct_s_l05Zero _ _ _ _ _ _ _ w (by first | assumption | omega) (r'.mono (s.get 6 rfl)) (r38.toR.mono (s.get 1 rfl)) (by first | assumption | omega) (by first | assumption | omega) (by first | assumption | omega) (by first | assumption | omega))) rfl ?_; rintro _ h39 ⟨va39, vb39, vc39, rfl, o39⟩
            refine rj_m 1 rfl rfl rfl rfl (m_store 1 ty_28 rfl rfl rfl rfl (by simp [o39.toR.1.sl.one, o39.toR.2.1.sl.one, o39.toR.2.2.sl.one]) rfl (Nat.le_of_ble_eq_true rfl)) rfl ?_; rintro _ _ ⟨rfl, rfl⟩
            refine rj_end ?_
            exact qs_mid (b7, h39, h38, v38, va39, vb39, vc39) ⟨r38, o39⟩ ⟨rfl, rfl, rfl, rfl, rfl, rfl, rfl, rfl, rfl, trivial⟩ (fun _ s => s.pick [1, 0, 2, 3, 4, 5, 6, 7] (by decide) rfl)
        · refine ro_x rfl rfl (x_alloc ty_28 rfl) rfl ?_; rintro _ _ ⟨b7, rfl, rfl⟩
          refine ra_rj [(8, false), (9, false), (11, false)] (by kernel_rfl) rfl ?_
          have ok : ValOK k p n ts op := ⟨hnet, by rw [hL, hD]; omega⟩; have hsz := sizeI_ge.1 hnet.2.2.2.2; have ho12 := hsz.1.1; have hol := hsz.1.2.1; have hodi := axes_dims hsz.1; have hring := hnet.1; have hwr := width_range hring
          refine rj_x rfl rfl (x_call rfl en_119 (fun w s => ct_s_l12Dims _ _ _ _ w (r.mono (s.get 5 rfl)) (r'.mono (s.get 5 rfl)) (by first | assumption | omega) (by first | assumption | omega))) rfl ?_; rintro v38 h38 r38
          refine rj_x rfl rfl (x_call rfl en_121 (fun w s => ct_s_l05Zero _ _ _ _ _ _ _ w (by first | assumption | omega) (r'.mono (s.get 6 rfl)) (r38.toR.mono (s.get 0 rfl)) (by first | assumption | omega) (by first | assumption | omega) (by first | assumption | omega) (by first | assumption | omega))) rfl ?_; rintro _ h39 ⟨va39, vb39, vc39, rfl, o39⟩
          refine rj_m 2 rfl rfl rfl rfl (m_store 2 ty_28 rfl rfl rfl rfl (by simp [o39.toR.1.sl.one, o39.toR.2.1.sl.one, o39.toR.2.2.sl.one]) rfl (Nat.le_of_ble_eq_true rfl)) rfl ?_; rintro _ _ ⟨rfl, rfl⟩
          refine rj_end ?_
          exact qs_mid (b7, h39, h38, v38, va39, vb39, vc39) ⟨r38, o39⟩ ⟨rfl, rfl, rfl, rfl, rfl, rfl, rfl, rfl, rfl, trivial⟩ (fun _ s => s.pick [2, 0, 1, 3, 4, 5, 6, 7] (by decide) rfl)
      · rintro ⟨b7, h39, h38, v38, va39, vb39, vc39⟩ ⟨r38, o39⟩
        dsimp only at r38 o39 ⊢
        refine qs_n ?_
        refine wp_sc ?_
        refine wp_sc ?_
        refine wp_sq ?_
        refine sq_v rfl (v_assign rfl) rfl ?_
        refine sq_end ?_
        have ok : ValOK k p n ts op := ⟨hnet, by rw [hL, hD]; omega⟩
        have hsz := sizeI_ge.1 hnet.2.2.2.2
        have ho12 := hsz.1.1
        have hol := hsz.1.2.1
        have hring := hnet.1
        have hwr := width_range hring
        have hDa := dims_mem hDd
        have hD1 : ∀ d ∈ D, 1 ≤ d := fun d hd => (hDa d hd).1
        have hP := prodI_one hD1
        have hDL : D.length = L.length := by rw [← hD, dimsFor, List.length_map]
        obtain ⟨go1, go2, go3, qo1, qo2, qo3, mdo⟩ := o39
        have qo1 : IntsO op va39 go1 := qo1
        have qo2 : IntsO (dimsFor ts op) vb39 go2 := qo2
        refine qs_s [box b7 [va39, vb39, vc39] 28, h38, h24, h20, box b2 [.slice none 0 0, .slice none 0 0, .slice none 0 0] 28, box b1 [num k, num p, num n, vt, vo] 48, hp w, go1, go2, go3] (fun _ s => Sat.open (A := [box b7 [va39, vb39, vc39] 28, h38, h24, h20, box b2 [.slice none 0 0, .slice none 0 0, .slice none 0 0] 28, box b1 [num k, num p, num n, vt, vo] 48, hp w]) mdo (s.pick [1, 0, 2, 3, 4, 5, 6, 7] (by decide) rfl)) ?_
        refine qs_n ?_
        refine wp_bl ?_
        refine wp_lp (σ := Nat × PH) (fun z_ => [(1, .pointer (some ⟨b1, 0, none⟩)), (2, .pointer (some ⟨b2, 0, none⟩)), (3, .bool false), (4, v20), (5, v24), (6, num (min (prodI D) (65536 + 1))), (7, .pointer (some ⟨b7, 0, none⟩)), (8, num z_.1), (28, .bool (decide ((65536 : Int) < min (prodI D) (65536 + 1))))]) (fun z_ => [box b7 [va39, vb39, vc39] 28, h38, h24, h20, box b2 [.slice none 0 0, .slice none 0 0, .slice none 0 0] 28, box b1 [num k, num p, num n, vt, vo] 48, hp w, go1, go2, z_.2]) (fun z_ => z_.1 ≤ (prodI D).toNat ∧ IntsO (valX k p n ts op z_.1) vc39 z_.2) (fun z_ => (prodI D).toNat - z_.1) (0, go3) (⟨by (try dsimp only); omega, qo3⟩) ⟨rfl, rfl, rfl, rfl, rfl, rfl, rfl, (by first | rfl | exact ksub rfl (by first | omega | (simp; done) | (simp; omega))), rfl, trivial⟩ (fun _ s => s) ?_
        rintro ⟨m, gx⟩ ⟨hm, qx⟩
        dsimp only at hm qx ⊢
        have hle_qx := qx.toR.le
        have hii := idxL_in hD1 m
        have hil := idxL_len D m
        have hvx := ok.small m
        refine wp_sc ?_
        refine wp_sc ?_
        refine wp_sq ?_
        refine sq_v rfl (v_move rfl) rfl ?_
        refine sq_v rfl (v_move rfl) rfl ?_
        refine sq_v rfl (v_lss rfl rfl) rfl ?_
        refine sq_end ?_
        refine qs_n ?_
        refine wp_cd rfl (fun c42 => ?_) (fun c42 => ?_)
        · refine wp_sk ?_
          refine qs_n ?_
          refine wp_sc ?_
          refine wp_bl ?_
          refine wp_sc ?_
          refine wp_sq ?_
          refine sq_v rfl (v_move rfl) rfl ?_
          refine sq_v rfl (v_move rfl) rfl ?_
          refine sq_x rfl (x_call rfl en_122 (fun w s => ct_s_l05Index _ _ _ w (r24.toR.mono (s.get 2 rfl)) (by first | assumption | omega) (by first | assumption | omega) (by first | assumption | omega))) rfl ?_; rintro v47 h47 r47
          refine sq_v rfl (v_assign rfl) rfl ?_
          refine sq_end ?_
          refine qs_n ?_
          refine wp_sc ?_
          refine wp_sq ?_
          refine sq_x rfl (x_build0 Try.underlying24 ty_3) rfl ?_; intro v48 h48 (r48 : IntsO [] v48 h48)
          refine sq_v rfl (v_assign rfl) rfl ?_
          refine sq_end ?_
          refine qs_n ?_
          refine wp_sc ?_
          refine wp_sc ?_
          refine wp_sq ?_
          refine sq_v rfl (v_fieldAddr fd_48_2 ty_24 (by decide) rfl) rfl ?_
          refine sq_v rfl (v_loadB 7 ty_24 rfl rfl rfl) rfl ?_
          refine sq_v rfl (v_len Try.underlying24 rfl r'.sl) rfl ?_
          refine sq_v rfl (v_move rfl) rfl ?_
          refine sq_end ?_
          refine qs_n ?_
          refine wp_bl ?_
          refine wp_lp (σ := Nat × Value × PH) (fun z_ => [(1, .pointer (some ⟨b1, 0, none⟩)), (2, .pointer (some ⟨b2, 0, none⟩)), (3, .bool false), (4, v20), (5, v24), (6, num (min (prodI D) (65536 + 1))), (7, .pointer (some ⟨b7, 0, none⟩)), (8, num m), (9, v47), (10, z_.2.1), (28, .bool (decide ((65536 : Int) < min (prodI D) (65536 + 1)))), (40, num m), (41, num (min (prodI D) (65536 + 1))), (42, .bool (decide ((m : Int) < min (prodI D) (65536 + 1)))), (45, v24), (46, num m), (47, v47), (48, v48), (49, .pointer (some ⟨b1, 4, none⟩)), (50, vo), (51, num op.length), (52, num z_.1)]) (fun z_ => [z_.2.2, h47, box b7 [va39, vb39, vc39] 28, h38, h24, h20, box b2 [.slice none 0 0, .slice none 0 0, .slice none 0 0] 28, box b1 [num k, num p, num n, vt, vo] 48, hp w, go1, go2, gx]) (fun z_ => z_.1 ≤ op.length ∧ IntsO (idxAt L (idxL D m) (op.take z_.1)) z_.2.1 z_.2.2) (fun z_ => op.length - z_.1) (0, v48, h48) (⟨by (try dsimp only); omega, by (try dsimp only); simpa [idxAt] using r48⟩) ⟨rfl, rfl, rfl, rfl, rfl, rfl, rfl, rfl, rfl, (by first | rfl | exact ksub rfl (by first | omega | (simp; done) | (simp; omega))), rfl, rfl, rfl, rfl, rfl, rfl, rfl, rfl, rfl, rfl, rfl, (by first | rfl | exact ksub rfl (by first | omega | (simp; done) | (simp; omega))), trivial⟩ (fun _ s => s) ?_
          rintro ⟨j, xv, xh⟩ ⟨hj, qi⟩
          dsimp only at hj qi ⊢
          have hle_qi := qi.toR.le
          have hixl : (idxAt L (idxL D m) (op.take j)).length = j := by simp [idxAt]; omega
          refine wp_sc ?_
          refine wp_sq ?_
          refine sq_v rfl (v_lss rfl rfl) rfl ?_
          refine sq_end ?_
          refine qs_n ?_
          refine wp_sc ?_
          refine wp_cd rfl (fun c53 => ?_) (fun c53 => ?_)
          · refine wp_sk ?_
            refine qs_n ?_
            refine wp_sc ?_
            refine wp_bl ?_
            refine wp_sc ?_
            refine wp_sq ?_
            refine sq_v rfl (v_idxI Try.underlying24 ty_3 rfl rfl r' (by first | omega | (simp only [List.length_cons, List.length_nil]; omega) | (simp only [List.length_append, List.length_cons, List.length_nil]; omega) | (rw [List.length_set]; omega) | (rw [List.length_replicate]; omega) | (simp; omega)) (by first | omega | (simp only [List.length_cons, List.length_nil]; omega) | (simp only [List.length_append, List.length_cons, List.length_nil]; omega) | (rw [List.length_set]; omega) | (rw [List.length_replicate]; omega) | (simp; omega))) rfl ?_
            refine sq_v rfl (v_loadI (k := j) 8 ty_3 rfl rfl r' (by first | omega | (simp only [List.length_cons, List.length_nil]; omega) | (simp only [List.length_append, List.length_cons, List.length_nil]; omega) | (rw [List.length_set]; omega) | (rw [List.length_replicate]; omega) | (simp; omega))) rfl ?_
            refine sq_v rfl (v_assign rfl) rfl ?_
            refine sq_end ?_
            have hmx : op.getD j 0 ∈ L := by rw [← hL]; exact ok.sub _ (mem_getD (show j < op.length by omega))
            have hgx := findI_get hmx
            have hgx0 := findI_ge.2 hmx
            refine qs_n ?_
            refine wp_sq ?_
            refine sq_v rfl (v_move rfl) rfl ?_
            refine sq_v rfl (v_move rfl) rfl ?_
            refine sq_v rfl (v_move rfl) rfl ?_
            refine sq_v rfl (v_move rfl) rfl ?_
            refine sq_u rfl (x_callv rfl en_123 (fun w s => ct_s_l05Find _ _ _ w (r20.toR.mono (s.get 5 rfl)))) rfl ?_
            refine sq_v rfl (v_idxI Try.underlying24 ty_3 rfl rfl r47.toR (by first | omega | (simp only [List.length_cons, List.length_nil]; omega) | (simp only [List.length_append, List.length_cons, List.length_nil]; omega) | (rw [List.length_set]; omega) | (rw [List.length_replicate]; omega) | (simp; omega)) (by first | omega | (simp only [List.length_cons, List.length_nil]; omega) | (simp only [List.length_append, List.length_cons, List.length_nil]; omega) | (rw [List.length_set]; omega) | (rw [List.length_replicate]; omega) | (simp; omega))) rfl ?_
            refine sq_v rfl (v_loadI  1 ty_3 rfl rfl r47.toR (by first | omega | (simp only [List.length_cons, List.length_nil]; omega) | (simp only [List.length_append, List.length_cons, List.length_nil]; omega) | (rw [List.length_set]; omega) | (rw [List.length_replicate]; omega) | (simp; omega))) rfl ?_
            refine sq_x rfl (x_buildS [num (((idxL D m).getD (findI L (op.getD j 0) : Int).toNat 0))] Try.underlying24 ty_3 (by decide) rfl rfl rfl (by decide) (by decide) (by intro v hv; simp at hv; rcases hv with rfl <;> rfl)) rfl ?_; intro v63 h63 (r63 : IntsO [((idxL D m).getD (findI L (op.getD j 0) : Int).toNat 0)] v63 h63)
            refine sq_m 1 rfl rfl (m_appI 1 0 Try.underlying24 ty_3 rfl rfl rfl rfl qi rfl r63.toR (by first | omega | (simp only [List.length_cons, List.length_nil]; omega) | (simp only [List.length_append, List.length_cons, List.length_nil]; omega) | (rw [List.length_set]; omega) | (rw [List.length_replicate]; omega) | (simp; omega))) rfl ?_; intro v64 h_r64 r64
            refine sq_v rfl (v_assign rfl) rfl ?_
            refine sq_end ?_
            refine qs_bn ?_
            refine qs_n ?_
            refine wp_sq ?_
            refine sq_v rfl (v_add rfl rfl ((by unfold I64; omega))) rfl ?_
            refine sq_v rfl (v_move rfl) rfl ?_
            refine sq_end ?_
            exact qs_bk (j + 1, v64, h_r64) ⟨by (try dsimp only); omega, by (try dsimp only); rw [idxAt_step (by omega)]; exact r64⟩ (by simp only; omega) ⟨rfl, rfl, rfl, rfl, rfl, rfl, rfl, rfl, rfl, (by first | rfl | exact ksub rfl (by first | omega | (simp; done) | (simp; omega))), rfl, rfl, rfl, rfl, rfl, rfl, rfl, rfl, rfl, rfl, rfl, (by first | rfl | exact ksub rfl (by first | omega | (simp; done) | (simp; omega))), trivial⟩ (fun _ s => s.pick [1, 2, 3, 4, 5, 6, 7, 8, 9, 10, 11, 12] (by decide) rfl)
          · refine wp_ex ?_
            refine qs_x ?_
            refine qs_x ?_
            refine qs_bx ?_
            refine qs_n ?_
            refine wp_sc ?_
            refine wp_sq ?_
            refine sq_v rfl (v_fieldAddr fd_28_1 ty_24 (by decide) rfl) rfl ?_
            refine sq_v rfl (v_loadB 2 ty_24 rfl rfl rfl) rfl ?_
            refine sq_v rfl (v_move rfl) rfl ?_
            rw [List.take_of_length_le (show op.length ≤ j by omega)] at qi; have hat := ok.idx m; rw [hL, hD] at hat; have eo := at_off (f := dimOf ts) ok.nd ok.opn ok.sub m; rw [hL, show L.map (dimOf ts) = D from hD, show op.map (dimOf ts) = dimsFor ts op from rfl] at eo; have hz0 := ok.at_k m; have hzf := ok.fits m; have hZr := (ok.all m).el hring hz0.1 hz0.2; have hWr := ok.weight m; rw [hL, hD] at hWr; rw [hL, eo] at hz0 hzf hZr; have hSr := addL_in hring hZr hWr; have hido : idxIn (dimsFor ts op) (idxAt L (idxL D m) op) := ⟨by simp [idxAt, dimsFor], fun j hj => by have hj' : j < op.length := (by omega); have hmj : op.getD j 0 ∈ L := (by rw [← hL]; exact ok.sub _ (mem_getD hj')); have hg := findI_get hmj; have := hii.2 (findI L (op.getD j 0)).toNat (by omega); rw [idxAt, map_getD hj', dimsFor, map_getD hj']; rw [← hD, dimsFor, map_getD (by omega), hg.2] at this; rw [← hD]; exact this⟩; have hodm := ok.odims;
            refine sq_u rfl (x_callv rfl en_124 (fun w s => ct_s_l05Offset _ _ _ _ w (qo2.toR.mono (s.get 10 rfl)) (qi.toR.mono (s.get 0 rfl)) (by first | assumption | omega) (by first | assumption | omega) (by first | assumption | omega))) rfl ?_
            refine sq_v rfl (v_assign rfl) rfl ?_
            refine sq_end ?_
            refine qs_n ?_
            refine wp_rj 16 [(0, true), (1, true), (2, true), (3, true), (4, true), (5, true), (6, true), (7, true), (8, true), (9, true), (11, true), (12, true), (13, true), (10, false), (14, false), (15, false), (16, false)] mixed_ok (by kernel_rfl) ?_
            refine rj_v rfl rfl (v_fieldAddr fd_48_0 ty_30 (by decide) rfl) rfl ?_
            refine rj_v rfl rfl (v_loadNB 7 ty_30 rfl rfl rfl rfl) rfl ?_
            refine rj_v rfl rfl (v_loadNB 2 ty_28 rfl rfl rfl rfl) rfl ?_
            refine rj_v rfl rfl (v_move rfl) rfl ?_
            refine rj_v rfl rfl (v_fieldAddr fd_48_0 ty_30 (by decide) rfl) rfl ?_
            refine rj_v rfl rfl (v_loadNB 7 ty_30 rfl rfl rfl rfl) rfl ?_
            refine rj_v rfl rfl (v_fieldAddr fd_48_0 ty_30 (by decide) rfl) rfl ?_
            refine rj_v rfl rfl (v_loadNB 7 ty_30 rfl rfl rfl rfl) rfl ?_
            refine rj_v rfl rfl (v_loadNB 2 ty_28 rfl rfl rfl rfl) rfl ?_
            refine rj_v rfl rfl (v_move rfl) rfl ?_
            refine rj_v rfl rfl (v_loadNB 7 ty_48 rfl rfl rfl rfl) rfl ?_
            refine rj_v rfl rfl (v_move rfl) rfl ?_
            refine rj_v rfl rfl (v_move rfl) rfl ?_
            refine rj_x rfl rfl (x_call rfl en_127 (fun w s => ct_s_l05Get _ _ _ _ _ _ _ _ w (by first | assumption | omega) (qx.toR.mono (s.get 11 rfl)) (by first | assumption | omega) (by first | assumption | omega) (by first | assumption | omega))) rfl ?_; rintro v80 h80 r80
            refine rj_x rfl rfl (x_call rfl en_128 (fun w s => ct_s_l12Weight _ _ _ _ _ _ _ _ _ _ w (r.mono (s.get 9 rfl)) (r20.toR.mono (s.get 6 rfl)) (r47.toR.mono (s.get 2 rfl)) (by first | assumption | omega))) rfl ?_; rintro v84 h84 r84
            refine rj_x rfl rfl (x_call rfl en_126 (fun w s => ct_s_l02Add _ _ _ _ _ _ _ w (by first | assumption | omega) (r80.toR.mono (s.get 1 rfl)) (r84.toR.mono (s.get 0 rfl)) (by first | assumption | omega) (by first | assumption | omega))) rfl ?_; rintro v85 h85 r85
            refine rj_m 14 rfl rfl rfl rfl (x_call rfl en_125 (fun w s => ct_s_l05Put _ _ _ _ _ _ _ _ _ _ _ _ w _ (by first | assumption | omega) (s.get 14 rfl) (qo1.toR.mono (s.getR 14 12 rfl rfl (by decide))) (qo2.toR.mono (s.getR 14 13 rfl rfl (by decide))) qx (r85.toR.mono (s.getR 14 0 rfl rfl (by decide))) hSr.1 (by first | assumption | omega) (by first | assumption | omega) (by first | assumption | omega))) rfl ?_; rintro _ h86 r86
            refine rj_end ?_
            refine qs_bn ?_
            refine qs_n ?_
            refine wp_sq ?_
            refine sq_v rfl (v_move rfl) rfl ?_
            refine sq_v rfl (v_add rfl rfl ((by unfold I64; omega))) rfl ?_
            refine sq_v rfl (v_assign rfl) rfl ?_
            refine sq_end ?_
            exact qs_bk (m + 1, h86) ⟨by (try dsimp only); omega, by (try dsimp only); rw [valX, hL, eo, hD]; exact r86⟩ (by simp only; omega) ⟨rfl, rfl, rfl, rfl, rfl, rfl, rfl, (by first | rfl | exact ksub rfl (by first | omega | (simp; done) | (simp; omega))), rfl, trivial⟩ (fun _ s => s.pick [5, 6, 7, 8, 9, 10, 11, 12, 13, 14] (by decide) rfl)
        · refine wp_ex ?_
          refine qs_x ?_
          refine qs_x ?_
          refine qs_bx ?_
          refine qs_n ?_
          refine wp_sc ?_
          refine wp_sq ?_
          refine sq_v rfl (v_loadNB 0 ty_28 rfl rfl rfl rfl) rfl ?_
          refine sq_m 4 rfl rfl (m_store 4 ty_28 rfl rfl rfl rfl (by simp [qo1.toR.sl.one, qo2.toR.sl.one, qx.toR.sl.one]) rfl (Nat.le_of_ble_eq_true rfl)) rfl ?_; rintro _ _ ⟨rfl, rfl⟩
          refine sq_v rfl (v_assign rfl) rfl ?_
          refine sq_end ?_
          refine qs_n ?_
          refine wp_rt ?_
          refine qs_close [box b2 _ _, hp w] [go1, go2, gx] (fun _ s => s.pick [4, 6, 7, 8, 9] (by decide) rfl) (fun md => ?_)
          exact qs_retct 1 rfl ty_28 rfl rfl rfl rfl (fin_t 0 (i := 2) rfl rfl rfl (ValYes ok ⟨_, _, _, qo1, qo2, by rw [hL, hD, show (prodI D).toNat = m by omega]; exact qx, md⟩))
end Go.Proofs.Ytikeobneipjfnaa
namespace Go.Proofs.Ytikeobneipjfnaa
set_option maxRecDepth 100000
open Go.RowKit
def TensL (ts : List Ten) (cs : List Value) (h : PH) : Prop := cs.length = ts.length * 3 ∧ ∀ (i : Nat) (t : Ten), ts[i]? = some t → TenR t ((cs.drop (i * 3)).take 3) h
theorem TensL.nil (h : PH) : TensL [] [] h := ⟨rfl, fun i x e => by simp at e⟩
theorem TensL.mono {ts : List Ten} {cs : List Value} {h h' : PH} (r : TensL ts cs h) (l : PLe h h') : TensL ts cs h' := ⟨r.1, fun i x e => (r.2 i x e).mono l⟩
theorem TensL.tens {ts : List Ten} {cs : List Value} {v : Value} {h : PH} (r : TensL ts cs h) (rr : RowR cs ts.length 3 v h) : TensR ts v h := ⟨cs, rr, r.2⟩
theorem PDj.rest {w : World} {h hs : PH} (l : PLe hs h) : PDj hs (restP w h) := fun k => by
  cases e : hs k with
  | none => exact .inl rfl
  | some o => right; simp [restP, l k o e]
theorem Sat.join {w0 w : World} {HS : List PH} {a b : PH} (s : Sat w0 (a :: b :: HS) w) : Sat w0 (PUn a b :: HS) w := s.merge
def shTens (f : Int → Int) (s : Sh) : List Ten := s.all.map fun l => ⟨l, l.map f, []⟩
theorem shTens_len (f : Int → Int) (s : Sh) : (shTens f s).length = s.all.length := by simp [shTens]
structure SpR (f : Int → Int) (s : Sh) (va vg : Value) (b : Nat) (h : PH) : Prop where
  ok : s.ok
  c0 : cellP h b 0 = some va
  c1 : cellP h b 1 = some vg
  all : TensR (shTens f s) va h
  gone : BoolsR s.gone vg h
def SpO (f : Int → Int) (s : Sh) (bb : Nat) (h q : PH) : Prop :=
  s.ok ∧ ∃ va vg ha hg hs cs, RowO 28 cs s.all.length 3 va ha ∧ BoolsO s.gone vg hg ∧ TensL (shTens f s) cs (PUn hs q) ∧ Made h [box bb [va, vg] 189, ha, hg, hs]
theorem SpR.of {f : Int → Int} {s : Sh} {va vg : Value} {bb : Nat} {h ha hg X : PH} {cs : List Value} (hok : s.ok) (hb : PLe (box bb [va, vg] 189) h) (ra : RowO 28 cs s.all.length 3 va ha) (la : PLe ha h) (rt : TensL (shTens f s) cs X) (lx : PLe X h) (rg : BoolsO s.gone vg hg) (lg : PLe hg h) : SpR f s va vg bb h :=
  ⟨hok, cellP.mono hb (by rw [cellP_box]; rfl), cellP.mono hb (by rw [cellP_box]; rfl), (rt.mono lx).tens (by rw [shTens_len]; exact ra.toR.mono la), rg.toR.mono lg⟩
end Go.Proofs.Ytikeobneipjfnaa
namespace Go.Proofs.Ytikeobneipjfnaa
set_option maxRecDepth 100000
open Go.RowKit
/-- The world's heap once more. -/
theorem Sat.whole {w0 w : World} {HS : List PH} {q : PH} (lq : PLe q (hp w0)) (s : Sat w0 (q :: restP w0 q :: HS) w) : Sat w0 (HS ++ [hp w0]) w := by
  have l : PLe (hp w0) (PUn q (restP w0 q)) := fun k o e => by
    unfold PUn restP
    cases hq : q k with
    | none => simp [hq, e]
    | some o' => have := lq k o' hq; rw [e] at this; simp [this]
  have s1 := Sat.less (i := 0) s.merge rfl l
  exact Sat.comm (A := [hp w0]) (B := HS) s1
end Go.Proofs.Ytikeobneipjfnaa
namespace Go.Proofs.Ytikeobneipjfnaa
set_option maxRecDepth 100000
open Go.RowKit
theorem ct_i_cappedProduct (ds : List Int) (L : Int) (v : Value) (w : World) (r : IntsR ds v (hp w)) (hd : dimsIn ds) (hL : 1 ≤ L ∧ L ≤ 1000000000000) : Calls Try.prog 132 [v, num L].toArray w (RetV w (num (min (prodI ds) L))) := by
  refine calls_in Try.func132 rfl Try.ntmps132 rfl (Sat.start w) ?_
  have hle0 := r.le
  refine wp_sc ?_
  refine wp_sq ?_
  refine sq_v rfl (v_assign rfl) rfl ?_
  refine sq_end ?_
  refine qs_n ?_
  refine wp_sc ?_
  refine wp_sq ?_
  refine sq_v rfl (v_assign rfl) rfl ?_
  refine sq_end ?_
  refine qs_n ?_
  refine wp_sc ?_
  refine wp_sc ?_
  refine wp_sq ?_
  refine sq_v rfl (v_move rfl) rfl ?_
  refine sq_v rfl (v_len Try.underlying24 rfl r.sl) rfl ?_
  refine sq_v rfl (v_move rfl) rfl ?_
  refine sq_end ?_
  refine qs_n ?_
  refine wp_bl ?_
  refine wp_lp (σ := Nat × Int) (fun z_ => [(1, num L), (4, num 0), (5, num z_.2), (8, v), (9, num ds.length), (10, num z_.1)]) (fun z_ => [hp w]) (fun z_ => z_.1 ≤ ds.length ∧ z_.2 = min (prodI (ds.take z_.1)) L) (fun z_ => ds.length - z_.1) (0, 1) (⟨by (try dsimp only); omega, by (try dsimp only); simp [prodI]; omega⟩) ⟨rfl, rfl, (by first | rfl | exact ksub rfl (by first | omega | (simp; done) | (simp; omega))), rfl, rfl, (by first | rfl | exact ksub rfl (by first | omega | (simp; done) | (simp; omega))), trivial⟩ (fun _ s => s) ?_
  rintro ⟨i, q⟩ ⟨hi, hq⟩
  dsimp only at hi hq ⊢
  have hpp := prodI_pos (fun j hj => (hd j hj).1) i hi
  refine wp_sc ?_
  refine wp_sq ?_
  refine sq_v rfl (v_lss rfl rfl) rfl ?_
  refine sq_end ?_
  refine qs_n ?_
  refine wp_sc ?_
  refine wp_cd rfl (fun c11 => ?_) (fun c11 => ?_)
  · refine wp_sk ?_
    refine qs_n ?_
    refine wp_sc ?_
    refine wp_bl ?_
    refine wp_sc ?_
    refine wp_sq ?_
    refine sq_v rfl (v_idxI Try.underlying24 ty_3 rfl rfl r (by first | omega | (simp only [List.length_cons, List.length_nil]; omega) | (simp only [List.length_append, List.length_cons, List.length_nil]; omega) | (rw [List.length_set]; omega) | (rw [List.length_replicate]; omega) | (simp; omega)) (by first | omega | (simp only [List.length_cons, List.length_nil]; omega) | (simp only [List.length_append, List.length_cons, List.length_nil]; omega) | (rw [List.length_set]; omega) | (rw [List.length_replicate]; omega) | (simp; omega))) rfl ?_
    refine sq_v rfl (v_loadI (k := i) 0 ty_3 rfl rfl r (by first | omega | (simp only [List.length_cons, List.length_nil]; omega) | (simp only [List.length_append, List.length_cons, List.length_nil]; omega) | (rw [List.length_set]; omega) | (rw [List.length_replicate]; omega) | (simp; omega))) rfl ?_
    refine sq_v rfl (v_assign rfl) rfl ?_
    refine sq_end ?_
    refine qs_n ?_
    refine wp_sq ?_
    refine sq_v rfl (v_move rfl) rfl ?_
    refine sq_v rfl (v_move rfl) rfl ?_
    have hdi := hd i (by omega); have hqd := mul_in (a := q) (b := ds.getD i 0) (t := 1000000000000) (u := 8) ⟨by omega, by omega⟩ ⟨by omega, by omega⟩; have hms := min_step hpp hdi.1 (show 0 ≤ L - 1 by omega); rw [show L - 1 + 1 = L by omega] at hms
    refine sq_v rfl (v_mul rfl rfl ((by unfold I64; omega))) rfl ?_
    refine sq_v rfl (v_move rfl) rfl ?_
    refine sq_v rfl (v_min rfl rfl) rfl ?_
    refine sq_v rfl (v_assign rfl) rfl ?_
    refine sq_end ?_
    refine qs_bn ?_
    refine qs_n ?_
    refine wp_sq ?_
    refine sq_v rfl (v_add rfl rfl ((by unfold I64; omega))) rfl ?_
    refine sq_v rfl (v_move rfl) rfl ?_
    refine sq_end ?_
    exact qs_bk (i + 1, min (q * ds.getD i 0) L) ⟨by (try dsimp only); omega, by (try dsimp only); rw [hq, hms, prodI_step (by omega)]⟩ (by simp only; omega) ⟨rfl, rfl, (by first | rfl | exact ksub rfl (by first | omega | (simp; done) | (simp; omega))), rfl, rfl, (by first | rfl | exact ksub rfl (by first | omega | (simp; done) | (simp; omega))), trivial⟩ (fun _ s => s)
  · refine wp_ex ?_
    refine qs_x ?_
    refine qs_x ?_
    refine qs_bx ?_
    refine qs_n ?_
    refine wp_sc ?_
    refine wp_sq ?_
    refine sq_v rfl (v_move rfl) rfl ?_
    refine sq_v rfl (v_assign rfl) rfl ?_
    refine sq_end ?_
    refine qs_n ?_
    refine wp_rt ?_
    exact qs_ret1 rfl rfl (fin_q (i := 0) rfl (by rw [hq, List.take_of_length_le (by omega)]))
theorem SpO.toR {f : Int → Int} {s : Sh} {bb : Nat} {h q H : PH} (r : SpO f s bb h q) (l : PLe h H) (lq : PLe q H) : ∃ va vg, SpR f s va vg bb H := by
  obtain ⟨hok, va, vg, ha, hg, hs, cs, ra, rg, rt, md⟩ := r
  exact ⟨va, vg, SpR.of hok ((md.le _ (by simp)).trans l) ra ((md.le ha (by simp)).trans l) rt (PUn.le ((md.le hs (by simp)).trans l) lq) rg ((md.le hg (by simp)).trans l)⟩
theorem stepCells_take : ∀ (ss : List Stp) (n : Nat), stepCells (ss.take n) = (stepCells ss).take (n * 2)
  | [], n => by simp [stepCells]
  | s :: r, 0 => by simp [stepCells]
  | s :: r, n + 1 => by
    have := stepCells_take r n
    rw [List.take_succ_cons, show (n + 1) * 2 = n * 2 + 1 + 1 by omega]
    show [num s.a, num s.b] ++ stepCells (r.take n) = ([num s.a, num s.b] ++ stepCells r).take (n * 2 + 1 + 1)
    rw [this]; rfl
theorem StepsR.subH {ss : List Stp} {v : Value} {h : PH} (r : StepsR ss v h) {hi : Nat} (h2 : hi ≤ ss.length) : StepsR (ss.take hi) (subV v 0 hi 2) h := by
  have := RowR.sub r (Nat.zero_le hi) h2
  unfold StepsR
  rw [stepCells_take, List.length_take, Nat.min_eq_left h2]
  simpa using this
end Go.Proofs.Ytikeobneipjfnaa
namespace Go.Proofs.Ytikeobneipjfnaa
set_option maxRecDepth 100000
open Go.RowKit
theorem ct_i_openAxes (k p n : Int) (ts : List Ten) (op : List Int) (vt vo : Value) (w : World) (r : TensR ts vt (hp w)) (r' : IntsR op vo (hp w)) (hs : op.length ≤ 1048576) (hnet : netL k p n ts op) :
    Calls Try.prog 133 [netV k p n vt vo].toArray w (Ret w emp (fun u h => ∃ u1 u2, u = tenV u1 u2 (.slice none 0 0) ∧ IntsR op u1 h ∧ IntsR (dimsFor ts op) u2 h)) := by
  have hax := net_axes hnet
  have hop : ∀ x ∈ op, 0 ≤ x ∧ x ≤ 99 := all_of fun j hj => (open_at hnet.2.2.2.2 hj).1
  refine calls_in Try.func133 rfl Try.ntmps133 rfl (Sat.start w) ?_
  have hle0 := r.le
  obtain ⟨cs_r, rr_r, hc_r⟩ := r.at
  have hle1 := r'.le
  refine wp_sc ?_
  refine wp_sq ?_
  refine sq_x rfl (x_box rfl rfl) rfl ?_; rintro _ _ ⟨b1, rfl, rfl⟩
  refine sq_x rfl (x_alloc ty_28 rfl) rfl ?_; rintro _ _ ⟨b2, rfl, rfl⟩
  refine sq_end ?_
  refine qs_n ?_
  refine wp_sc ?_
  refine wp_sq ?_
  refine sq_v rfl (v_fieldAddr fd_48_1 ty_46 (by decide) rfl) rfl ?_
  refine sq_v rfl (v_loadB 1 ty_46 rfl rfl rfl) rfl ?_
  refine sq_x rfl (x_call rfl en_129 (fun w s => ct_i_dimsOf _ _ w (r.mono (s.get 2 rfl)) (by first | assumption | omega))) rfl ?_; rintro _ h8 ⟨arr, ok, rfl, hal, hok, hav⟩
  refine sq_v rfl (v_move rfl) rfl ?_
  refine sq_v rfl (v_extract rfl rfl) rfl ?_
  refine sq_v rfl (v_extract rfl rfl) rfl ?_
  refine sq_x rfl (x_alloc ty_155 rfl) rfl ?_; rintro _ _ ⟨b3, rfl, rfl⟩
  refine sq_m 0 rfl rfl (m_storeW 0 ty_155 rfl rfl rfl (by rw [ints_length]; exact hal) (ints_one arr) rfl (by simp)) rfl ?_; rintro _ _ ⟨rfl, rfl⟩
  refine sq_v rfl (v_assign rfl) rfl ?_
  refine sq_end ?_
  refine qs_n ?_
  refine wp_sc ?_
  refine wp_sq ?_
  refine sq_v rfl (v_loadNB 0 ty_155 rfl rfl (by rw [ints_length]; exact hal) (by rw [List.drop_zero, List.take_of_length_le]; rw [ints_length, hal]; omega)) rfl ?_
  refine sq_v rfl (v_fieldAddr fd_48_2 ty_24 (by decide) rfl) rfl ?_
  refine sq_v rfl (v_loadB 3 ty_24 rfl rfl rfl) rfl ?_
  have hinv := hav (hok.2 hnet.2.2.2.1); have hao := arrOf_eq hinv hop
  refine sq_x rfl (x_call rfl en_130 (fun w s => ct_i_axesOf _ _ _ w (r'.mono (s.get 4 rfl)) (by first | assumption | omega) (by first | assumption | omega) (by first | assumption | omega))) rfl ?_; rintro _ h14 ⟨u1, u2, rfl, ru1, ru2⟩
  refine sq_m 3 rfl rfl (m_store 3 ty_28 rfl rfl rfl rfl (by simp [ru1.sl.one, ru2.sl.one, one_sl]) rfl (Nat.le_of_ble_eq_true rfl)) rfl ?_; rintro _ _ ⟨rfl, rfl⟩
  refine sq_end ?_
  refine qs_n ?_
  refine wp_rt ?_
  exact qs_retc 3 rfl ty_28 rfl rfl rfl (fin_t 0 (i := 5) rfl rfl rfl (⟨u1, u2, rfl, ru1, by rw [← hao]; exact ru2⟩))
end Go.Proofs.Ytikeobneipjfnaa
namespace Go.Proofs.Ytikeobneipjfnaa
set_option maxRecDepth 100000
open Go.RowKit
theorem strides_snoc {ts : List Ten} {L : List Int} {cs : List Value} {i : Nat} {hl h : PH} {t0 : Ten} {v : Value} (hcl : cs.length = i) (hd : PDj hl h) (hcs : ∀ (j : Nat) (t : Ten), j < i → ts[j]? = some t → ∃ a, cs[j]? = some a ∧ IntsR (stepsL L t.l t.d) a hl) (h0 : ts[i]? = some t0) (r : IntsO (stepsL L t0.l t0.d) v h) :
    ∀ (j : Nat) (t : Ten), j < i + 1 → ts[j]? = some t → ∃ a, (cs ++ [v])[j]? = some a ∧ IntsR (stepsL L t.l t.d) a (PUn hl h) := fun j t hj ht => by
  by_cases e : j = i
  · subst e
    rw [h0] at ht
    cases ht
    exact ⟨v, by rw [← hcl]; simp, r.toR.mono (PLe.un_r hd)⟩
  · obtain ⟨a, ha, ra⟩ := hcs j t (by omega) ht
    exact ⟨a, by rw [List.getElem?_append_left (by omega)]; exact ha, ra.mono (PLe.un_l _ _)⟩
theorem row1_step {T n i : Nat} {cs : List Value} {v u : Value} {h : PH} (hcl : cs.length = i) (hi : i < n) (r : RowO T ((cs ++ (List.replicate (n - i) [Value.slice none 0 0]).flatten).take (i * 1) ++ [u] ++ (cs ++ (List.replicate (n - i) [Value.slice none 0 0]).flatten).drop (i * 1 + 1)) n 1 v h) :
    RowO T ((cs ++ [u]) ++ (List.replicate (n - (i + 1)) [Value.slice none 0 0]).flatten) n 1 v h := by
  obtain ⟨m, hm⟩ : ∃ m, n - i = m + 1 := ⟨n - i - 1, by omega⟩
  rw [hm, Nat.mul_one, ← hcl, List.take_left, List.drop_append, List.drop_of_length_le (by omega), List.nil_append, List.replicate_succ, List.flatten_cons, show cs.length + 1 - cs.length = 1 by omega] at r
  rw [← hcl] at hm ⊢
  rw [show n - (cs.length + 1) = m by omega]
  exact r
theorem onecell_at {cs : List Value} {X : List Value} {j : Nat} {a : Value} (h : cs[j]? = some a) : ((cs ++ X).drop (j * 1)).take 1 = [a] := by
  obtain ⟨hj, e⟩ := List.getElem?_eq_some_iff.1 h
  rw [Nat.mul_one, List.drop_append_of_le_length (by omega), List.drop_eq_getElem_cons hj, List.cons_append, List.take_succ_cons, e]
  rfl
set_option maxHeartbeats 8000000 in
theorem ct_i_NetworkValue (k p n : Int) (ts : List Ten) (op : List Int) (vt vo : Value) (w : World) (r : TensR ts vt (hp w)) (r' : IntsR op vo (hp w)) (hs : op.length ≤ 1048576) :
    Calls Try.prog 54 [netV k p n vt vo].toArray w (Ret w emp (TenB (valR k p n ts op) (valB k p n ts op))) := by
  obtain ⟨L, hL⟩ : ∃ L, labelsL ts = L := ⟨_, rfl⟩
  obtain ⟨D, hD⟩ : ∃ D, dimsFor ts L = D := ⟨_, rfl⟩
  have hll : (labelsL ts).length ≤ 100 := labels_len ts 100
  rw [hL] at hll
  refine calls_in Try.func54 rfl Try.ntmps54 rfl (Sat.start w) ?_
  have hle0 := r.le
  obtain ⟨cs_r, rr_r, hc_r⟩ := r.at
  have hle1 := r'.le
  refine wp_sc ?_
  refine wp_sq ?_
  refine sq_x rfl (x_box rfl rfl) rfl ?_; rintro _ _ ⟨b1, rfl, rfl⟩
  refine sq_x rfl (x_alloc ty_28 rfl) rfl ?_; rintro _ _ ⟨b2, rfl, rfl⟩
  refine sq_v rfl (v_assign rfl) rfl ?_
  refine sq_end ?_
  refine qs_n ?_
  refine wp_sc ?_
  refine wp_sc ?_
  refine wp_sq ?_
  refine sq_v rfl (v_loadNB 1 ty_48 rfl rfl rfl rfl) rfl ?_
  refine sq_u rfl (x_callv rfl en_79 (fun w s => ct_i_NetworkOk _ _ _ _ _ _ _ w (r.mono (s.get 2 rfl)) (r'.mono (s.get 2 rfl)) (by first | assumption | omega))) rfl ?_
  refine sq_v rfl (v_not rfl) rfl ?_
  refine sq_end ?_
  refine qs_n ?_
  refine wp_cn _ rfl (fun c19 => ?_) (fun c19 => ?_)
  · refine wp_sc ?_
    refine wp_sq ?_
    refine sq_v rfl (v_build [.slice none 0 0, .slice none 0 0, .slice none 0 0] rfl (by kernel_rfl)) rfl ?_
    refine sq_m 0 rfl rfl (m_store 0 ty_28 rfl rfl rfl rfl (by simp [one_sl]) rfl (Nat.le_of_ble_eq_true rfl)) rfl ?_; rintro _ _ ⟨rfl, rfl⟩
    refine sq_v rfl (v_assign rfl) rfl ?_
    refine sq_end ?_
    refine qs_n ?_
    refine wp_rt ?_
    refine qs_r ?_
    exact qs_retct 0 rfl ty_28 rfl rfl rfl rfl (fin_e (i := 2) rfl (ValNo (fun h => netB_false.1 c19 h.net)))
  · refine wp_sk ?_
    refine qs_n ?_
    refine wp_sc ?_
    refine wp_sq ?_
    refine sq_v rfl (v_fieldAddr fd_48_1 ty_46 (by decide) rfl) rfl ?_
    refine sq_v rfl (v_loadB 1 ty_46 rfl rfl rfl) rfl ?_
    have hnet := netB_true.1 c19; have hax := net_ax hnet; have haxs := net_axes hnet
    refine sq_x rfl (x_call rfl en_129 (fun w s => ct_i_dimsOf _ _ w (r.mono (s.get 2 rfl)) (by first | assumption | omega))) rfl ?_; rintro _ h24 ⟨arr, okk, rfl, hal, hok, hav⟩
    refine sq_v rfl (v_move rfl) rfl ?_
    refine sq_v rfl (v_extract rfl rfl) rfl ?_
    refine sq_v rfl (v_extract rfl rfl) rfl ?_
    refine sq_x rfl (x_alloc ty_155 rfl) rfl ?_; rintro _ _ ⟨b4, rfl, rfl⟩
    refine sq_m 0 rfl rfl (m_storeW 0 ty_155 rfl rfl rfl (by rw [ints_length]; exact hal) (ints_one arr) rfl (by simp)) rfl ?_; rintro _ _ ⟨rfl, rfl⟩
    refine sq_v rfl (v_assign rfl) rfl ?_
    refine sq_end ?_
    have hinv := hav (hok.2 hnet.2.2.2.1)
    refine qs_n ?_
    refine wp_sc ?_
    refine wp_ra (σ := Nat × PH × PH × Value × Value × Value) 5 (fun z_ => IntsO (labelsL ts) z_.2.2.2.1 z_.2.2.1 ∧ IntsR (labelsL ts) z_.2.2.2.2.1 z_.2.1 ∧ IntsR (arrOf arr (labelsL ts)) z_.2.2.2.2.2 z_.2.1 ∧ IntsR (labelsL ts) z_.2.2.2.2.1 z_.2.1 ∧ IntsR (arrOf arr (labelsL ts)) z_.2.2.2.2.2 z_.2.1) (fun z_ => [(1, .pointer (some ⟨b1, 0, none⟩)), (2, .pointer (some ⟨b2, 0, none⟩)), (3, .bool false), (6, .pointer (some ⟨z_.1, 0, none⟩)), (19, .bool (!(netB k p n ts op)))]) (fun z_ => [box z_.1 [z_.2.2.2.2.1, z_.2.2.2.2.2, .slice none 0 0] 28, z_.2.1, z_.2.2.1, box b4 (ints arr) 155, h24, box b2 [.slice none 0 0, .slice none 0 0, .slice none 0 0] 28, box b1 [num k, num p, num n, vt, vo] 48, hp w]) mixed_ok (by kernel_rfl) ?_ ?_
    · refine ra_v (i := 0) (by kernel_rfl) rfl rfl (v_loadNB 0 ty_155 rfl rfl (by rw [ints_length]; exact hal) (by rw [List.drop_zero, List.take_of_length_le]; rw [ints_length, hal]; omega)) rfl ?_
      refine ra_v (i := 1) (by kernel_rfl) rfl rfl (v_loadNB 0 ty_155 rfl rfl (by rw [ints_length]; exact hal) (by rw [List.drop_zero, List.take_of_length_le]; rw [ints_length, hal]; omega)) rfl ?_
      refine ra_2 (i := 2) (j := 4) (by kernel_rfl) ?_ ?_
      · refine ro_x rfl rfl (x_call rfl en_131 (fun w s => ct_i_occurring _ _ w (by first | assumption | omega) (by first | assumption | omega))) rfl ?_; rintro v29 h29 r29
        refine ra_2 (i := 3) (j := 4) (by kernel_rfl) ?_ ?_
        · refine ro_x rfl rfl (x_call rfl en_130 (fun w s => ct_i_axesOf _ _ _ w (r29.toR.mono (s.get 0 rfl)) (by first | assumption | omega) labels_in (by have h0 : (labelsL ts).length ≤ 100 := labels_len ts 100; omega))) rfl ?_; rintro _ h30 ⟨u1, u2, rfl, ru1, ru2⟩
          refine ra_rj [(4, false), (5, false)] (by kernel_rfl) rfl ?_
          refine rj_x rfl rfl (x_alloc ty_28 rfl) rfl ?_; rintro _ _ ⟨b6, rfl, rfl⟩
          refine rj_m 0 rfl rfl rfl rfl (m_store 0 ty_28 rfl rfl rfl rfl (by simp [ru1.sl.one, ru2.sl.one, one_sl]) rfl (Nat.le_of_ble_eq_true rfl)) rfl ?_; rintro _ _ ⟨rfl, rfl⟩
          refine rj_end ?_
          exact qs_mid (b6, h30, h29, v29, u1, u2) ⟨r29, ru1, ru2, ru1, ru2⟩ ⟨rfl, rfl, rfl, rfl, rfl, trivial⟩ (fun _ s => s.pick [0, 1, 2, 3, 4, 5, 6, 7] (by decide) rfl)
        · refine ro_x rfl rfl (x_alloc ty_28 rfl) rfl ?_; rintro _ _ ⟨b6, rfl, rfl⟩
          refine ra_rj [(3, false), (5, false)] (by kernel_rfl) rfl ?_
          refine rj_x rfl rfl (x_call rfl en_130 (fun w s => ct_i_axesOf _ _ _ w (r29.toR.mono (s.get 1 rfl)) (by first | assumption | omega) labels_in (by have h0 : (labelsL ts).length ≤ 100 := labels_len ts 100; omega))) rfl ?_; rintro _ h30 ⟨u1, u2, rfl, ru1, ru2⟩
          refine rj_m 1 rfl rfl rfl rfl (m_store 1 ty_28 rfl rfl rfl rfl (by simp [ru1.sl.one, ru2.sl.one, one_sl]) rfl (Nat.le_of_ble_eq_true rfl)) rfl ?_; rintro _ _ ⟨rfl, rfl⟩
          refine rj_end ?_
          exact qs_mid (b6, h30, h29, v29, u1, u2) ⟨r29, ru1, ru2, ru1, ru2⟩ ⟨rfl, rfl, rfl, rfl, rfl, trivial⟩ (fun _ s => s.pick [1, 0, 2, 3, 4, 5, 6, 7] (by decide) rfl)
      · refine ro_x rfl rfl (x_alloc ty_28 rfl) rfl ?_; rintro _ _ ⟨b6, rfl, rfl⟩
        refine ra_rj [(2, false), (3, false), (5, false)] (by kernel_rfl) rfl ?_
        refine rj_x rfl rfl (x_call rfl en_131 (fun w s => ct_i_occurring _ _ w (by first | assumption | omega) (by first | assumption | omega))) rfl ?_; rintro v29 h29 r29
        refine rj_x rfl rfl (x_call rfl en_130 (fun w s => ct_i_axesOf _ _ _ w (r29.toR.mono (s.get 0 rfl)) (by first | assumption | omega) labels_in (by have h0 : (labelsL ts).length ≤ 100 := labels_len ts 100; omega))) rfl ?_; rintro _ h30 ⟨u1, u2, rfl, ru1, ru2⟩
        refine rj_m 2 rfl rfl rfl rfl (m_store 2 ty_28 rfl rfl rfl rfl (by simp [ru1.sl.one, ru2.sl.one, one_sl]) rfl (Nat.le_of_ble_eq_true rfl)) rfl ?_; rintro _ _ ⟨rfl, rfl⟩
        refine rj_end ?_
        exact qs_mid (b6, h30, h29, v29, u1, u2) ⟨r29, ru1, ru2, ru1, ru2⟩ ⟨rfl, rfl, rfl, rfl, rfl, trivial⟩ (fun _ s => s.pick [2, 0, 1, 3, 4, 5, 6, 7] (by decide) rfl)
    · rintro ⟨b6, h30, h29, v29, u1, u2⟩ ⟨r29, ru1, ru2, ru1, ru2⟩
      dsimp only at r29 ru1 ru2 ru1 ru2 ⊢
      refine qs_n ?_
      refine wp_sc ?_
      refine wp_sc ?_
      refine wp_sq ?_
      refine sq_v rfl (v_fieldAddr fd_28_1 ty_24 (by decide) rfl) rfl ?_
      refine sq_v rfl (v_loadB 0 ty_24 rfl rfl rfl) rfl ?_
      have hao : arrOf arr (labelsL ts) = D := (by rw [arrOf_eq hinv labels_in, hL, hD]); rw [hao] at ru2; rw [hL] at ru1; have hDd : dimsIn D := (fun j hj => by have hj' : j < L.length := (by rw [← hD, dimsFor, List.length_map] at hj; exact hj); rw [← hD, dimsFor, map_getD hj']; have h1 := mem_labels.1 (show L.getD j 0 ∈ labelsL ts by rw [hL]; exact mem_getD hj'); have h2 := dimOf_range hax (L.getD j 0); omega);
      refine sq_u rfl (x_callv rfl en_132 (fun w s => ct_i_cappedProduct _ _ _ w (ru2.mono (s.get 1 rfl)) (by first | assumption | omega) (by first | assumption | omega))) rfl ?_
      refine sq_v rfl (v_gtr rfl rfl) rfl ?_
      refine sq_end ?_
      refine qs_n ?_
      refine wp_cd rfl (fun c34 => ?_) (fun c34 => ?_)
      · refine wp_sc ?_
        refine wp_sq ?_
        refine sq_v rfl (v_build [.slice none 0 0, .slice none 0 0, .slice none 0 0] rfl (by kernel_rfl)) rfl ?_
        refine sq_m 5 rfl rfl (m_store 5 ty_28 rfl rfl rfl rfl (by simp [one_sl]) rfl (Nat.le_of_ble_eq_true rfl)) rfl ?_; rintro _ _ ⟨rfl, rfl⟩
        refine sq_v rfl (v_assign rfl) rfl ?_
        refine sq_end ?_
        refine qs_n ?_
        refine wp_rt ?_
        refine qs_r ?_
        exact qs_retct 5 rfl ty_28 rfl rfl rfl rfl (fin_e (i := 7) rfl (ValNo (fun h => by have := h.work; rw [hL, hD] at this; omega)))
      · refine wp_sk ?_
        refine qs_n ?_
        refine wp_sc ?_
        refine wp_sq ?_
        refine sq_v rfl (v_loadNB 6 ty_48 rfl rfl rfl rfl) rfl ?_
        have ok : ValOK k p n ts op := ⟨hnet, by rw [hL, hD]; omega⟩; have hsz := sizeI_ge.1 hnet.2.2.2.2; have ho12 := hsz.1.1; have hol := hsz.1.2.1; have hodi := axes_dims hsz.1; have hring := hnet.1; have hwr := width_range hring; have hzl := zeroL_len k p n
        refine sq_x rfl (x_call rfl en_133 (fun w s => ct_i_openAxes _ _ _ _ _ _ _ w (r.mono (s.get 7 rfl)) (r'.mono (s.get 7 rfl)) (by first | assumption | omega) (by first | assumption | omega))) rfl ?_; rintro _ h37 ⟨w1, w2, rfl, rw1, rw2⟩
        refine sq_x rfl (x_alloc ty_28 rfl) rfl ?_; rintro _ _ ⟨b7, rfl, rfl⟩
        refine sq_m 0 rfl rfl (m_store 0 ty_28 rfl rfl rfl rfl (by simp [rw1.sl.one, rw2.sl.one, one_sl]) rfl (Nat.le_of_ble_eq_true rfl)) rfl ?_; rintro _ _ ⟨rfl, rfl⟩
        refine sq_end ?_
        refine qs_n ?_
        refine wp_sc ?_
        refine wp_ra (σ := Nat × PH × PH × Value × Value × Value × Value) 11 (fun z_ => IntsO (zeroL k p n) z_.2.2.2.1 z_.2.2.1 ∧ TriO ⟨op, (dimsFor ts op), (List.replicate (prodI (dimsFor ts op)).toNat (zeroL k p n)).flatten⟩ z_.2.2.2.2.1 z_.2.2.2.2.2.1 z_.2.2.2.2.2.2 z_.2.1) (fun z_ => [(1, .pointer (some ⟨b1, 0, none⟩)), (2, .pointer (some ⟨b2, 0, none⟩)), (3, .bool false), (6, .pointer (some ⟨b6, 0, none⟩)), (8, .pointer (some ⟨z_.1, 0, none⟩)), (19, .bool (!(netB k p n ts op))), (34, .bool (decide ((65536 : Int) < min (prodI D) 65537)))]) (fun z_ => [box z_.1 [z_.2.2.2.2.1, z_.2.2.2.2.2.1, z_.2.2.2.2.2.2] 28, z_.2.1, z_.2.2.1, box b7 [w1, w2, .slice none 0 0] 28, h37, box b6 [u1, u2, .slice none 0 0] 28, h30, h29, box b4 (ints arr) 155, h24, box b2 [.slice none 0 0, .slice none 0 0, .slice none 0 0] 28, box b1 [num k, num p, num n, vt, vo] 48, hp w]) mixed_ok (by kernel_rfl) ?_ ?_
        · refine ra_v (i := 0) (by kernel_rfl) rfl rfl (v_fieldAddr fd_48_0 ty_30 (by decide) rfl) rfl ?_
          refine ra_v (i := 1) (by kernel_rfl) rfl rfl (v_loadNB 8 ty_30 rfl rfl rfl rfl) rfl ?_
          refine ra_v (i := 2) (by kernel_rfl) rfl rfl (v_fieldAddr fd_28_0 ty_24 (by decide) rfl) rfl ?_
          refine ra_v (i := 3) (by kernel_rfl) rfl rfl (v_loadB 0 ty_24 rfl rfl rfl) rfl ?_
          refine ra_v (i := 4) (by kernel_rfl) rfl rfl (v_fieldAddr fd_28_1 ty_24 (by decide) rfl) rfl ?_
          refine ra_v (i := 5) (by kernel_rfl) rfl rfl (v_loadB 0 ty_24 rfl rfl rfl) rfl ?_
          refine ra_v (i := 6) (by kernel_rfl) rfl rfl (v_fieldAddr fd_48_0 ty_30 (by decide) rfl) rfl ?_
          refine ra_v (i := 7) (by kernel_rfl) rfl rfl (v_loadNB 8 ty_30 rfl rfl rfl rfl) rfl ?_
          refine ra_2 (i := 8) (j := 10) (by kernel_rfl) ?_ ?_
          · refine ro_x rfl rfl (x_call rfl en_135 (fun w s => ct_i_rawZero _ _ _ w (by first | assumption | omega))) rfl ?_; rintro v46 h46 r46
            refine ra_2 (i := 9) (j := 10) (by kernel_rfl) ?_ ?_
            · refine ro_x rfl rfl (x_call rfl en_134 (fun w s => ct_i_fillTensor _ _ _ _ _ _ _ _ _ w (rw1.mono (s.get 2 rfl)) (rw2.mono (s.get 2 rfl)) (r46.toR.mono (s.get 0 rfl)) (by first | assumption | omega) (by first | assumption | omega) (by first | assumption | omega) (by first | assumption | omega) (by first | assumption | omega))) rfl ?_; rintro _ h47 ⟨va47, vb47, vc47, rfl, o47⟩
              refine ra_rj [(10, false), (11, false)] (by kernel_rfl) rfl ?_
              refine rj_x rfl rfl (x_alloc ty_28 rfl) rfl ?_; rintro _ _ ⟨b8, rfl, rfl⟩
              refine rj_m 0 rfl rfl rfl rfl (m_store 0 ty_28 rfl rfl rfl rfl (by simp [o47.toR.1.sl.one, o47.toR.2.1.sl.one, o47.toR.2.2.sl.one]) rfl (Nat.le_of_ble_eq_true rfl)) rfl ?_; rintro _ _ ⟨rfl, rfl⟩
              refine rj_end ?_
              exact qs_mid (b8, h47, h46, v46, va47, vb47, vc47) ⟨r46, o47⟩ ⟨rfl, rfl, rfl, rfl, rfl, rfl, rfl, trivial⟩ (fun _ s => s.pick [0, 1, 2, 3, 4, 5, 6, 7, 8, 9, 10, 11, 12] (by decide) rfl)
            · refine ro_x rfl rfl (x_alloc ty_28 rfl) rfl ?_; rintro _ _ ⟨b8, rfl, rfl⟩
              refine ra_rj [(9, false), (11, false)] (by kernel_rfl) rfl ?_
              refine rj_x rfl rfl (x_call rfl en_134 (fun w s => ct_i_fillTensor _ _ _ _ _ _ _ _ _ w (rw1.mono (s.get 3 rfl)) (rw2.mono (s.get 3 rfl)) (r46.toR.mono (s.get 1 rfl)) (by first | assumption | omega) (by first | assumption | omega) (by first | assumption | omega) (by first | assumption | omega) (by first | assumption | omega))) rfl ?_; rintro _ h47 ⟨va47, vb47, vc47, rfl, o47⟩
              refine rj_m 1 rfl rfl rfl rfl (m_store 1 ty_28 rfl rfl rfl rfl (by simp [o47.toR.1.sl.one, o47.toR.2.1.sl.one, o47.toR.2.2.sl.one]) rfl (Nat.le_of_ble_eq_true rfl)) rfl ?_; rintro _ _ ⟨rfl, rfl⟩
              refine rj_end ?_
              exact qs_mid (b8, h47, h46, v46, va47, vb47, vc47) ⟨r46, o47⟩ ⟨rfl, rfl, rfl, rfl, rfl, rfl, rfl, trivial⟩ (fun _ s => s.pick [1, 0, 2, 3, 4, 5, 6, 7, 8, 9, 10, 11, 12] (by decide) rfl)
          · refine ro_x rfl rfl (x_alloc ty_28 rfl) rfl ?_; rintro _ _ ⟨b8, rfl, rfl⟩
            refine ra_rj [(8, false), (9, false), (11, false)] (by kernel_rfl) rfl ?_
            refine rj_x rfl rfl (x_call rfl en_135 (fun w s => ct_i_rawZero _ _ _ w (by first | assumption | omega))) rfl ?_; rintro v46 h46 r46
            refine rj_x rfl rfl (x_call rfl en_134 (fun w s => ct_i_fillTensor _ _ _ _ _ _ _ _ _ w (rw1.mono (s.get 3 rfl)) (rw2.mono (s.get 3 rfl)) (r46.toR.mono (s.get 0 rfl)) (by first | assumption | omega) (by first | assumption | omega) (by first | assumption | omega) (by first | assumption | omega) (by first | assumption | omega))) rfl ?_; rintro _ h47 ⟨va47, vb47, vc47, rfl, o47⟩
            refine rj_m 2 rfl rfl rfl rfl (m_store 2 ty_28 rfl rfl rfl rfl (by simp [o47.toR.1.sl.one, o47.toR.2.1.sl.one, o47.toR.2.2.sl.one]) rfl (Nat.le_of_ble_eq_true rfl)) rfl ?_; rintro _ _ ⟨rfl, rfl⟩
            refine rj_end ?_
            exact qs_mid (b8, h47, h46, v46, va47, vb47, vc47) ⟨r46, o47⟩ ⟨rfl, rfl, rfl, rfl, rfl, rfl, rfl, trivial⟩ (fun _ s => s.pick [2, 0, 1, 3, 4, 5, 6, 7, 8, 9, 10, 11, 12] (by decide) rfl)
        · rintro ⟨b8, h47, h46, v46, va47, vb47, vc47⟩ ⟨r46, o47⟩
          dsimp only at r46 o47 ⊢
          refine qs_n ?_
          refine wp_sc ?_
          refine wp_sq ?_
          refine sq_v rfl (v_loadNB 0 ty_28 rfl rfl rfl rfl) rfl ?_
          refine sq_v rfl (v_fieldAddr fd_28_0 ty_24 (by decide) rfl) rfl ?_
          refine sq_v rfl (v_loadB 5 ty_24 rfl rfl rfl) rfl ?_
          refine sq_x rfl (x_call rfl en_136 (fun w s => ct_i_stridesOf op (dimsFor ts op) _ _ _ _ _ w (o47.toR.1.mono (s.get 1 rfl)) (o47.toR.2.1.mono (s.get 1 rfl)) (ru1.mono (s.get 6 rfl)) (by first | assumption | omega) ok.odims (by first | assumption | omega) (by first | assumption | omega))) rfl ?_; rintro v51 h51 r51
          refine sq_v rfl (v_assign rfl) rfl ?_
          refine sq_end ?_
          have hDa := dims_mem hDd
          have hD1 : ∀ d ∈ D, 1 ≤ d := fun d hd => (hDa d hd).1
          have hP := prodI_one hD1
          have hDL : D.length = L.length := by rw [← hD, dimsFor, List.length_map]
          have hsC := stepsL_len L op (dimsFor ts op)
          have hC : ∀ a ∈ stepsL L op (dimsFor ts op), 0 ≤ a ∧ a ≤ 1048576 := fun a h => by have := steps_in (fun d hd => (ok.odims d hd).1) a h; omega
          have h12 := hnet.2.1
          obtain ⟨go1, go2, go3, qo1, qo2, qo3, mdo⟩ := o47
          have qo1 : IntsO op va47 go1 := qo1
          have qo2 : IntsO (dimsFor ts op) vb47 go2 := qo2
          refine qs_s [h51, box b8 [va47, vb47, vc47] 28, h46, box b7 [w1, w2, .slice none 0 0] 28, h37, box b6 [u1, u2, .slice none 0 0] 28, h30, h29, box b4 (ints arr) 155, h24, box b2 [.slice none 0 0, .slice none 0 0, .slice none 0 0] 28, box b1 [num k, num p, num n, vt, vo] 48, hp w, go1, go2, go3] (fun _ s => Sat.open (A := [h51, box b8 [va47, vb47, vc47] 28, h46, box b7 [w1, w2, .slice none 0 0] 28, h37, box b6 [u1, u2, .slice none 0 0] 28, h30, h29, box b4 (ints arr) 155, h24, box b2 [.slice none 0 0, .slice none 0 0, .slice none 0 0] 28, box b1 [num k, num p, num n, vt, vo] 48, hp w]) mdo (s.pick [2, 0, 1, 3, 4, 5, 6, 7, 8, 9, 10, 11, 12, 13] (by decide) rfl)) ?_
          refine qs_n ?_
          refine wp_sc ?_
          refine wp_sq ?_
          refine sq_v rfl (v_fieldAddr fd_48_1 ty_46 (by decide) rfl) rfl ?_
          refine sq_v rfl (v_loadB 11 ty_46 rfl rfl rfl) rfl ?_
          refine sq_v rfl (v_len Try.underlying46 rfl r.sl) rfl ?_
          refine sq_x rfl (x_make Try.underlying164 ty_24 rfl rfl rfl rfl (by omega) (by omega) (by omega)) rfl ?_; intro v55 h55 r55
          refine sq_v rfl (v_assign rfl) rfl ?_
          refine sq_end ?_
          refine qs_n ?_
          refine wp_sc ?_
          refine wp_sc ?_
          refine wp_sq ?_
          refine sq_v rfl (v_fieldAddr fd_48_1 ty_46 (by decide) rfl) rfl ?_
          refine sq_v rfl (v_loadB 12 ty_46 rfl rfl rfl) rfl ?_
          refine sq_v rfl (v_len Try.underlying46 rfl r.sl) rfl ?_
          refine sq_v rfl (v_move rfl) rfl ?_
          refine sq_end ?_
          refine qs_n ?_
          refine wp_bl ?_
          refine wp_lp (σ := Nat × PH × (List Value) × PH) (fun z_ => [(1, .pointer (some ⟨b1, 0, none⟩)), (2, .pointer (some ⟨b2, 0, none⟩)), (3, .bool false), (6, .pointer (some ⟨b6, 0, none⟩)), (8, .pointer (some ⟨b8, 0, none⟩)), (9, v51), (10, v55), (57, vt), (58, num ts.length), (59, num z_.1)]) (fun z_ => [z_.2.2.2, z_.2.1, h51, box b8 [va47, vb47, vc47] 28, h46, box b7 [w1, w2, .slice none 0 0] 28, h37, box b6 [u1, u2, .slice none 0 0] 28, h30, h29, box b4 (ints arr) 155, h24, box b2 [.slice none 0 0, .slice none 0 0, .slice none 0 0] 28, box b1 [num k, num p, num n, vt, vo] 48, hp w, go1, go2, go3]) (fun z_ => z_.1 ≤ ts.length ∧ z_.2.2.1.length = z_.1 ∧ (∀ (j : Nat) (t : Ten), j < z_.1 → ts[j]? = some t → ∃ a, z_.2.2.1[j]? = some a ∧ IntsR (stepsL L t.l t.d) a z_.2.2.2) ∧ RowO (24) (z_.2.2.1 ++ (List.replicate (ts.length - z_.1) [Value.slice none 0 0]).flatten) ts.length 1 v55 z_.2.1) (fun z_ => ts.length - z_.1) (0, h55, [], emp) (⟨by (try dsimp only); omega, rfl, fun j t hj => by omega, by (try dsimp only); simpa using r55⟩) ⟨rfl, rfl, rfl, rfl, rfl, rfl, rfl, rfl, rfl, (by first | rfl | exact ksub rfl (by first | omega | (simp; done) | (simp; omega))), trivial⟩ (fun _ s => (emp_sat s)) ?_
          rintro ⟨i, ha, cs, hl⟩ ⟨hi, hcl, hcs, rr⟩
          dsimp only at hi hcl hcs rr ⊢
          refine wp_sc ?_
          refine wp_sq ?_
          refine sq_v rfl (v_lss rfl rfl) rfl ?_
          refine sq_end ?_
          refine qs_n ?_
          refine wp_sc ?_
          refine wp_cd rfl (fun c60 => ?_) (fun c60 => ?_)
          · refine wp_sk ?_
            refine qs_n ?_
            refine wp_sc ?_
            refine wp_bl ?_
            refine wp_sc ?_
            refine wp_sq ?_
            refine sq_v rfl (v_move rfl) rfl ?_
            obtain ⟨t62, a62, b62, c62, ht62, hcs62, rl62, rd62, rx62⟩ := hc_r (i) (by first | omega | (rw [List.length_set]; omega))
            refine sq_v rfl (v_indexAddr Try.underlying46 ty_28 rfl rfl rr_r (by decide) (by omega) (by omega)) rfl ?_
            refine sq_v rfl (v_loadNE 14 ty_28 rfl rfl rr_r (by have := rr_r.1; omega) rfl hcs62) rfl ?_
            refine sq_x rfl (x_alloc ty_28 rfl) rfl ?_; rintro _ _ ⟨b12, rfl, rfl⟩
            refine sq_v rfl (v_assign rfl) rfl ?_
            refine sq_m 0 rfl rfl (m_store 0 ty_28 rfl rfl rfl rfl (by simp [rl62.sl.one, rd62.sl.one, rx62.sl.one]) rfl (Nat.le_of_ble_eq_true rfl)) rfl ?_; rintro _ _ ⟨rfl, rfl⟩
            refine sq_end ?_
            have htm := List.mem_of_getElem? ht62
            have hten := hnet.2.2.1 t62 htm
            have hdm := dims_mem (axes_dims (tensor_axes hten))
            have hpl := (sizeI_ge.1 hten.2.1).2
            have hll2 := (tensor_axes hten).2.1
            refine qs_n ?_
            refine wp_sq ?_
            refine sq_v rfl (v_move rfl) rfl ?_
            refine sq_v rfl (v_move rfl) rfl ?_
            refine sq_v rfl (v_loadNB 0 ty_28 rfl rfl rfl rfl) rfl ?_
            refine sq_v rfl (v_fieldAddr fd_28_0 ty_24 (by decide) rfl) rfl ?_
            refine sq_v rfl (v_loadB 8 ty_24 rfl rfl rfl) rfl ?_
            refine sq_x rfl (x_call rfl en_136 (fun w s => ct_i_stridesOf _ _ _ _ _ _ _ w (rl62.mono (s.get 15 rfl)) (rd62.mono (s.get 15 rfl)) (ru1.mono (s.get 9 rfl)) (by first | assumption | omega) hdm (by first | assumption | omega) (by first | assumption | omega))) rfl ?_; rintro v69 h69 r69
            refine sq_v rfl (v_indexAddr Try.underlying164 ty_24 rfl rfl rr.toR (by decide) (by omega) (by omega)) rfl ?_
            refine sq_m 3 rfl rfl (m_storeE 3 ty_24 rfl rfl (us := [v69]) (by obtain ⟨_, _, e⟩ := r69.toR.sl; rw [e]; rfl) rfl (by simp [r69.toR.sl.one]) rfl rr (by decide) (by have := rr.1; omega)) rfl ?_; rintro _ h7 ⟨rfl, r7⟩
            refine sq_end ?_
            refine qs_bn ?_
            refine qs_n ?_
            refine wp_sq ?_
            refine sq_v rfl (v_add rfl rfl ((by unfold I64; omega))) rfl ?_
            refine sq_v rfl (v_move rfl) rfl ?_
            refine sq_end ?_
            refine qs_dj 2 0 rfl rfl rfl (fun hdj => ?_)
            exact qs_bk (i + 1, h7, cs ++ [v69], PUn hl h69) ⟨by (try dsimp only); omega, by (try dsimp only); simp [hcl], fun j t hj ht => by exact strides_snoc hcl hdj hcs ht62 r69 j t hj ht, by (try dsimp only); exact row1_step hcl (by omega) r7⟩ (by simp only; omega) ⟨rfl, rfl, rfl, rfl, rfl, rfl, rfl, rfl, rfl, (by first | rfl | exact ksub rfl (by first | omega | (simp; done) | (simp; omega))), trivial⟩ (fun _ s => Sat.merge (s.pick [2, 0, 3, 4, 5, 6, 7, 8, 9, 10, 11, 12, 13, 14, 15, 16, 17, 18, 19] (by decide) rfl))
          · refine wp_ex ?_
            refine qs_x ?_
            refine qs_x ?_
            refine qs_bx ?_
            refine qs_n ?_
            refine wp_sc ?_
            refine wp_sq ?_
            refine sq_v rfl (v_fieldAddr fd_28_0 ty_24 (by decide) rfl) rfl ?_
            refine sq_v rfl (v_loadB 7 ty_24 rfl rfl rfl) rfl ?_
            refine sq_v rfl (v_len Try.underlying24 rfl ru1.sl) rfl ?_
            refine sq_x rfl (x_makeI Try.underlying24 ty_3 rfl rfl (by first | omega | (simp only [List.length_cons, List.length_nil]; omega) | (simp only [List.length_append, List.length_cons, List.length_nil]; omega) | (rw [List.length_set]; omega) | (rw [List.length_replicate]; omega) | (simp; omega)) (by first | omega | (simp only [List.length_cons, List.length_nil]; omega) | (simp only [List.length_append, List.length_cons, List.length_nil]; omega) | (rw [List.length_set]; omega) | (rw [List.length_replicate]; omega) | (simp; omega)) (by first | omega | (simp only [List.length_cons, List.length_nil]; omega) | (simp only [List.length_append, List.length_cons, List.length_nil]; omega) | (rw [List.length_set]; omega) | (rw [List.length_replicate]; omega) | (simp; omega))) rfl ?_; intro v75 h75 r75
            refine sq_v rfl (v_assign rfl) rfl ?_
            refine sq_end ?_
            refine qs_n ?_
            refine wp_bl ?_
            refine wp_lp (σ := Nat × PH × PH) (fun z_ => [(1, .pointer (some ⟨b1, 0, none⟩)), (2, .pointer (some ⟨b2, 0, none⟩)), (3, .bool false), (6, .pointer (some ⟨b6, 0, none⟩)), (8, .pointer (some ⟨b8, 0, none⟩)), (9, v51), (10, v55), (13, v75)]) (fun z_ => [z_.2.1, hl, ha, h51, box b8 [va47, vb47, vc47] 28, h46, box b7 [w1, w2, .slice none 0 0] 28, h37, box b6 [u1, u2, .slice none 0 0] 28, h30, h29, box b4 (ints arr) 155, h24, box b2 [.slice none 0 0, .slice none 0 0, .slice none 0 0] 28, box b1 [num k, num p, num n, vt, vo] 48, hp w, go1, go2, z_.2.2]) (fun z_ => z_.1 < (prodI D).toNat ∧ IntsO (idxL D z_.1) v75 z_.2.1 ∧ IntsO (valX k p n ts op z_.1) vc47 z_.2.2) (fun z_ => (prodI D).toNat - z_.1) (0, h75, go3) (⟨by (try dsimp only); omega, by (try dsimp only); rw [show ((0 : Nat) : Int) = 0 from rfl, idxL_zero, hDL]; simpa using r75, qo3⟩) ⟨rfl, rfl, rfl, rfl, rfl, rfl, rfl, rfl, trivial⟩ (fun _ s => s) ?_
            rintro ⟨m, gi, gx⟩ ⟨hm, qi, qx⟩
            dsimp only at hm qi qx ⊢
            have hle_qi := qi.toR.le
            have hle_qx := qx.toR.le
            have hat := ok.idx m
            rw [hL, hD] at hat
            have hil := idxL_len D m
            have hvx := ok.small m
            have ez : dotL (stepsL L op (dimsFor ts op)) (idxL D m) = atI (dimOf ts) (labelsL ts) op m := by rw [atI, hL, show L.map (dimOf ts) = D from hD]; rfl
            have hz0 := ok.at_k m
            have hzf := ok.fits m
            have hZr := (ok.all m).el hring hz0.1 hz0.2
            have hWr := ok.weight m
            rw [hL, hD] at hWr
            rw [← ez] at hz0 hZr hzf
            have hWl := hWr.1
            have hz1 := Int.mul_nonneg hz0.1 (show 0 ≤ widthI k n by omega)
            have hz2 := Int.add_mul (dotL (stepsL L op (dimsFor ts op)) (idxL D m)) 1 (widthI k n)
            rw [Int.one_mul] at hz2
            refine wp_bl ?_
            refine wp_sc ?_
            refine wp_sq ?_
            refine sq_v rfl (v_fieldAddr fd_48_0 ty_30 (by decide) rfl) rfl ?_
            refine sq_v rfl (v_loadNB 14 ty_30 rfl rfl rfl rfl) rfl ?_
            refine sq_x rfl (x_call rfl en_137 (fun w s => ct_i_rawOne _ _ _ w (by first | assumption | omega))) rfl ?_; rintro v78 h78 r78
            refine sq_v rfl (v_assign rfl) rfl ?_
            refine sq_end ?_
            refine qs_n ?_
            refine wp_sc ?_
            refine wp_sc ?_
            refine wp_sq ?_
            refine sq_v rfl (v_fieldAddr fd_48_1 ty_46 (by decide) rfl) rfl ?_
            refine sq_v rfl (v_loadB 15 ty_46 rfl rfl rfl) rfl ?_
            refine sq_v rfl (v_len Try.underlying46 rfl r.sl) rfl ?_
            refine sq_v rfl (v_move rfl) rfl ?_
            refine sq_end ?_
            refine qs_n ?_
            refine wp_bl ?_
            refine wp_lp (σ := Nat × Value × PH) (fun z_ => [(1, .pointer (some ⟨b1, 0, none⟩)), (2, .pointer (some ⟨b2, 0, none⟩)), (3, .bool false), (6, .pointer (some ⟨b6, 0, none⟩)), (8, .pointer (some ⟨b8, 0, none⟩)), (9, v51), (10, v55), (13, v75), (14, z_.2.1), (76, .pointer (some ⟨b1, 0, none⟩)), (77, .agg [num k, num p, num n].toArray), (78, v78), (79, .pointer (some ⟨b1, 3, none⟩)), (80, vt), (81, num ts.length), (82, num z_.1)]) (fun z_ => [z_.2.2, gi, hl, ha, h51, box b8 [va47, vb47, vc47] 28, h46, box b7 [w1, w2, .slice none 0 0] 28, h37, box b6 [u1, u2, .slice none 0 0] 28, h30, h29, box b4 (ints arr) 155, h24, box b2 [.slice none 0 0, .slice none 0 0, .slice none 0 0] 28, box b1 [num k, num p, num n, vt, vo] 48, hp w, go1, go2, gx]) (fun z_ => z_.1 ≤ ts.length ∧ IntsO (weightTo k p n L (idxL D m) (ts.take z_.1)) z_.2.1 z_.2.2) (fun z_ => ts.length - z_.1) (0, v78, h78) (⟨by (try dsimp only); omega, by (try dsimp only); simpa [weightTo] using r78⟩) ⟨rfl, rfl, rfl, rfl, rfl, rfl, rfl, rfl, (by first | rfl | exact ksub rfl (by first | omega | (simp; done) | (simp; omega))), rfl, rfl, rfl, rfl, rfl, rfl, (by first | rfl | exact ksub rfl (by first | omega | (simp; done) | (simp; omega))), trivial⟩ (fun _ s => s) ?_
            rintro ⟨j, wv, wh⟩ ⟨hj, q⟩
            dsimp only at hj q ⊢
            have hle_q := q.toR.le
            have hwi := weight_in hat j hj
            refine wp_sc ?_
            refine wp_sq ?_
            refine sq_v rfl (v_lss rfl rfl) rfl ?_
            refine sq_end ?_
            refine qs_n ?_
            refine wp_sc ?_
            refine wp_cd rfl (fun c83 => ?_) (fun c83 => ?_)
            · refine wp_sk ?_
              refine qs_n ?_
              refine wp_sc ?_
              refine wp_bl ?_
              refine wp_sc ?_
              refine wp_sq ?_
              refine sq_v rfl (v_move rfl) rfl ?_
              obtain ⟨t85, a85, b85, c85, ht85, hcs85, rl85, rd85, rx85⟩ := hc_r (j) (by first | omega | (rw [List.length_set]; omega))
              refine sq_v rfl (v_indexAddr Try.underlying46 ty_28 rfl rfl rr_r (by decide) (by omega) (by omega)) rfl ?_
              refine sq_v rfl (v_loadNE 16 ty_28 rfl rfl rr_r (by have := rr_r.1; omega) rfl hcs85) rfl ?_
              refine sq_x rfl (x_alloc ty_28 rfl) rfl ?_; rintro _ _ ⟨b16, rfl, rfl⟩
              refine sq_v rfl (v_assign rfl) rfl ?_
              refine sq_m 0 rfl rfl (m_store 0 ty_28 rfl rfl rfl rfl (by simp [rl85.sl.one, rd85.sl.one, rx85.sl.one]) rfl (Nat.le_of_ble_eq_true rfl)) rfl ?_; rintro _ _ ⟨rfl, rfl⟩
              refine sq_end ?_
              have htm := List.mem_of_getElem? ht85
              have hten := hat.ten _ htm
              have hoff := hat.off htm
              have hdot := hat.dot htm
              have hdm := dims_mem (axes_dims (tensor_axes hten))
              have hpl := (sizeI_ge.1 hten.2.1).2
              have hll2 := (tensor_axes hten).2.1
              have hfit := elt_fits hten hoff.2
              have hel := elt_inR hten hoff.1 hoff.2
              rw [← hdot] at hoff hfit hel
              obtain ⟨a96, ha96, ra96⟩ := hcs j t85 (by omega) ht85
              have hcs96 := onecell_at (X := (List.replicate (ts.length - i) [Value.slice none 0 0]).flatten) ha96
              have hsl := stepsL_len L t85.l t85.d
              refine qs_n ?_
              refine wp_rj 15 [(0, true), (1, true), (2, true), (3, true), (4, true), (5, true), (6, true), (7, true), (8, true), (9, true), (10, true), (11, false), (12, false), (13, false), (14, true)] mixed_ok (by kernel_rfl) ?_
              refine rj_v rfl rfl (v_fieldAddr fd_48_0 ty_30 (by decide) rfl) rfl ?_
              refine rj_v rfl rfl (v_loadNB 16 ty_30 rfl rfl rfl rfl) rfl ?_
              refine rj_v rfl rfl (v_move rfl) rfl ?_
              refine rj_v rfl rfl (v_fieldAddr fd_48_0 ty_30 (by decide) rfl) rfl ?_
              refine rj_v rfl rfl (v_loadNB 16 ty_30 rfl rfl rfl rfl) rfl ?_
              refine rj_v rfl rfl (v_loadNB 0 ty_28 rfl rfl rfl rfl) rfl ?_
              refine rj_v rfl rfl (v_move rfl) rfl ?_
              refine rj_v rfl rfl (v_move rfl) rfl ?_
              refine rj_v rfl rfl (v_indexAddr Try.underlying164 ty_24 rfl rfl rr.toR (by decide) (by omega) (by omega)) rfl ?_
              refine rj_v rfl rfl (v_loadE 4 ty_24 rfl rfl rr.toR (sub_get hcs96 (j := 0) rfl)) rfl ?_
              refine rj_v rfl rfl (v_move rfl) rfl ?_
              refine rj_u rfl rfl (x_callv rfl en_140 (fun w s => ct_i_dotOf _ _ _ _ w (ra96.mono (s.get 3 rfl)) (qi.toR.mono (s.get 2 rfl)) (fun a h => by have := steps_in (fun d hd => (hdm d hd).1) a h; omega) hat.small (by omega) (by omega))) rfl ?_
              refine rj_u rfl rfl (x_callv rfl en_139 (fun w s => ct_i_rawElem _ _ _ _ _ _ _ _ w (by first | assumption | omega) (rx85.mono (s.get 17 rfl)) (by first | assumption | omega) (by first | assumption | omega) (by first | assumption | omega))) rfl ?_
              refine rj_x rfl rfl (x_call rfl en_138 (fun w s => ct_i_rawMul _ _ _ _ _ _ _ w (by first | assumption | omega) (q.toR.mono (s.get 1 rfl)) ((eltV_read rx85 (by first | assumption | omega) (by first | assumption | omega) (by first | assumption | omega)).mono (s.get 17 rfl)) (by first | assumption | omega) (by first | assumption | omega))) rfl ?_; rintro v100 h100 r100
              refine rj_v rfl rfl (v_assign rfl) rfl ?_
              refine rj_end ?_
              refine qs_bn ?_
              refine qs_n ?_
              refine wp_sq ?_
              refine sq_v rfl (v_add rfl rfl ((by unfold I64; omega))) rfl ?_
              refine sq_v rfl (v_move rfl) rfl ?_
              refine sq_end ?_
              exact qs_bk (j + 1, v100, h100) ⟨by (try dsimp only); omega, by (try dsimp only); rw [weight_step ht85, ← hdot]; exact r100⟩ (by simp only; omega) ⟨rfl, rfl, rfl, rfl, rfl, rfl, rfl, rfl, (by first | rfl | exact ksub rfl (by first | omega | (simp; done) | (simp; omega))), rfl, rfl, rfl, rfl, rfl, rfl, (by first | rfl | exact ksub rfl (by first | omega | (simp; done) | (simp; omega))), trivial⟩ (fun _ s => s.pick [0, 3, 4, 5, 6, 7, 8, 9, 10, 11, 12, 13, 14, 15, 16, 17, 18, 19, 20, 21] (by decide) rfl)
            · refine wp_ex ?_
              refine qs_x ?_
              refine qs_x ?_
              refine qs_bx ?_
              refine qs_n ?_
              refine wp_sc ?_
              refine wp_rj 10 [(0, true), (1, true), (2, true), (3, true), (4, true), (5, true), (6, true), (9, true), (7, false), (8, false), (10, false)] mixed_ok (by kernel_rfl) ?_
              rw [List.take_of_length_le (by omega)] at q;
              refine rj_v rfl rfl (v_fieldAddr fd_48_0 ty_30 (by decide) rfl) rfl ?_
              refine rj_v rfl rfl (v_loadNB 15 ty_30 rfl rfl rfl rfl) rfl ?_
              refine rj_v rfl rfl (v_fieldAddr fd_48_0 ty_30 (by decide) rfl) rfl ?_
              refine rj_v rfl rfl (v_loadNB 15 ty_30 rfl rfl rfl rfl) rfl ?_
              refine rj_v rfl rfl (v_loadNB 5 ty_28 rfl rfl rfl rfl) rfl ?_
              refine rj_v rfl rfl (v_move rfl) rfl ?_
              refine rj_v rfl rfl (v_move rfl) rfl ?_
              refine rj_v rfl rfl (v_move rfl) rfl ?_
              refine rj_u rfl rfl (x_callv rfl en_140 (fun w s => ct_i_dotOf _ _ _ _ w (r51.toR.mono (s.get 4 rfl)) (qi.toR.mono (s.get 1 rfl)) hC hat.small (by omega) (by omega))) rfl ?_
              refine rj_u rfl rfl (x_callv rfl en_139 (fun w s => ct_i_rawElem _ _ _ _ _ _ _ _ w (by first | assumption | omega) (qx.toR.mono (s.get 19 rfl)) (by first | assumption | omega) (by first | assumption | omega) (by first | assumption | omega))) rfl ?_
              refine rj_m 19 rfl rfl rfl rfl (x_call rfl en_141 (fun w s => ct_i_addInto _ _ _ _ _ ((dotL (stepsL L op (dimsFor ts op)) (idxL D m) * widthI k n).toNat) (((dotL (stepsL L op (dimsFor ts op)) (idxL D m) + 1) * widthI k n).toNat) vc47 _ w _ (by first | assumption | omega) (s.get 19 rfl) qx (q.toR.mono (s.getR 19 0 rfl rfl (by decide))) (by omega) (by omega) (by rw [hWl]; exact hZr) hWr)) rfl ?_; rintro _ h112 r112
              refine rj_end ?_
              rw [hWl] at r112
              refine qs_n ?_
              refine wp_sc ?_
              refine wp_sq ?_
              refine sq_v rfl (v_fieldAddr fd_28_1 ty_24 (by decide) rfl) rfl ?_
              refine sq_v rfl (v_loadB 9 ty_24 rfl rfl rfl) rfl ?_
              refine sq_v rfl (v_move rfl) rfl ?_
              refine sq_m 1 rfl rfl (x_call rfl en_142 (fun w s => ct_i_nextIndex _ _ _ _ w _ (s.get 1 rfl) (ru2.mono (s.getR 1 10 rfl rfl (by decide))) qi (by first | assumption | omega) (by first | assumption | omega) (by first | assumption | omega))) rfl ?_; rintro _ h116 ⟨rfl, r116⟩
              refine sq_v rfl (v_not rfl) rfl ?_
              refine sq_end ?_
              refine qs_n ?_
              refine wp_cnd rfl (fun c117 => ?_) (fun c117 => ?_)
              · refine wp_sc ?_
                refine wp_sq ?_
                refine sq_v rfl (v_loadNB 5 ty_28 rfl rfl rfl rfl) rfl ?_
                refine sq_m 14 rfl rfl (m_store 14 ty_28 rfl rfl rfl rfl (by simp [qo1.toR.sl.one, qo2.toR.sl.one, r112.toR.sl.one]) rfl (Nat.le_of_ble_eq_true rfl)) rfl ?_; rintro _ _ ⟨rfl, rfl⟩
                refine sq_v rfl (v_assign rfl) rfl ?_
                refine sq_end ?_
                refine qs_n ?_
                refine wp_rt ?_
                refine qs_br ?_
                refine qs_r ?_
                refine qs_br ?_
                refine qs_close [box b2 _ _, hp w] [go1, go2, h112] (fun _ s => s.pick [14, 16, 17, 18, 19] (by decide) rfl) (fun md => ?_)
                exact qs_retct 1 rfl ty_28 rfl rfl rfl rfl (fin_t 0 (i := 2) rfl rfl rfl (ValYes ok ⟨_, _, _, qo1, qo2, (by rw [hL, hD, show (prodI D).toNat = m + 1 by omega, valX, ← ez, hL, hD]; exact r112), md⟩))
              · refine wp_sk ?_
                refine qs_bn ?_
                exact qs_bk (m + 1, h116, h112) ⟨by (try dsimp only); omega, r116, by (try dsimp only); rw [valX, ← ez, hL, hD]; exact r112⟩ (by simp only; omega) ⟨rfl, rfl, rfl, rfl, rfl, rfl, rfl, rfl, trivial⟩ (fun _ s => s.pick [1, 2, 3, 4, 5, 6, 7, 8, 9, 10, 11, 12, 13, 14, 15, 16, 17, 18, 19] (by decide) rfl)
end Go.Proofs.Ytikeobneipjfnaa
namespace Go.Proofs.Ytikeobneipjfnaa
set_option maxRecDepth 100000
open Go.ChangeShapes Go.WideShapes Go.ChangeAt Go.RowKit
theorem val_size (k p n : Int) (ts : List Ten) (op : List Int) : 0 ≤ tenSize (valR k p n ts op) ∧ tenSize (valR k p n ts op) ≤ 1000000 := by
  refine ⟨tenSize_nn _, ?_⟩
  by_cases h : ValOK k p n ts op
  · have hax := (sizeI_ge.1 h.net.2.2.2.2).1
    have h1 := hax.1
    have h2 := hax.2.1
    have hs := h.small (prodI (dimsFor ts (labelsL ts))).toNat
    rw [valR, if_pos h]
    simp only [tenSize]
    omega
  · rw [valR, if_neg h]; simp [tenSize]
set_option maxHeartbeats 8000000 in
theorem ct_l_FnExactNetworkValue (k p n : Int) (ts : List Ten) (op : List Int) (vt vo : Value) (w : World) (r : TensR ts vt (hp w)) (r' : IntsR op vo (hp w)) :
    Calls Try.prog 10 [netV k p n vt vo].toArray w (RetV w (.bool true)) := by
  have hnn := tensSize_nn ts
  have hrs := val_size k p n ts op
  refine calls_in Try.func10 rfl Try.ntmps10 rfl (Sat.start w) ?_
  have hle0 := r.le
  obtain ⟨cs_r, rr_r, hc_r⟩ := r.at
  have hle1 := r'.le
  refine wp_sc ?_
  refine wp_sq ?_
  refine sq_x rfl (x_box rfl rfl) rfl ?_; rintro _ _ ⟨b1, rfl, rfl⟩
  refine sq_v rfl (v_assign rfl) rfl ?_
  refine sq_end ?_
  refine qs_n ?_
  refine wp_sc ?_
  refine wp_sq ?_
  refine sq_v rfl (v_assign rfl) rfl ?_
  refine sq_end ?_
  refine qs_n ?_
  refine wp_sc ?_
  refine wp_sq ?_
  refine sq_v rfl (v_loadNB 0 ty_41 rfl rfl rfl rfl) rfl ?_
  refine sq_v rfl (v_move rfl) rfl ?_
  refine sq_u rfl (x_callv rfl en_26 (fun w s => ct_l_szNetwork _ _ _ _ _ _ _ _ w (r.mono (s.get 1 rfl)) (r'.mono (s.get 1 rfl)) (by first | assumption | exact iota_held _ _ | omega | rfl))) rfl ?_
  refine sq_v rfl (v_assign rfl) rfl ?_
  refine sq_end ?_
  refine qs_n ?_
  refine wp_sc ?_
  refine wp_sc ?_
  refine wp_sq ?_
  refine sq_v rfl (v_move rfl) rfl ?_
  refine sq_v rfl (v_lss rfl rfl) rfl ?_
  refine sq_end ?_
  refine qs_n ?_
  refine wp_cd rfl (fun c18 => ?_) (fun c18 => ?_)
  · refine wp_sc ?_
    refine wp_sq ?_
    refine sq_v rfl (v_assign rfl) rfl ?_
    refine sq_end ?_
    refine qs_n ?_
    refine wp_rt ?_
    refine qs_r ?_
    exact qs_ret1 rfl rfl (fin_v (i := 1) rfl)
  · have hz18 := szV_ge c18
    refine wp_sk ?_
    refine qs_n ?_
    refine wp_sc ?_
    refine wp_sq ?_
    refine sq_v rfl (v_loadNB 0 ty_41 rfl rfl rfl rfl) rfl ?_
    refine sq_x rfl (x_call rfl en_28 (fun w s => ct_L_toNetwork _ _ _ _ _ _ _ w (r.mono (s.get 1 rfl)) (r'.mono (s.get 1 rfl)) (by first | assumption | exact iota_held _ _ | omega | rfl))) rfl ?_; rintro _ h21 ⟨vt21, vo21, rfl, o21⟩
    obtain ⟨cs_T_21, rr_T_21, hc_T_21⟩ := o21.toR.1.at
    refine sq_x rfl (x_call rfl en_53 (fun w s => ct_s_NetworkValue _ _ _ _ _ _ _ w (o21.toR.1.mono (s.get 0 rfl)) (o21.toR.2.mono (s.get 0 rfl)) (by first | assumption | exact iota_held _ _ | omega | rfl))) rfl ?_; rintro _ h22 ⟨va22, vb22, vc22, rfl, o22⟩
    refine sq_v rfl (v_move rfl) rfl ?_
    refine sq_v rfl (v_extract rfl rfl) rfl ?_
    refine sq_v rfl (v_extract rfl rfl) rfl ?_
    refine sq_x rfl (x_alloc ty_28 rfl) rfl ?_; rintro _ _ ⟨b4, rfl, rfl⟩
    refine sq_m 0 rfl rfl (m_store 0 ty_28 rfl rfl rfl rfl (by simp [o22.toR.1.sl.one, o22.toR.2.1.sl.one, o22.toR.2.2.sl.one]) rfl (Nat.le_of_ble_eq_true rfl)) rfl ?_; rintro _ _ ⟨rfl, rfl⟩
    refine sq_v rfl (v_assign rfl) rfl ?_
    refine sq_end ?_
    refine qs_n ?_
    refine wp_sc ?_
    refine wp_sq ?_
    refine sq_v rfl (v_loadNB 3 ty_41 rfl rfl rfl rfl) rfl ?_
    refine sq_x rfl (x_call rfl en_28 (fun w s => ct_L_toNetwork _ _ _ _ _ _ _ w (r.mono (s.get 4 rfl)) (r'.mono (s.get 4 rfl)) (by first | assumption | exact iota_held _ _ | omega | rfl))) rfl ?_; rintro _ h26 ⟨vt26, vo26, rfl, o26⟩
    obtain ⟨cs_T_26, rr_T_26, hc_T_26⟩ := o26.toR.1.at
    refine sq_x rfl (x_alloc ty_48 rfl) rfl ?_; rintro _ _ ⟨b6, rfl, rfl⟩
    refine sq_m 0 rfl rfl (m_store 0 ty_48 rfl rfl rfl rfl (by simp [one_int, o26.toR.1.sl.one, o26.toR.2.sl.one]) rfl (Nat.le_of_ble_eq_true rfl)) rfl ?_; rintro _ _ ⟨rfl, rfl⟩
    refine sq_end ?_
    refine qs_n ?_
    refine wp_sc ?_
    refine wp_sq ?_
    refine sq_v rfl (v_loadNB 0 ty_48 rfl rfl rfl rfl) rfl ?_
    refine sq_x rfl (x_call rfl en_54 (fun w s => ct_i_NetworkValue _ _ _ _ _ _ _ w (o26.toR.1.mono (s.get 1 rfl)) (o26.toR.2.mono (s.get 1 rfl)) (by first | assumption | exact iota_held _ _ | omega | rfl))) rfl ?_; rintro _ h29 ⟨va29, vb29, vc29, rfl, o29⟩
    refine sq_v rfl (v_move rfl) rfl ?_
    refine sq_v rfl (v_extract rfl rfl) rfl ?_
    refine sq_v rfl (v_extract rfl rfl) rfl ?_
    refine sq_x rfl (x_alloc ty_28 rfl) rfl ?_; rintro _ _ ⟨b7, rfl, rfl⟩
    refine sq_m 0 rfl rfl (m_store 0 ty_28 rfl rfl rfl rfl (by simp [o29.toR.1.sl.one, o29.toR.2.1.sl.one, o29.toR.2.2.sl.one]) rfl (Nat.le_of_ble_eq_true rfl)) rfl ?_; rintro _ _ ⟨rfl, rfl⟩
    refine sq_v rfl (v_assign rfl) rfl ?_
    refine sq_end ?_
    refine qs_n ?_
    refine wp_sc ?_
    refine wp_sc ?_
    refine wp_sq ?_
    refine sq_v rfl (v_loadNB 0 ty_28 rfl rfl rfl rfl) rfl ?_
    refine sq_v rfl (v_loadNB 4 ty_28 rfl rfl rfl rfl) rfl ?_
    refine sq_u rfl (x_callv rfl en_21 (fun w s => ct_l_eqTensor _ _ _ _ _ _ _ w (o29.toR.1.mono (s.get 1 rfl)) (o29.toR.2.1.mono (s.get 1 rfl)) (o29.toR.2.2.mono (s.get 1 rfl)) (o22.toR.1.mono (s.get 5 rfl)) (o22.toR.2.1.mono (s.get 5 rfl)) (o22.toR.2.2.mono (s.get 5 rfl)))) rfl ?_
    refine sq_v rfl (v_not rfl) rfl ?_
    refine sq_v rfl (v_move rfl) rfl ?_
    refine sq_v rfl (v_move rfl) rfl ?_
    refine sq_v rfl (v_move rfl) rfl ?_
    refine sq_v rfl (v_neqsb Try.underlying4 rfl rfl) rfl ?_
    refine sq_v rfl (v_pickf rfl rfl) rfl ?_
    refine sq_end ?_
    refine qs_n ?_
    refine wp_cf rfl ?_
    refine wp_sk ?_
    refine qs_n ?_
    refine wp_sc ?_
    refine wp_sc ?_
    refine wp_rj 5 [(0, true), (1, true), (2, false), (3, false), (4, true)] mixed_ok (by kernel_rfl) ?_
    refine rj_v rfl rfl (v_loadNB 2 ty_48 rfl rfl rfl rfl) rfl ?_
    refine rj_v rfl rfl (v_loadNB 7 ty_41 rfl rfl rfl rfl) rfl ?_
    refine rj_x rfl rfl (x_call rfl en_28 (fun w s => ct_L_toNetwork _ _ _ _ _ _ _ w (r.mono (s.get 8 rfl)) (r'.mono (s.get 8 rfl)) (by first | assumption | exact iota_held _ _ | omega | rfl))) rfl ?_; rintro _ h43 ⟨vt43, vo43, rfl, o43⟩
    obtain ⟨cs_T_43, rr_T_43, hc_T_43⟩ := o43.toR.1.at
    refine rj_u rfl rfl (x_callv rfl en_31 (fun w s => ct_l_eqNetwork _ _ _ _ _ _ _ _ _ w (o26.toR.1.mono (s.get 4 rfl)) (o26.toR.2.mono (s.get 4 rfl)) (o43.toR.1.mono (s.get 0 rfl)) (o43.toR.2.mono (s.get 0 rfl)))) rfl ?_
    refine rj_v rfl rfl (v_not rfl) rfl ?_
    refine rj_end ?_
    refine qs_n ?_
    refine wp_cf rfl ?_
    refine wp_sk ?_
    refine qs_n ?_
    refine wp_sc ?_
    refine wp_sq ?_
    refine sq_v rfl (v_assign rfl) rfl ?_
    refine sq_end ?_
    refine qs_n ?_
    refine wp_sc ?_
    refine wp_sq ?_
    refine sq_v rfl (v_loadNB 3 ty_48 rfl rfl rfl rfl) rfl ?_
    refine sq_v rfl (v_move rfl) rfl ?_
    refine sq_m 4 rfl rfl (x_call rfl en_32 (fun w s => ct_L_markNetwork _ _ _ _ _ _ _ _ w _ (s.get 4 rfl) o26 (by first | assumption | exact iota_held _ _ | omega | rfl))) rfl ?_; rintro _ h48 ⟨rfl, ts48, op48, om48, hl48⟩
    obtain ⟨cs_T_48, rr_T_48, hc_T_48⟩ := om48.toR.1.at
    refine sq_v rfl (v_assign rfl) rfl ?_
    refine sq_end ?_
    refine qs_n ?_
    refine wp_sc ?_
    refine wp_sc ?_
    refine wp_sq ?_
    refine sq_v rfl (v_move rfl) rfl ?_
    refine sq_v rfl (v_lss rfl rfl) rfl ?_
    refine sq_bd 50 rfl (fun c50 => ?_) (fun c50 => ?_)
    · refine sq_v rfl (v_move rfl) rfl ?_
      refine sq_s rfl rfl ?_
      refine sq_s rfl rfl ?_
      refine sq_s rfl rfl ?_
      refine sq_s rfl rfl ?_
      refine sq_v rfl (v_pickt rfl rfl) rfl ?_
      refine sq_v rfl (v_move rfl) rfl ?_
      refine sq_s rfl rfl ?_
      refine sq_s rfl rfl ?_
      refine sq_s rfl rfl ?_
      refine sq_v rfl (v_pickt rfl rfl) rfl ?_
      refine sq_end ?_
      refine qs_n ?_
      refine wp_ct rfl ?_
      refine wp_sc ?_
      refine wp_sq ?_
      refine sq_v rfl (v_assign rfl) rfl ?_
      refine sq_end ?_
      refine qs_n ?_
      refine wp_rt ?_
      refine qs_r ?_
      exfalso; first | omega | contradiction
    · refine sq_v rfl (v_move rfl) rfl ?_
      refine sq_v rfl (v_loadNB 1 ty_28 rfl rfl rfl rfl) rfl ?_
      refine sq_v rfl (v_loadNB 5 ty_28 rfl rfl rfl rfl) rfl ?_
      refine sq_u rfl (x_callv rfl en_21 (fun w s => ct_l_eqTensor _ _ _ _ _ _ _ w (o29.toR.1.mono (s.get 2 rfl)) (o29.toR.2.1.mono (s.get 2 rfl)) (o29.toR.2.2.mono (s.get 2 rfl)) (o22.toR.1.mono (s.get 6 rfl)) (o22.toR.2.1.mono (s.get 6 rfl)) (o22.toR.2.2.mono (s.get 6 rfl)))) rfl ?_
      refine sq_v rfl (v_not rfl) rfl ?_
      refine sq_v rfl (v_pickf rfl rfl) rfl ?_
      refine sq_v rfl (v_move rfl) rfl ?_
      refine sq_v rfl (v_move rfl) rfl ?_
      refine sq_v rfl (v_move rfl) rfl ?_
      refine sq_v rfl (v_neqsb Try.underlying4 rfl rfl) rfl ?_
      refine sq_v rfl (v_pickf rfl rfl) rfl ?_
      refine sq_end ?_
      refine qs_n ?_
      refine wp_cf rfl ?_
      refine wp_sk ?_
      refine qs_n ?_
      refine wp_sc ?_
      refine wp_sq ?_
      refine sq_v rfl (v_assign rfl) rfl ?_
      refine sq_end ?_
      refine qs_n ?_
      refine wp_sc ?_
      refine wp_sq ?_
      refine sq_v rfl (v_loadNB 1 ty_28 rfl rfl rfl rfl) rfl ?_
      refine sq_v rfl (v_move rfl) rfl ?_
      refine sq_m 2 rfl rfl (x_call rfl en_23 (fun w s => ct_L_markTensor _ _ _ _ _ w _ (s.get 2 rfl) o29 (by first | assumption | exact iota_held _ _ | omega | rfl))) rfl ?_; rintro _ h64 ⟨rfl, t64, om64, hl64⟩
      refine sq_v rfl (v_assign rfl) rfl ?_
      refine sq_end ?_
      refine qs_n ?_
      refine wp_sc ?_
      refine wp_sq ?_
      refine sq_v rfl (v_assign rfl) rfl ?_
      refine sq_end ?_
      refine qs_n ?_
      refine wp_sc ?_
      refine wp_sq ?_
      refine sq_v rfl (v_loadNB 1 ty_28 rfl rfl rfl rfl) rfl ?_
      refine sq_v rfl (v_move rfl) rfl ?_
      refine sq_u rfl (x_callv rfl en_25 (fun w s => ct_L_heldTensor _ _ _ _ _ _ w (om64.toR.1.mono (s.get 2 rfl)) (om64.toR.2.1.mono (s.get 2 rfl)) (om64.toR.2.2.mono (s.get 2 rfl)) hl64 (by first | assumption | exact iota_held _ _ | omega | rfl))) rfl ?_
      refine sq_v rfl (v_assign rfl) rfl ?_
      refine sq_end ?_
      refine qs_n ?_
      refine wp_sc ?_
      refine wp_sc ?_
      refine wp_sq ?_
      refine sq_v rfl (v_move rfl) rfl ?_
      refine sq_v rfl (v_lss rfl rfl) rfl ?_
      refine sq_end ?_
      refine qs_n ?_
      refine wp_cd rfl (fun c69 => ?_) (fun c69 => ?_)
      · refine wp_sc ?_
        refine wp_sq ?_
        refine sq_v rfl (v_assign rfl) rfl ?_
        refine sq_end ?_
        refine qs_n ?_
        refine wp_rt ?_
        refine qs_r ?_
        exfalso; first | omega | contradiction
      · refine wp_sk ?_
        refine qs_n ?_
        refine wp_sc ?_
        refine wp_sc ?_
        refine wp_sq ?_
        refine sq_v rfl (v_move rfl) rfl ?_
        refine sq_v rfl (v_move rfl) rfl ?_
        refine sq_v rfl (v_neqs rfl rfl) rfl ?_
        refine sq_end ?_
        refine qs_n ?_
        refine wp_cf rfl ?_
        refine wp_sk ?_
        refine qs_n ?_
        refine wp_sc ?_
        refine wp_sq ?_
        refine sq_v rfl (v_loadNB 8 ty_41 rfl rfl rfl rfl) rfl ?_
        refine sq_x rfl (x_call rfl en_28 (fun w s => ct_L_toNetwork _ _ _ _ _ _ _ w (r.mono (s.get 9 rfl)) (r'.mono (s.get 9 rfl)) (by first | assumption | exact iota_held _ _ | omega | rfl))) rfl ?_; rintro _ h75 ⟨vt75, vo75, rfl, o75⟩
        obtain ⟨cs_T_75, rr_T_75, hc_T_75⟩ := o75.toR.1.at
        refine sq_x rfl (x_call rfl en_54 (fun w s => ct_i_NetworkValue _ _ _ _ _ _ _ w (o75.toR.1.mono (s.get 0 rfl)) (o75.toR.2.mono (s.get 0 rfl)) (by first | assumption | exact iota_held _ _ | omega | rfl))) rfl ?_; rintro _ h76 ⟨va76, vb76, vc76, rfl, o76⟩
        refine sq_v rfl (v_move rfl) rfl ?_
        refine sq_v rfl (v_extract rfl rfl) rfl ?_
        refine sq_v rfl (v_extract rfl rfl) rfl ?_
        refine sq_x rfl (x_alloc ty_28 rfl) rfl ?_; rintro _ _ ⟨b12, rfl, rfl⟩
        refine sq_m 0 rfl rfl (m_store 0 ty_28 rfl rfl rfl rfl (by simp [o76.toR.1.sl.one, o76.toR.2.1.sl.one, o76.toR.2.2.sl.one]) rfl (Nat.le_of_ble_eq_true rfl)) rfl ?_; rintro _ _ ⟨rfl, rfl⟩
        refine sq_v rfl (v_assign rfl) rfl ?_
        refine sq_end ?_
        refine qs_n ?_
        refine wp_sc ?_
        refine wp_sc ?_
        refine wp_sq ?_
        refine sq_v rfl (v_loadNB 0 ty_28 rfl rfl rfl rfl) rfl ?_
        refine sq_v rfl (v_loadNB 8 ty_28 rfl rfl rfl rfl) rfl ?_
        refine sq_u rfl (x_callv rfl en_21 (fun w s => ct_l_eqTensor _ _ _ _ _ _ _ w (o76.toR.1.mono (s.get 1 rfl)) (o76.toR.2.1.mono (s.get 1 rfl)) (o76.toR.2.2.mono (s.get 1 rfl)) (o22.toR.1.mono (s.get 9 rfl)) (o22.toR.2.1.mono (s.get 9 rfl)) (o22.toR.2.2.mono (s.get 9 rfl)))) rfl ?_
        refine sq_v rfl (v_not rfl) rfl ?_
        refine sq_v rfl (v_move rfl) rfl ?_
        refine sq_v rfl (v_move rfl) rfl ?_
        refine sq_v rfl (v_move rfl) rfl ?_
        refine sq_v rfl (v_neqsb Try.underlying4 rfl rfl) rfl ?_
        refine sq_v rfl (v_pickf rfl rfl) rfl ?_
        refine sq_end ?_
        refine qs_n ?_
        refine wp_cf rfl ?_
        refine wp_sk ?_
        refine qs_n ?_
        refine wp_sc ?_
        refine wp_sq ?_
        refine sq_v rfl (v_assign rfl) rfl ?_
        refine sq_end ?_
        refine qs_n ?_
        refine wp_sc ?_
        refine wp_sq ?_
        refine sq_v rfl (v_loadNB 4 ty_28 rfl rfl rfl rfl) rfl ?_
        refine sq_v rfl (v_move rfl) rfl ?_
        refine sq_u rfl (x_callv rfl en_25 (fun w s => ct_L_heldTensor _ _ _ _ _ _ w (om64.toR.1.mono (s.get 5 rfl)) (om64.toR.2.1.mono (s.get 5 rfl)) (om64.toR.2.2.mono (s.get 5 rfl)) hl64 (by first | assumption | exact iota_held _ _ | omega | rfl))) rfl ?_
        refine sq_v rfl (v_assign rfl) rfl ?_
        refine sq_end ?_
        refine qs_n ?_
        refine wp_sc ?_
        refine wp_sc ?_
        refine wp_sq ?_
        refine sq_v rfl (v_move rfl) rfl ?_
        refine sq_v rfl (v_lss rfl rfl) rfl ?_
        refine sq_end ?_
        refine qs_n ?_
        refine wp_cd rfl (fun c92 => ?_) (fun c92 => ?_)
        · refine wp_sc ?_
          refine wp_sq ?_
          refine sq_v rfl (v_assign rfl) rfl ?_
          refine sq_end ?_
          refine qs_n ?_
          refine wp_rt ?_
          refine qs_r ?_
          exfalso; first | omega | contradiction
        · refine wp_sk ?_
          refine qs_n ?_
          refine wp_sc ?_
          refine wp_sc ?_
          refine wp_sq ?_
          refine sq_v rfl (v_move rfl) rfl ?_
          refine sq_v rfl (v_move rfl) rfl ?_
          refine sq_v rfl (v_neqs rfl rfl) rfl ?_
          refine sq_end ?_
          refine qs_n ?_
          refine wp_cf rfl ?_
          refine wp_sk ?_
          refine qs_n ?_
          refine wp_sc ?_
          refine wp_sq ?_
          refine sq_v rfl (v_assign rfl) rfl ?_
          refine sq_end ?_
          refine qs_n ?_
          refine wp_rt ?_
          exact qs_ret1 rfl rfl (fin_v (i := 12) rfl)
set_option maxRecDepth 100000 in
theorem lifted_fnExactNetworkValue (os : Os) (started : os.Started) (H : Type) (enc : TypeId × Value → H) :
    ReturnsInHanded {} Try.checked os 10 .any (Rows.fnExactNetworkValueSpec.pre6 enc Try.prog Try.f10 Rows.fnExactNetworkValueRow.domain false) (Rows.fnExactNetworkValueSpec.post enc Try.prog Try.f10 false true false false) := by
  refine returnsInHanded_of_change (C := Try.checked) lift_own started (by kernel_rfl) Try.func10
    (ChangeSpec.witness6 (enc := enc) (C := Try.checked) false ⟨#[], #[.agg #[.int .i64 0, .int .i64 0, .int .i64 0, .slice none 0 0, .slice none 0 0]], []⟩ 8 (by kernel_rfl) (by kernel_rfl) (by kernel_rfl) (by kernel_rfl)) ?_
  intro W base args ds gs before hval0 hW hcnd _
  have hval : ∀ (j : Nat) t v, Try.f10.params[j]? = some t → args[j]? = some v → Value.okWide Try.prog W .any base t v := hval0
  have hW' := hW
  obtain ⟨p, q, hA0, hV, rfl, hfz, hnd⟩ := hW
  have hlt : ∀ x ∈ p, x.block < W.heap.size := fun x hx => by simpa using hW'.lt x (by simp [hx])
  have hA : DataW.TrodAll enc Try.prog W 0 (fun _ => true) true Try.f10.params.toList args.toList ds p := hA0
  have hA1 := hA
  rw [Try.params10] at hA1 hval
  obtain ⟨v0, vs0, d0, ds0, p0, q0, hargs, rfl, rfl, h0, r0⟩ := trodAll_cons hA1
  obtain ⟨rfl, rfl, rfl⟩ := trodAll_nil r0
  obtain rfl : args = #[v0] := by cases args; simp_all
  obtain ⟨rfl, rfl⟩ := trodVars_none hV
  have k0 := hval 0 41 v0 rfl rfl
  obtain ⟨x0, x1, x2, ts, op, vt, vo, rfl, rt, ro⟩ := arg_network k0 h0
  refine (show Calls Try.prog 10 _ W (RetV W (.bool true)) from ct_l_FnExactNetworkValue x0 x1 x2 ts op vt vo W rt ro).mono fun e W' ⟨he, hu⟩ => ?_
  subst he
  refine ⟨_, rfl, _, _, _, [], _, [], hW', trodAll_mk1 (shut_bool Try.underlying4 true), trodAll_below lift_laid hu.below (by kernel_rfl) hA hlt, rfl, hu.below.frame _, fun h => by cases h⟩
set_option maxHeartbeats 4000000 in
theorem joined_fnExactNetworkValue : joinedFacts Try.pinned.checked.prog 10 Try.f10 Rows.fnExactNetworkValueSpec Rows.fnExactNetworkValueRow = true := by
  unfold joinedFacts
  repeat' (with_reducible refine cd_and ?_ ?_)
  all_goals first | with_reducible exact cd_enter | (with_reducible refine cd_lifts' ?_; rfl) | (with_reducible refine cd_make' ?_; rfl) | (as_aux_lemma => kernel_rfl)
theorem named_fnExactNetworkValue : Try.pinned.checked.prog.funcNamed Rows.fnExactNetworkValueRow.func = some 10 := by kernel_rfl
theorem over_fnExactNetworkValue : Rows.fnExactNetworkValueRow.holds Try.pinned (OpenSpec.ofChange Rows.fnExactNetworkValueSpec) :=
  OpenClaim.holds_of_wide 10 Try.f10 rfl rfl rfl rfl rfl rfl rfl ⟨rfl, rfl, rfl, rfl, rfl⟩ rfl rfl rfl rfl rfl named_fnExactNetworkValue Try.func10 joined_fnExactNetworkValue
    (of_decide_eq_true (by kernel_rfl)) (by unfold Func.isWrapper; first | (rw [if_pos (by decide +kernel)]; kernel_rfl) | (rw [if_neg (by decide +kernel)]; exact ⟨rfl, rfl⟩))
    (fun os started H enc _ => lifted_fnExactNetworkValue os started H enc)
/-- The law FnExactNetworkValue holds at every input. -/
theorem proved_fnExactNetworkValue : Rows.FnExactNetworkValueSaid :=
  over_fnExactNetworkValue
#print axioms proved_fnExactNetworkValue
end Go.Proofs.Ytikeobneipjfnaa
