/-
  Parts of the proof of FnExactNextPositive: laws of heaps, contracts of functions.
  Conditions: none.
-/
import Derived.Test.YtmddmahaikineaaGreatQNextPositive8
namespace Go.Proofs.YtmddmahaikineaaGreat
set_option maxRecDepth 100000
open Go.RowKit
theorem ct_u_sSupport (k p n : Int) (ts : List Ten) (op : List Int) (vt vo : Value) (w : World) (r : TensR ts vt (hp w)) (r' : IntsR op vo (hp w)) (hs : op.length ≤ 1048576) (hn : netL k p n ts op) :
    Calls Tryz.prog 103 [netV k p n vt vo].toArray w (Ret w emp (NetT 3 1000000 0 (suppTs k p n ts) op)) :=
  (ct_s_SupportNetwork k p n ts op vt vo w r r' hs).mono fun _ _ hh => by
    obtain ⟨u, h', h1, h2, h3⟩ := hh; exact ⟨u, h', h1, h2, h3.1 hn⟩
theorem ct_u_iSupport (k p n : Int) (ts : List Ten) (op : List Int) (vt vo : Value) (w : World) (r : TensR ts vt (hp w)) (r' : IntsR op vo (hp w)) (hs : op.length ≤ 1048576) (hn : netL k p n ts op) :
    Calls Tryz.prog 116 [netV k p n vt vo].toArray w (Ret w emp (NetT 3 1000000 0 (suppTs k p n ts) op)) :=
  (ct_i_SupportNetwork k p n ts op vt vo w r r' hs).mono fun _ _ hh => by
    obtain ⟨u, h', h1, h2, h3⟩ := hh; exact ⟨u, h', h1, h2, h3.1 hn⟩
def cntP (k p n : Int) (ts : List Ten) (op : List Int) : Prop := netL k p n ts op ∧ totP 3 1000000 0 (suppTs k p n ts) op
open Classical in
noncomputable def cntB (k p n : Int) (ts : List Ten) (op : List Int) : Bool := decide (cntP k p n ts op)
noncomputable def cntV (k p n : Int) (ts : List Ten) (op : List Int) : Int := ifB (cntB k p n ts op) ((totX 3 1000000 0 (suppTs k p n ts) op).getD 0 0) 0
theorem cntB_true {k p n : Int} {ts : List Ten} {op : List Int} : cntB k p n ts op = true ↔ cntP k p n ts op := by simp [cntB]
theorem cntB_false {k p n : Int} {ts : List Ten} {op : List Int} : cntB k p n ts op = false ↔ ¬ cntP k p n ts op := by simp [cntB]
theorem CntNo {k p n : Int} {ts : List Ten} {op : List Int} (h : ¬ cntP k p n ts op) : (.tuple [num 0, .bool false].toArray : Value) = .tuple [num (cntV k p n ts op), .bool (cntB k p n ts op)].toArray := by rw [cntV, cntB_false.2 h]; rfl
theorem CntYes {k p n : Int} {ts : List Ten} {op : List Int} (h : cntP k p n ts op) : (.tuple [num ((totX 3 1000000 0 (suppTs k p n ts) op).getD 0 0), .bool true].toArray : Value) = .tuple [num (cntV k p n ts op), .bool (cntB k p n ts op)].toArray := by rw [cntV, cntB_true.2 h]; rfl
theorem tot_len {k p n : Int} {ts : List Ten} {op : List Int} (h : totP k p n ts op) : 1 ≤ (totX k p n ts op).length ∧ (totX k p n ts op).length ≤ 6 := by
  have := h.inR.1; have hw := width_range h.1.1
  omega
theorem ct_s_CountPositive (k p n : Int) (ts : List Ten) (op : List Int) (vt vo : Value) (w : World) (r : TensR ts vt (hp w)) (r' : IntsR op vo (hp w)) (hs : op.length ≤ 1048576) :
    Calls Tryz.prog 101 [netV k p n vt vo].toArray w (RetV w (.tuple [num (cntV k p n ts op), .bool (cntB k p n ts op)].toArray)) := by
  refine calls_in Tryz.func101 rfl Tryz.ntmps101 rfl (Sat.start w) ?_; have hle0 := r.le; obtain ⟨cs_r, rr_r, hc_r⟩ := r.at; have hle1 := r'.le; refine wp_sc (wp_sq ?_); refine sq_x rfl (x_box rfl rfl) rfl ?_; rintro _ _ ⟨b1, rfl, rfl⟩; refine sq_v rfl (v_assign rfl) rfl (sq_v rfl (v_assign rfl) rfl (sq_end (qs_n (wp_sc (wp_sc (wp_sq (sq_v rfl (v_loadNB 0 ty_32 rfl rfl rfl rfl) rfl (sq_u rfl (x_callv rfl en_52 (fun w s => ct_s_NetworkOk _ _ _ _ _ _ _ w (r.mono (s.get 1 rfl)) (r'.mono (s.get 1 rfl)) (by first | assumption | omega))) rfl (sq_v rfl (v_not rfl) rfl (sq_end (qs_n ?_))))))))))); refine wp_cn _ rfl (fun c8 => ?_) (fun c8 => ?_)
  · refine wp_sc (wp_sq (sq_v rfl (v_assign rfl) rfl (sq_v rfl (v_assign rfl) rfl (sq_end (qs_n (wp_rt (qs_r ?_))))))); exact qs_ret2 rfl rfl rfl (fin_q (i := 1) rfl (CntNo (fun h => netB_false.1 c8 h.1)))
  · refine wp_sk (qs_n (wp_sc (wp_sq ?_))); have hnet := netB_true.1 c8; refine sq_v rfl (v_loadNB 0 ty_32 rfl rfl rfl rfl) rfl ?_; refine sq_x rfl (x_call rfl en_103 (fun w s => ct_u_sSupport _ _ _ _ _ _ _ w (r.mono (s.get 1 rfl)) (r'.mono (s.get 1 rfl)) (by first | assumption | omega) hnet)) rfl ?_; rintro _ h11 ⟨vt11, vo11, rfl, o11⟩; obtain ⟨cs_T_11, rr_T_11, hc_T_11⟩ := o11.toR.1.at; refine sq_x rfl (x_call rfl en_105 (fun w s => ct_s_TotalOf _ _ _ _ _ _ _ w (o11.toR.1.mono (s.get 0 rfl)) (o11.toR.2.mono (s.get 0 rfl)) (by first | assumption | omega))) rfl ?_; rintro _ h12 ⟨v12, rfl, r12⟩; refine sq_v rfl (v_move rfl) rfl (sq_v rfl (v_extract rfl rfl) rfl (sq_v rfl (v_extract rfl rfl) rfl (sq_v rfl (v_assign rfl) rfl (sq_v rfl (v_assign rfl) rfl (sq_end (qs_n (wp_sc (wp_sc (wp_sq (sq_v rfl (v_move rfl) rfl (sq_v rfl (v_not rfl) rfl (sq_end (qs_n ?_))))))))))))); refine wp_cn _ rfl (fun c16 => ?_) (fun c16 => ?_)
    · refine wp_sc (wp_sq (sq_v rfl (v_assign rfl) rfl (sq_v rfl (v_assign rfl) rfl (sq_end (qs_n (wp_rt (qs_r ?_))))))); exact qs_ret2 rfl rfl rfl (fin_q (i := 3) rfl (CntNo (fun h => totB_false.1 c16 h.2)))
    · refine wp_sk (qs_n (wp_sc (wp_sq ?_))); have htot := totB_true.1 c16; have htl := tot_len htot; refine sq_v rfl (v_move rfl) rfl (sq_v rfl (v_idxI Tryz.underlying25 ty_3 rfl rfl r12.toR (by omega) (by omega)) rfl (sq_v rfl (v_loadI (k := 0) 0 ty_3 rfl rfl r12.toR (by omega)) rfl (sq_v rfl (v_assign rfl) rfl (sq_v rfl (v_assign rfl) rfl (sq_end (qs_n (wp_rt ?_))))))); exact qs_ret2 rfl rfl rfl (fin_q (i := 3) rfl (CntYes ⟨hnet, htot⟩))
theorem ct_i_CountPositive (k p n : Int) (ts : List Ten) (op : List Int) (vt vo : Value) (w : World) (r : TensR ts vt (hp w)) (r' : IntsR op vo (hp w)) (hs : op.length ≤ 1048576) :
    Calls Tryz.prog 112 [netV k p n vt vo].toArray w (RetV w (.tuple [num (cntV k p n ts op), .bool (cntB k p n ts op)].toArray)) := by
  refine calls_in Tryz.func112 rfl Tryz.ntmps112 rfl (Sat.start w) ?_; have hle0 := r.le; obtain ⟨cs_r, rr_r, hc_r⟩ := r.at; have hle1 := r'.le; refine wp_sc (wp_sq ?_); refine sq_x rfl (x_box rfl rfl) rfl ?_; rintro _ _ ⟨b1, rfl, rfl⟩; refine sq_v rfl (v_assign rfl) rfl (sq_v rfl (v_assign rfl) rfl (sq_end (qs_n (wp_sc (wp_sc (wp_sq (sq_v rfl (v_loadNB 0 ty_32 rfl rfl rfl rfl) rfl (sq_u rfl (x_callv rfl en_60 (fun w s => ct_i_NetworkOk _ _ _ _ _ _ _ w (r.mono (s.get 1 rfl)) (r'.mono (s.get 1 rfl)) (by first | assumption | omega))) rfl (sq_v rfl (v_not rfl) rfl (sq_end (qs_n ?_))))))))))); refine wp_cn _ rfl (fun c8 => ?_) (fun c8 => ?_)
  · refine wp_sc (wp_sq (sq_v rfl (v_assign rfl) rfl (sq_v rfl (v_assign rfl) rfl (sq_end (qs_n (wp_rt (qs_r ?_))))))); exact qs_ret2 rfl rfl rfl (fin_q (i := 1) rfl (CntNo (fun h => netB_false.1 c8 h.1)))
  · refine wp_sk (qs_n (wp_sc (wp_sq ?_))); have hnet := netB_true.1 c8; refine sq_v rfl (v_loadNB 0 ty_32 rfl rfl rfl rfl) rfl ?_; refine sq_x rfl (x_call rfl en_116 (fun w s => ct_u_iSupport _ _ _ _ _ _ _ w (r.mono (s.get 1 rfl)) (r'.mono (s.get 1 rfl)) (by first | assumption | omega) hnet)) rfl ?_; rintro _ h11 ⟨vt11, vo11, rfl, o11⟩; obtain ⟨cs_T_11, rr_T_11, hc_T_11⟩ := o11.toR.1.at; refine sq_x rfl (x_call rfl en_205 (fun w s => ct_i_TotalOf _ _ _ _ _ _ _ w (o11.toR.1.mono (s.get 0 rfl)) (o11.toR.2.mono (s.get 0 rfl)) (by first | assumption | omega))) rfl ?_; rintro _ h12 ⟨v12, rfl, r12⟩; refine sq_v rfl (v_move rfl) rfl (sq_v rfl (v_extract rfl rfl) rfl (sq_v rfl (v_extract rfl rfl) rfl (sq_v rfl (v_assign rfl) rfl (sq_v rfl (v_assign rfl) rfl (sq_end (qs_n (wp_sc (wp_sc (wp_sq (sq_v rfl (v_move rfl) rfl (sq_v rfl (v_not rfl) rfl (sq_end (qs_n ?_))))))))))))); refine wp_cn _ rfl (fun c16 => ?_) (fun c16 => ?_)
    · refine wp_sc (wp_sq (sq_v rfl (v_assign rfl) rfl (sq_v rfl (v_assign rfl) rfl (sq_end (qs_n (wp_rt (qs_r ?_))))))); exact qs_ret2 rfl rfl rfl (fin_q (i := 3) rfl (CntNo (fun h => totB_false.1 c16 h.2)))
    · refine wp_sk (qs_n (wp_sc (wp_sq ?_))); have htot := totB_true.1 c16; have htl := tot_len htot; refine sq_v rfl (v_move rfl) rfl (sq_v rfl (v_idxI Tryz.underlying25 ty_3 rfl rfl r12.toR (by omega) (by omega)) rfl (sq_v rfl (v_loadI (k := 0) 0 ty_3 rfl rfl r12.toR (by omega)) rfl (sq_v rfl (v_assign rfl) rfl (sq_v rfl (v_assign rfl) rfl (sq_end (qs_n (wp_rt ?_))))))); exact qs_ret2 rfl rfl rfl (fin_q (i := 3) rfl (CntYes ⟨hnet, htot⟩))
end Go.Proofs.YtmddmahaikineaaGreat
namespace Go.Proofs.YtmddmahaikineaaGreat
set_option maxRecDepth 100000
open Go.RowKit
theorem flat_len_all {α : Type} {e : α → List Int} {W : Nat} : ∀ {l : List α}, (∀ m ∈ l, (e m).length = W) → (l.flatMap e).length = l.length * W
  | [], _ => by simp
  | a :: l, h => by
    have ih := flat_len_all (l := l) fun m hm => h m (by simp [hm]); rw [List.flatMap_cons, List.length_append, ih, h a (by simp), List.length_cons, Nat.add_mul, Nat.one_mul, Nat.add_comm]
theorem elt_flat {α : Type} {e : α → List Int} {W : Nat} {l : List α} (h : ∀ m ∈ l, (e m).length = W) {i : Nat} (hi : i < l.length) : elt (l.flatMap e) W i = e l[i] := by
  have e1 : l = l.take i ++ (l[i] :: l.drop (i + 1)) := by rw [← List.drop_eq_getElem_cons hi, List.take_append_drop]
  have hl : ((l.take i).flatMap e).length = i * W := by
    rw [flat_len_all fun m hm => h m (List.mem_of_mem_take hm), List.length_take, Nat.min_eq_left (by omega)]
  unfold elt
  rw [show ((i : Int) * (W : Int)).toNat = i * W by rw [← Int.natCast_mul, Int.toNat_natCast], Int.toNat_natCast]
  conv => lhs; rw [e1]
  rw [List.flatMap_append, List.drop_left' hl, List.flatMap_cons, List.take_left' (h _ (List.getElem_mem hi))]
theorem flatMap_one {α : Type} (f : α → Int) : ∀ l : List α, (l.flatMap fun m => [f m]) = l.map f
  | [] => rfl
  | a :: l => by rw [List.flatMap_cons, flatMap_one f l]; rfl
def bitAt (k p n : Int) (t : Ten) (m : Nat) : Int := if elt t.x (widthI k n) m = zeroL k p n then 0 else 1
theorem bits_map (k p n : Int) (t : Ten) (m : Nat) : bitsL k p n t m = (List.range m).map (bitAt k p n t) := rfl
theorem w3 : widthI 3 0 = 1 := rfl
theorem r3 : ringL 3 1000000 0 := .inr (.inr (.inl ⟨.inl rfl, by omega, rfl⟩))
theorem t3 : topI 3 1000000 0 = 1000000 := rfl
theorem bit_elt {k p n : Int} {t : Ten} {P m : Nat} (h : m < P) : elt (bitsL k p n t P) 1 m = [bitAt k p n t m] := by
  rw [bits_map]
  unfold elt
  rw [show ((m : Int) * 1).toNat = m by omega, show (1 : Int).toNat = 1 from rfl, List.drop_eq_getElem_cons (by simpa using h)]
  simp
theorem supp_sl {k p n : Int} {t : Ten} {x v : Int} (ok : SlOK k p n t x v) : suppT k p n (slT k n t x v) = slT 3 0 (suppT k p n t) x v := by
  have hj := sl_j ok.ten ok.mem; have hd1 : ∀ d ∈ t.d, 1 ≤ d := fun d hd => (dims_mem (axes_dims (ten_axes ok.ten)) d hd).1; have hse := sl_eq hd1 hj.2.1 ok.val; have hp := prodI_one hd1; have hw := width_range ok.ten.1; have hpe := ok.dims; have hW : (((widthI k n).toNat : Nat) : Int) = widthI k n := by omega
  show (⟨t.l.eraseIdx (slJ t x), t.d.eraseIdx (slJ t x), bitsL k p n (slT k n t x v) (prodI (t.d.eraseIdx (slJ t x))).toNat⟩ : Ten) = ⟨t.l.eraseIdx (slJ t x), t.d.eraseIdx (slJ t x), slX (widthI 3 0) (suppT k p n t) (slJ t x) v (prodI t.d).toNat⟩
  congr 1
  have e2 : slX (widthI 3 0) (suppT k p n t) (slJ t x) v (prodI t.d).toNat = (slTo t.d (slJ t x) v (prodI t.d).toNat).map (bitAt k p n t) := by
    unfold slX
    rw [← flatMap_one]; refine flatMap_congr' fun m hm => ?_; have hm' := List.mem_range.1 (List.mem_filter.1 hm).1; exact bit_elt hm'
  rw [e2, hse, List.map_map, bits_map]; refine List.map_congr_left fun i hi => ?_; have hi' := List.mem_range.1 hi; have e3 : elt (slT k n t x v).x (widthI k n) i = elt t.x (widthI k n) (slAt t.d (slJ t x) v i) := by
    show elt (slX (widthI k n) t (slJ t x) v (prodI t.d).toNat) (widthI k n) i = _
    rw [ok.eq, slY]; have hel : ∀ m ∈ (List.range (prodI (t.d.eraseIdx (slJ t x))).toNat).map (slAt t.d (slJ t x) v), (elt t.x (widthI k n) ((m : Nat) : Int)).length = (widthI k n).toNat := fun m hm => by
      obtain ⟨q, hq, rfl⟩ := List.mem_map.1 hm; exact (ok.el q).1
    have := elt_flat hel (i := i) (by simpa using hi'); rw [hW] at this; rw [this]
    simp
  simp only [Function.comp, bitAt, e3]
theorem supp_fix {k p n : Int} {t : Ten} {x v : Int} {f : Int → Int} (ht : tensorL k p n t.l t.d t.x) (hd : t.d = t.l.map f) (hv : 0 ≤ v ∧ v < f x) : suppT k p n (fix1 k n t x v) = fix1 3 0 (suppT k p n t) x v := by
  by_cases hx : x ∈ t.l
  · rw [show fix1 k n t x v = slT k n t x v from if_pos hx, show fix1 3 0 (suppT k p n t) x v = slT 3 0 (suppT k p n t) x v from if_pos hx]; exact supp_sl (sl_ok ht hd hx hv)
  · rw [show fix1 k n t x v = t from if_neg hx, show fix1 3 0 (suppT k p n t) x v = suppT k p n t from if_neg hx]
theorem supp_ten {k p n : Int} {t : Ten} (h : tensorL k p n t.l t.d t.x) : tensorL 3 1000000 0 (suppT k p n t).l (suppT k p n t).d (suppT k p n t).x := by
  have hs := sizeI_ge.1 h.2.1; have hp := prodI_one fun d hd => (dims_mem (axes_dims hs.1) d hd).1; refine ⟨r3, h.2.1, ?_, fun a ha => ?_⟩
  · show ((bitsL k p n t (prodI t.d).toNat).length : Int) = sizeI t.l t.d * widthI 3 0
    rw [sizeI_yes hs.1 hs.2, w3, bits_map, List.length_map, List.length_range]
    omega
  · rw [t3]; have ha' : a ∈ bitsL k p n t (prodI t.d).toNat := ha; rw [bits_map] at ha'; obtain ⟨m, _, rfl⟩ := List.mem_map.1 ha'
    unfold bitAt
    split <;> omega
theorem supp_dim {k p n : Int} (ts : List Ten) (x : Int) : dimOf (suppTs k p n ts) x = dimOf ts x := by
  induction ts with
  | nil => rfl
  | cons t ts ih => show (if x ∈ t.l then _ else dimOf (suppTs k p n ts) x) = _; rw [ih]; rfl
theorem supp_net {k p n : Int} {ts : List Ten} {op : List Int} (h : netL k p n ts op) : netL 3 1000000 0 (suppTs k p n ts) op := by
  have hd := net_dmap h; refine ⟨r3, by rw [suppTs, List.length_map]; exact h.2.1, fun t ht => ?_, cons_of_map (f := dimOf ts) fun t ht => ?_, ?_⟩
  · obtain ⟨u, hu, rfl⟩ := List.mem_map.1 ht; exact supp_ten (h.2.2.1 u hu)
  · obtain ⟨u, hu, rfl⟩ := List.mem_map.1 ht; exact hd u hu
  · have e : dimsFor (suppTs k p n ts) op = dimsFor ts op := List.map_congr_left fun x _ => supp_dim ts x; rw [e]; exact h.2.2.2.2
theorem supp_tsI {k p n : Int} {ts : List Ten} {op ls vs : List Int} (h : netL k p n ts op) (hn : ls.Nodup) : ∀ i, i ≤ ls.length → fitI ts ls vs i → suppTs k p n (tsI k n ts ls vs i) = tsI 3 0 (suppTs k p n ts) ls vs i
  | 0, _, _ => by rw [tsI_zero, tsI_zero]
  | i + 1, hi, hf => by
    have ih := supp_tsI h hn i (by omega) fun j hj => hf j (by omega); obtain ⟨h1, h2⟩ := netI h hn i (by omega) fun j hj => hf j (by omega); have hv := hf i (by omega); rw [← h2 i (Nat.le_refl _) (by omega)] at hv; rw [tsI_step, tsI_step, ← ih]
    unfold suppTs
    rw [List.map_map, List.map_map]; exact List.map_congr_left fun t ht => supp_fix (h1.2.2.1 t ht) (net_dmap h1 t ht) hv
noncomputable def cuT (k n : Int) (ts : List Ten) (vs : List Int) (i : Nat) (v : Int) : List Ten := tsI k n ts (labelsL ts) (vs.take i ++ [v]) (i + 1)
theorem cu_get {vs : List Int} {i j : Nat} {v : Int} (hi : i ≤ vs.length) : (j < i → (vs.take i ++ [v]).getD j 0 = vs.getD j 0) ∧ (vs.take i ++ [v]).getD i 0 = v := by
  have hl : (vs.take i).length = i := by simp; omega
  constructor
  · intro hj; simp only [List.getD]; rw [List.getElem?_append_left (by omega), List.getElem?_take, if_pos hj]
  · simp only [List.getD]; rw [List.getElem?_append_right (by omega), hl, Nat.sub_self]
    rfl
theorem cu_step {k n : Int} {ts : List Ten} {vs : List Int} {i : Nat} {v : Int} (hi : i ≤ vs.length) : cuT k n ts vs i v = (tsI k n ts (labelsL ts) vs i).map fun t => fix1 k n t ((labelsL ts).getD i 0) v := by
  rw [cuT, tsI_step, (cu_get (j := 0) hi).2]
  congr 1
  unfold tsI
  exact List.map_congr_left fun t _ => fixTo_congr fun j hj => ⟨rfl, (cu_get hi).1 hj⟩
theorem cu_spec {k n : Int} {ts us : List Ten} {vs : List Int} {i : Nat} {v : Int} : tsI k n us ((labelsL ts).take (i + 1)) (vs.take i ++ [v]) (i + 1) = tsI k n us (labelsL ts) (vs.take i ++ [v]) (i + 1) := by
  unfold tsI
  refine List.map_congr_left fun t _ => fixTo_congr fun j hj => ⟨?_, rfl⟩
  simp only [List.getD]; rw [List.getElem?_take, if_pos hj]
theorem op_spec {op ls : List Int} {i : Nat} (_hi : i < ls.length) : opI op (ls.take (i + 1)) (ls.take (i + 1)).length = opI op ls (i + 1) := by
  unfold opI
  rw [List.take_length]
theorem cu_fit {ts : List Ten} {vs : List Int} {i : Nat} {v : Int} (hi : i ≤ vs.length) (hf : fitI ts (labelsL ts) vs i) (hv : 0 ≤ v ∧ v < dimOf ts ((labelsL ts).getD i 0)) : fitI ts (labelsL ts) (vs.take i ++ [v]) (i + 1) := fun j hj => by
  rcases Nat.lt_or_ge j i with c | c
  · rw [(cu_get hi).1 c]; exact hf j c
  · have e : j = i := by omega
    subst e; rw [(cu_get (j := 0) hi).2]; exact hv
noncomputable def cuV (k p n : Int) (ts : List Ten) (op vs : List Int) (i : Nat) (v : Int) : Int := (totX 3 1000000 0 (tsI 3 0 (suppTs k p n ts) (labelsL ts) (vs.take i ++ [v]) (i + 1)) (opI op (labelsL ts) (i + 1))).getD 0 0
def cuP (k p n : Int) (ts : List Ten) (op vs : List Int) (i : Nat) (v : Int) : Prop := totP 3 1000000 0 (tsI 3 0 (suppTs k p n ts) (labelsL ts) (vs.take i ++ [v]) (i + 1)) (opI op (labelsL ts) (i + 1))
theorem labL_nodup (ts : List Ten) : (labelsL ts).Nodup := labels_nodup ts 100
theorem cu_impl {k p n : Int} {ts : List Ten} {op vs : List Int} (h : netL k p n ts op) {i : Nat} (hl : i < (labelsL ts).length) {v : Int} (hi : i ≤ vs.length) (hf : fitI ts (labelsL ts) vs i) (hv : 0 ≤ v ∧ v < dimOf ts ((labelsL ts).getD i 0)) :
    (cntP k p n (cuT k n ts vs i v) (opI op (labelsL ts) (i + 1)) ↔ cuP k p n ts op vs i v) ∧ (cuP k p n ts op vs i v → cntV k p n (cuT k n ts vs i v) (opI op (labelsL ts) (i + 1)) = cuV k p n ts op vs i v) := by
  have hf2 := cu_fit hi hf hv; have hn := (netI h (labL_nodup ts) (i + 1) (by omega) hf2).1; have e := supp_tsI h (labL_nodup ts) (i + 1) (by omega) hf2; have h1 : cntP k p n (cuT k n ts vs i v) (opI op (labelsL ts) (i + 1)) ↔ cuP k p n ts op vs i v := by
    unfold cntP cuP cuT
    rw [e]; exact ⟨fun h => h.2, fun h => ⟨hn, h⟩⟩
  refine ⟨h1, fun hc => ?_⟩; rw [cntV, cntB_true.2 (h1.2 hc), cuV, cuT, e]
  rfl
theorem cu_range {k p n : Int} {ts : List Ten} {op vs : List Int} {i : Nat} {v : Int} (h : cuP k p n ts op vs i v) : 0 ≤ cuV k p n ts op vs i v ∧ cuV k p n ts op vs i v ≤ 1000000 := by
  have hr := h.inR; have hl := tot_len h; have := hr.2 _ (mem_getD (k := 0) (by omega)); rw [t3] at this; exact this
noncomputable def rkIn (k p n : Int) (ts : List Ten) (op vs : List Int) (i : Nat) : Nat → Int
  | 0 => 0
  | v + 1 => rkIn k p n ts op vs i v + cuV k p n ts op vs i v
noncomputable def rkTo (k p n : Int) (ts : List Ten) (op vs : List Int) : Nat → Int
  | 0 => 0
  | i + 1 => rkTo k p n ts op vs i + rkIn k p n ts op vs i (vs.getD i 0).toNat
def rkAll (k p n : Int) (ts : List Ten) (op vs : List Int) (i : Nat) : Prop := ∀ j, j < i → ∀ v : Nat, (v : Int) < vs.getD j 0 → cuP k p n ts op vs j v
def rkP (k p n : Int) (ts : List Ten) (op vs : List Int) : Prop := (cntP k p n ts op ∧ cntV k p n ts op ≠ 1000000) ∧ assignL k p n ts op vs ∧ rkAll k p n ts op vs (labelsL ts).length
open Classical in
noncomputable def rkB (k p n : Int) (ts : List Ten) (op vs : List Int) : Bool := decide (rkP k p n ts op vs)
noncomputable def rkV (k p n : Int) (ts : List Ten) (op vs : List Int) : Int := ifB (rkB k p n ts op vs) (rkTo k p n ts op vs (labelsL ts).length) 0
theorem RkNo {k p n : Int} {ts : List Ten} {op vs : List Int} (h : ¬ rkP k p n ts op vs) : (.tuple [num 0, .bool false].toArray : Value) = .tuple [num (rkV k p n ts op vs), .bool (rkB k p n ts op vs)].toArray := by
  have e : rkB k p n ts op vs = false := by simp [rkB, h]
  rw [rkV, e]; rfl
theorem RkYes {k p n : Int} {ts : List Ten} {op vs : List Int} (h : rkP k p n ts op vs) : (.tuple [num (rkTo k p n ts op vs (labelsL ts).length), .bool true].toArray : Value) = .tuple [num (rkV k p n ts op vs), .bool (rkB k p n ts op vs)].toArray := by
  have e : rkB k p n ts op vs = true := by simp [rkB, h]
  rw [rkV, e]; rfl
theorem assign_fit {k p n : Int} {ts : List Ten} {op vs : List Int} (h : assignL k p n ts op vs) : vs.length = (labelsL ts).length ∧ fitI ts (labelsL ts) vs (labelsL ts).length ∧ ∀ j, j < vs.length → vs.getD j 0 ≤ 8 := by
  have hl : vs.length = (labelsL ts).length := by have := h.2.1; rwa [dimsFor, List.length_map] at this
  have hv : ∀ j, j < vs.length → 0 ≤ vs.getD j 0 ∧ vs.getD j 0 < dimOf ts ((labelsL ts).getD j 0) := fun j hj => by
    have := h.2.2 j hj
    rwa [dimsFor, map_getD (by omega)] at this
  refine ⟨hl, fun j hj => hv j (by omega), fun j hj => ?_⟩; have h1 := (hv j hj).2; have := dimOf_range (ts := ts) (fun t ht => axes_ok (net_axes h.1 t ht)) ((labelsL ts).getD j 0)
  omega
theorem rk_in {k p n : Int} {ts : List Ten} {op vs : List Int} {i : Nat} : ∀ {v : Nat}, (∀ u : Nat, u < v → cuP k p n ts op vs i u) → 0 ≤ rkIn k p n ts op vs i v ∧ rkIn k p n ts op vs i v ≤ v * 1000000
  | 0, _ => by simp [rkIn]
  | v + 1, h => by
    have ih := rk_in (v := v) fun u hu => h u (by omega); have := cu_range (h v (by omega)); rw [rkIn]
    omega
theorem rk_to {k p n : Int} {ts : List Ten} {op vs : List Int} (h8 : ∀ j, j < vs.length → vs.getD j 0 ≤ 8) : ∀ {i : Nat}, i ≤ vs.length → rkAll k p n ts op vs i → 0 ≤ rkTo k p n ts op vs i ∧ rkTo k p n ts op vs i ≤ i * 8000000
  | 0, _, _ => by simp [rkTo]
  | i + 1, hi, h => by
    have ih := rk_to h8 (i := i) (by omega) fun j hj => h j (by omega); have h1 := rk_in (k := k) (p := p) (n := n) (ts := ts) (op := op) (vs := vs) (i := i) (v := (vs.getD i 0).toNat) fun u hu => h i (by omega) u (by omega); have := h8 i (by omega); rw [rkTo]
    omega
end Go.Proofs.YtmddmahaikineaaGreat
namespace Go.Proofs.YtmddmahaikineaaGreat
set_option maxRecDepth 100000
open Go.RowKit
structure RLaw (k p n : Int) : Prop where
  addC : ∀ a b, InR k p n a → InR k p n b → addL k p a b = addL k p b a
  addA : ∀ a b c, InR k p n a → InR k p n b → InR k p n c → addL k p (addL k p a b) c = addL k p a (addL k p b c)
  add0 : ∀ a, InR k p n a → addL k p (zeroL k p n) a = a
  mulC : ∀ a b, InR k p n a → InR k p n b → mulL k p n a b = mulL k p n b a
  mulA : ∀ a b c, InR k p n a → InR k p n b → InR k p n c → mulL k p n (mulL k p n a b) c = mulL k p n a (mulL k p n b c)
  mul1 : ∀ a, InR k p n a → mulL k p n (oneL k p n) a = a
  mul0 : ∀ a, InR k p n a → mulL k p n (zeroL k p n) a = zeroL k p n
  dist : ∀ a b c, InR k p n a → InR k p n b → InR k p n c → mulL k p n (addL k p a b) c = addL k p (mulL k p n a c) (mulL k p n b c)
theorem in_one {k p n : Int} (h7 : k ≠ 7) (h8 : k ≠ 8) {xs : List Int} (h : InR k p n xs) : ∃ a, xs = [a] ∧ 0 ≤ a ∧ a ≤ topI k p n := by
  have hl := h.1; rw [width_1 h7 h8] at hl
  match xs, hl with
  | [a], _ => exact ⟨a, rfl, h.2 a (by simp)⟩
theorem addL_one (k p a b : Int) : addL k p [a] [b] = [add1 k p a b] := rfl
theorem zero_one {k p n : Int} (h4 : k ≠ 4) (h7 : k ≠ 7) (h8 : k ≠ 8) : zeroL k p n = [0] := by
  rw [zeroL, if_neg h4, width_1 h7 h8]; rfl
theorem cap_mul {x p c : Int} (hx : 0 ≤ x) (hc : 0 ≤ c) (hp : 1 ≤ p) : min (min x p * c) p = min (x * c) p := by
  by_cases h : x ≤ p
  · rw [Int.min_eq_left h]
  · rw [Int.min_eq_right (show p ≤ x by omega)]
    by_cases h0 : c = 0
    · subst h0; simp
    · have h1 : p * 1 ≤ p * c := Int.mul_le_mul_of_nonneg_left (by omega) (by omega); have h2 : x * 1 ≤ x * c := Int.mul_le_mul_of_nonneg_left (by omega) hx
      omega
theorem law_cap {p : Int} (hp : 1 ≤ p) (n : Int) : RLaw 3 p n := by
  have h7 : (3 : Int) ≠ 7 := by omega
  have h8 : (3 : Int) ≠ 8 := by omega
  have hz : zeroL 3 p n = [0] := zero_one (by omega) h7 h8; have ho : oneL 3 p n = [1] := rfl; have ht : topI 3 p n = p := rfl; have ea : ∀ a b : Int, addL 3 p [a] [b] = [min (a + b) p] := fun a b => rfl; have em : ∀ a b : Int, mulL 3 p n [a] [b] = [min (a * b) p] := fun a b => by simp [mulL]
  refine ⟨?_, ?_, ?_, ?_, ?_, ?_, ?_, ?_⟩
  · intro a b ha hb; obtain ⟨a, rfl, ja⟩ := in_one h7 h8 ha; obtain ⟨b, rfl, jb⟩ := in_one h7 h8 hb; rw [ea, ea, Int.add_comm]
  · intro a b c ha hb hc; obtain ⟨a, rfl, ja⟩ := in_one h7 h8 ha; obtain ⟨b, rfl, jb⟩ := in_one h7 h8 hb; obtain ⟨c, rfl, jc⟩ := in_one h7 h8 hc; rw [ea, ea, ea, ea]; congr 1; omega
  · intro a ha; obtain ⟨a, rfl, ja⟩ := in_one h7 h8 ha; rw [hz, ea]; congr 1; omega
  · intro a b ha hb; obtain ⟨a, rfl, ja⟩ := in_one h7 h8 ha; obtain ⟨b, rfl, jb⟩ := in_one h7 h8 hb; rw [em, em, Int.mul_comm]
  · intro a b c ha hb hc; obtain ⟨a, rfl, ja⟩ := in_one h7 h8 ha; obtain ⟨b, rfl, jb⟩ := in_one h7 h8 hb; obtain ⟨c, rfl, jc⟩ := in_one h7 h8 hc; rw [em, em, em, em, cap_mul (Int.mul_nonneg ja.1 jb.1) jc.1 hp, Int.mul_comm a (min (b * c) p), cap_mul (Int.mul_nonneg jb.1 jc.1) ja.1 hp, Int.mul_assoc, Int.mul_comm (b * c) a]
  · intro a ha; obtain ⟨a, rfl, ja⟩ := in_one h7 h8 ha; rw [ho, em]; congr 1; omega
  · intro a ha; obtain ⟨a, rfl, ja⟩ := in_one h7 h8 ha; rw [hz, em]; congr 1; omega
  · intro a b c ha hb hc; obtain ⟨a, rfl, ja⟩ := in_one h7 h8 ha; obtain ⟨b, rfl, jb⟩ := in_one h7 h8 hb; obtain ⟨c, rfl, jc⟩ := in_one h7 h8 hc; rw [ea, em, em, em, ea, cap_mul (by omega) jc.1 hp, Int.add_mul]; have h1 := Int.mul_nonneg ja.1 jc.1; have h2 := Int.mul_nonneg jb.1 jc.1
    congr 1; omega
abbrev El (k p n : Int) := {xs : List Int // InR k p n xs}
noncomputable def smL {k p n : Int} (hr : ringL k p n) (h : RLaw k p n) : Sm (El k p n) where
  zero := ⟨zeroL k p n, zeroL_in hr⟩
  one := ⟨oneL k p n, oneL_in hr⟩
  add a b := ⟨addL k p a.1 b.1, addL_in hr a.2 b.2⟩
  mul a b := ⟨mulL k p n a.1 b.1, mulL_in hr a.2 b.2⟩
  addC a b := Subtype.ext (h.addC _ _ a.2 b.2)
  addA a b c := Subtype.ext (h.addA _ _ _ a.2 b.2 c.2)
  add0 a := Subtype.ext (h.add0 _ a.2)
  mulC a b := Subtype.ext (h.mulC _ _ a.2 b.2)
  mulA a b c := Subtype.ext (h.mulA _ _ _ a.2 b.2 c.2)
  mul1 a := Subtype.ext (h.mul1 _ a.2)
  mul0 a := Subtype.ext (h.mul0 _ a.2)
  dist a b c := Subtype.ext (h.dist _ _ _ a.2 b.2 c.2)
section
variable {k p n : Int} (hr : ringL k p n)
open Classical in
noncomputable def toA (xs : List Int) : El k p n := if h : InR k p n xs then ⟨xs, h⟩ else ⟨zeroL k p n, zeroL_in hr⟩
theorem toA_val {xs : List Int} (h : InR k p n xs) : (toA hr xs).1 = xs := by rw [toA, dif_pos h]
theorem toA_eq {xs : List Int} (h : InR k p n xs) : toA hr xs = ⟨xs, h⟩ := by rw [toA, dif_pos h]
end
end Go.Proofs.YtmddmahaikineaaGreat
namespace Go.Proofs.YtmddmahaikineaaGreat
set_option maxRecDepth 100000
open Go.RowKit
theorem putL_get? {xs ys : List Int} {lo : Nat} (h : lo + ys.length ≤ xs.length) (q : Nat) : (putL xs lo ys)[q]? = if q < lo then xs[q]? else if q < lo + ys.length then ys[q - lo]? else xs[q]? := by
  unfold putL
  have hl : (xs.take lo).length = lo := by simp; omega
  by_cases c1 : q < lo
  · rw [if_pos c1, List.append_assoc, List.getElem?_append_left (by omega), List.getElem?_take, if_pos c1]
  · rw [if_neg c1, List.append_assoc, List.getElem?_append_right (by omega), hl]
    by_cases c2 : q < lo + ys.length
    · rw [if_pos c2, List.getElem?_append_left (by omega)]
    · rw [if_neg c2, List.getElem?_append_right (by omega), List.getElem?_drop]
      congr 1
      omega
theorem elt_get? {xs : List Int} {w i : Int} (q : Nat) : (elt xs w i)[q]? = if q < w.toNat then xs[(i * w).toNat + q]? else none := by
  unfold elt
  rw [List.getElem?_take]
  split
  · rw [List.getElem?_drop]
  · rfl
theorem elt_put {xs ys : List Int} {w i : Int} (hw : 1 ≤ w) (hi : 0 ≤ i) (hy : ys.length = w.toNat) (hl : i * w + w ≤ xs.length) : elt (putL xs (i * w).toNat ys) w i = ys := by
  have h0 : 0 ≤ i * w := Int.mul_nonneg hi (by omega)
  apply List.ext_getElem?
  intro q; rw [elt_get?, putL_get? (by omega)]
  by_cases c : q < w.toNat
  · rw [if_pos c, if_neg (by omega), if_pos (by omega), Nat.add_sub_cancel_left]
  · rw [if_neg c, List.getElem?_eq_none (by omega)]
theorem elt_put_ne {xs ys : List Int} {w i j : Int} (hw : 1 ≤ w) (hi : 0 ≤ i) (hj : 0 ≤ j) (hy : ys.length = w.toNat) (hl : i * w + w ≤ xs.length) (hne : i ≠ j) : elt (putL xs (i * w).toNat ys) w j = elt xs w j := by
  have h0 : 0 ≤ i * w := Int.mul_nonneg hi (by omega); have h1 : 0 ≤ j * w := Int.mul_nonneg hj (by omega)
  apply List.ext_getElem?
  intro q; rw [elt_get?, elt_get?]
  by_cases c : q < w.toNat
  · rw [if_pos c, if_pos c, putL_get? (by omega)]
    rcases Int.lt_or_gt_of_ne hne with h | h
    · have := Int.mul_le_mul_of_nonneg_right (show i + 1 ≤ j by omega) (show 0 ≤ w by omega); rw [Int.add_mul, Int.one_mul] at this; rw [if_neg (by omega), if_neg (by omega)]
    · have := Int.mul_le_mul_of_nonneg_right (show j + 1 ≤ i by omega) (show 0 ≤ w by omega); rw [Int.add_mul, Int.one_mul] at this; rw [if_pos (by omega)]
  · rw [if_neg c, if_neg c]
theorem elt_rep {z : List Int} {W P : Nat} (hz : z.length = W) {i : Nat} (hi : i < P) : elt (List.replicate P z).flatten W i = z := by
  have e : (List.replicate P z).flatten = (List.range P).flatMap fun _ => z := by
    rw [List.flatMap_def, List.map_const', List.length_range]
  rw [e, elt_flat (e := fun _ => z) (l := List.range P) (fun _ _ => hz) (by simpa using hi)]
theorem offL_inj : ∀ {ds is js : List Int}, (∀ d ∈ ds, 1 ≤ d) → idxIn ds is → idxIn ds js → offL ds is = offL ds js → is = js
  | [], [], [], _, _, _, _ => rfl
  | [], i :: is, _, _, h, _, _ => by have := h.1; simp at this
  | [], [], j :: js, _, _, h, _ => by have := h.1; simp at this
  | d :: ds, [], _, _, h, _, _ => by have := h.1; simp at this
  | d :: ds, i :: is, [], _, _, h, _ => by have := h.1; simp at this
  | d :: ds, i :: is, j :: js, hd, hi, hj, he => by
    have hd' : ∀ x ∈ ds, 1 ≤ x := fun x hx => hd x (by simp [hx]); have tl : ∀ {v : Int} {vs : List Int}, idxIn (d :: ds) (v :: vs) → idxIn ds vs := fun {v vs} h => ⟨by have := h.1; simpa using this, fun q hq => by
      have := h.2 (q + 1) (by simp; omega)
      simpa using this⟩
    have oi := offL_in hd' (tl hi); have oj := offL_in hd' (tl hj); have hP := prodI_one hd'; simp only [offL] at he; have e1 : i = j := by
      rcases Int.lt_trichotomy i j with h | h | h
      · have := Int.mul_le_mul_of_nonneg_right (show i + 1 ≤ j by omega) (show 0 ≤ prodI ds by omega); rw [Int.add_mul, Int.one_mul] at this
        omega
      · exact h
      · have := Int.mul_le_mul_of_nonneg_right (show j + 1 ≤ i by omega) (show 0 ≤ prodI ds by omega); rw [Int.add_mul, Int.one_mul] at this
        omega
    subst e1; rw [offL_inj hd' (tl hi) (tl hj) (by omega)]
theorem idx_map {f a : Int → Int} {K : List Int} (h : ∀ x ∈ K, 0 ≤ a x ∧ a x < f x) : idxIn (K.map f) (K.map a) := ⟨by simp, fun j hj => by
  have hj' : j < K.length := by simpa using hj
  rw [map_getD hj', map_getD hj']; exact h _ (mem_getD hj')⟩
theorem idxAt_of {J ls : List Int} (hs : ∀ l ∈ ls, l ∈ J) (c : Int → Int) : idxAt J (J.map c) ls = ls.map c :=
  List.map_congr_left fun x hx => by
    have hg := findI_get (hs x hx)
    show (J.map c).getD (findI J x).toNat 0 = c x
    rw [map_getD hg.1, hg.2]
section
variable {k p n : Int} (hr : ringL k p n) (hR : RLaw k p n)
/-- What a tensor holds at an assignment. -/
noncomputable def val (t : Ten) (a : Int → Int) : El k p n := toA hr (elt t.x (widthI k n) (offL t.d (t.l.map a)))
theorem toA_add {x y : List Int} (hx : InR k p n x) (hy : InR k p n y) : toA hr (addL k p x y) = (smL hr hR).add (toA hr x) (toA hr y) := by
  rw [toA_eq hr hx, toA_eq hr hy, toA_eq hr (addL_in hr hx hy)]; rfl
theorem toA_mul {x y : List Int} (hx : InR k p n x) (hy : InR k p n y) : toA hr (mulL k p n x y) = (smL hr hR).mul (toA hr x) (toA hr y) := by
  rw [toA_eq hr hx, toA_eq hr hy, toA_eq hr (mulL_in hr hx hy)]; rfl
theorem toA_zero : toA hr (zeroL k p n) = (smL hr hR).zero := by rw [toA_eq hr (zeroL_in hr)]; rfl
variable {t u : Ten} {f : Int → Int} {K : List Int}
theorem pair_elt (h : PairOK k p n t u f) (hk : KeepOK t u f K) {i : Int} (h0 : 0 ≤ i) (h1 : i < prodI (K.map f)) : ∀ M : Nat, toA hr (elt (pairX k p n f t u K M) (widthI k n) i) =
    sumN (smL hr hR) (fun (m : Nat) => if atI f (joinI t.l u.l) K m = i then (smL hr hR).mul (toA hr (elt t.x (widthI k n) (atI f (joinI t.l u.l) t.l m))) (toA hr (elt u.x (widthI k n) (atI f (joinI t.l u.l) u.l m))) else (smL hr hR).zero) M
  | 0 => by
    have hw := width_range hr; have e := elt_rep (z := zeroL k p n) (W := (widthI k n).toNat) (P := (prodI (K.map f)).toNat) (zeroL_len k p n) (i := i.toNat) (by omega); rw [show (((widthI k n).toNat : Nat) : Int) = widthI k n by omega, show ((i.toNat : Nat) : Int) = i by omega] at e; rw [pairX, e, toA_zero hr hR]; rfl
  | M + 1 => by
    have hw := width_range hr; have ih := pair_elt h hk h0 h1 M; have hak := h.at_k hk M; have hal := h.all hk M; have hel := hal.el hr hak.1 hak.2; have hpr := mulL_in hr (h.el_t M) (h.el_u M); have hsum := addL_in hr hel hpr; rw [pairX, sumN, ← ih]
    by_cases c : atI f (joinI t.l u.l) K M = i
    · rw [if_pos c, c]; rw [c] at hsum hel; rw [elt_put (by omega) h0 hsum.1 (by have := h.fits hk M; rw [c] at this; exact this), toA_add hr hR hel hpr, toA_mul hr hR (h.el_t M) (h.el_u M)]
    · rw [if_neg c, Sm.add0', elt_put_ne (by omega) hak.1 h0 hsum.1 (h.fits hk M) c]
theorem pair_val (h : PairOK k p n t u f) (hk : KeepOK t u f K) {a : Int → Int} (ha : ∀ x ∈ K, 0 ≤ a x ∧ a x < f x) :
    val hr (pairT k p n f t u K) a = sumO (smL hr hR) f ((joinI t.l u.l).filter fun x => decide (x ∉ K)) (fun b => (smL hr hR).mul (val hr t b) (val hr u b)) a := by
  have hdK : ∀ d ∈ K.map f, 1 ≤ d := fun d hd => (map_dim h.dim hk.sub d hd).1; have hia := idx_map (f := f) ha; have hoa := offL_in hdK hia; have hsT : ∀ l ∈ t.l, l ∈ joinI t.l u.l := fun l hl => mem_joinI.2 (.inl hl); have hsU : ∀ l ∈ u.l, l ∈ joinI t.l u.l := fun l hl => mem_joinI.2 (.inr hl); have at_off : ∀ {ls : List Int}, ls.Nodup → (∀ l ∈ ls, l ∈ joinI t.l u.l) → ∀ m : Int, atI f (joinI t.l u.l) ls m = offL (ls.map f) (idxAt (joinI t.l u.l) (idxL ((joinI t.l u.l).map f) m) ls) := fun {ls} hn hs m => by
    unfold atI dotL
    rw [stepsL_len]; exact dot_off h.nd (by simp) hn hs
  show toA hr (elt (pairX k p n f t u K (prodI ((joinI t.l u.l).map f)).toNat) (widthI k n) (offL (K.map f) (K.map a))) = _
  rw [pair_elt hr hR h hk hoa.1 (by omega)]
  classical
  have e1 := sumO_idx (smL hr hR) f (J := joinI t.l u.l) h.nd (fun x hx => (h.dim x hx).1)
    (fun l => if offL (K.map f) (idxAt (joinI t.l u.l) l K) = offL (K.map f) (K.map a) then (smL hr hR).mul (toA hr (elt t.x (widthI k n) (offL (t.l.map f) (idxAt (joinI t.l u.l) l t.l)))) (toA hr (elt u.x (widthI k n) (offL (u.l.map f) (idxAt (joinI t.l u.l) l u.l)))) else (smL hr hR).zero) a
  rw [sumN_congr (smL hr hR) (G := fun (m : Nat) => if offL (K.map f) (idxAt (joinI t.l u.l) (idxL ((joinI t.l u.l).map f) m) K) = offL (K.map f) (K.map a) then (smL hr hR).mul (toA hr (elt t.x (widthI k n) (offL (t.l.map f) (idxAt (joinI t.l u.l) (idxL ((joinI t.l u.l).map f) m) t.l)))) (toA hr (elt u.x (widthI k n) (offL (u.l.map f) (idxAt (joinI t.l u.l) (idxL ((joinI t.l u.l).map f) m) u.l)))) else (smL hr hR).zero)
    fun m _ => by rw [at_off hk.nd hk.sub, at_off (axes_nodup (ten_axes h.tt)) hsT, at_off (axes_nodup (ten_axes h.uu)) hsU], e1]
  rw [sumO_congr (smL hr hR) f (G := fun b => if ∀ x ∈ K, b x = a x then (smL hr hR).mul (val hr t b) (val hr u b) else (smL hr hR).zero) fun b _ hb => ?_]
  · exact sumO_pick (smL hr hR) f h.nd (fun _ _ => rfl) fun x _ hx => ha x hx
  · rw [idxAt_of hk.sub, idxAt_of hsT, idxAt_of hsU]; have hib := idx_map (f := f) (a := b) (K := K) fun x hx => hb x (hk.sub x hx); have e2 : offL (K.map f) (K.map b) = offL (K.map f) (K.map a) ↔ ∀ x ∈ K, b x = a x :=
      ⟨fun e x hx => (List.map_inj_left.1 (offL_inj hdK hib hia e)) x hx, fun e => by rw [List.map_congr_left e]⟩
    unfold val
    rw [h.ht, h.hu]
    by_cases c : ∀ x ∈ K, b x = a x
    · rw [if_pos (e2.2 c), if_pos c]
    · rw [if_neg (fun e => c (e2.1 e)), if_neg c]
end
end Go.Proofs.YtmddmahaikineaaGreat
namespace Go.Proofs.YtmddmahaikineaaGreat
set_option maxRecDepth 100000
open Go.RowKit
theorem sumO_dim {A : Type} {R : Sm A} {f g : Int → Int} {F : (Int → Int) → A} : ∀ {xs : List Int} {a : Int → Int}, (∀ x ∈ xs, f x = g x) → sumO R f xs F a = sumO R g xs F a
  | [], _, _ => rfl
  | x :: xs, a, h => by
    rw [sumO, sumO, h x (by simp)]; exact sumN_congr R fun v _ => sumO_dim fun y hy => h y (by simp [hy])
section
variable {k p n : Int} (hr : ringL k p n) (hR : RLaw k p n)
theorem val_upd {t : Ten} {x : Int} (h : x ∉ t.l) (a : Int → Int) (v : Int) : val hr t (upd a x v) = val hr t a := by
  unfold val
  rw [List.map_congr_left fun y hy => upd_ne (a := a) (v := v) (show y ≠ x from fun e => h (by rw [← e]; exact hy))]
/-- The product of some tensors at an assignment. -/
noncomputable def prodV (l : List Ten) (a : Int → Int) : El k p n := l.foldr (fun t z => (smL hr hR).mul (val hr t a) z) (smL hr hR).one
theorem prodV_cons (t : Ten) (l : List Ten) (a : Int → Int) : prodV hr hR (t :: l) a = (smL hr hR).mul (val hr t a) (prodV hr hR l a) := rfl
theorem prodV_upd {l : List Ten} {x : Int} (h : ∀ t ∈ l, x ∉ t.l) (a : Int → Int) (v : Int) : prodV hr hR l (upd a x v) = prodV hr hR l a := by
  induction l with
  | nil => rfl
  | cons t l ih => rw [prodV_cons, prodV_cons, val_upd hr (h t (by simp)), ih fun u hu => h u (by simp [hu])]
theorem prodV_perm {l l' : List Ten} (h : l.Perm l') (a : Int → Int) : prodV hr hR l a = prodV hr hR l' a := by
  induction h with
  | nil => rfl
  | cons t _ ih => rw [prodV_cons, prodV_cons, ih]
  | swap t u l =>
    simp only [prodV_cons]; rw [← (smL hr hR).mulA, ← (smL hr hR).mulA, (smL hr hR).mulC (val hr t a)]
  | trans _ _ h1 h2 => rw [h1, h2]
theorem sum_step {L O : List Ten} {t u : Ten} {f g : Int → Int} {K xs xs' : List Int} {a : Int → Int} (hL : L.Perm (t :: u :: O)) (h : PairOK k p n t u g) (hk : KeepOK t u g K) (hfg : ∀ x ∈ joinI t.l u.l, g x = f x)
    (hx : xs.Nodup) (hx' : xs'.Nodup) (hmem : ∀ x, x ∈ xs ↔ x ∈ xs' ∨ (x ∈ joinI t.l u.l ∧ x ∉ K)) (hdis : ∀ x ∈ joinI t.l u.l, x ∉ K → x ∉ xs' ∧ ∀ s ∈ O, x ∉ s.l) (hK : ∀ x ∈ K, x ∈ xs' ∨ (x ∉ xs' ∧ 0 ≤ a x ∧ a x < f x)) :
    sumO (smL hr hR) f xs (prodV hr hR L) a = sumO (smL hr hR) f xs' (prodV hr hR (O ++ [pairT k p n g t u K])) a := by
  have hD : ∀ x, x ∈ ((joinI t.l u.l).filter fun x => decide (x ∉ K)) ↔ x ∈ joinI t.l u.l ∧ x ∉ K := fun x => by rw [List.mem_filter, decide_eq_true_eq]
  have hp : xs.Perm (xs' ++ (joinI t.l u.l).filter fun x => decide (x ∉ K)) := by
    refine (List.perm_ext_iff_of_nodup hx (List.nodup_append.2 ⟨hx', List.Pairwise.filter _ h.nd, fun x h1 y h2 e => ?_⟩)).2 fun x => ?_
    · subst e; obtain ⟨h3, h4⟩ := (hD x).1 h2; exact (hdis x h3 h4).1 h1
    · rw [List.mem_append, hD, hmem]
  rw [sumO_perm _ _ hp, sumO_append]; refine sumO_congr _ _ fun b hb hbr => ?_; have e1 : ∀ c : Int → Int, prodV hr hR L c = (smL hr hR).mul ((smL hr hR).mul (val hr t c) (val hr u c)) (prodV hr hR O c) := fun c => by
    rw [prodV_perm hr hR hL, prodV_cons, prodV_cons, ← (smL hr hR).mulA]
  rw [sumO_congr (smL hr hR) f fun c _ _ => e1 c, sumO_mul (smL hr hR) f (F := fun c => (smL hr hR).mul (val hr t c) (val hr u c)) (G := prodV hr hR O) fun x hx c v => prodV_upd hr hR (hdis x ((hD x).1 hx).1 ((hD x).1 hx).2).2 c v]; rw [← sumO_dim (f := g) fun x hx => hfg x ((hD x).1 hx).1, ← pair_val hr hR h hk fun x hx => ?_]
  · rw [prodV_perm hr hR (List.perm_append_comm (l₁ := O) (l₂ := [pairT k p n g t u K])) b]
    rfl
  · rw [hfg x (hk.sub x hx)]
    rcases hK x hx with h1 | ⟨h1, h2⟩
    · exact hbr x h1
    · rw [hb x h1]; exact h2
variable {ts : List Ten} {op : List Int} {ss : List Stp}
open Classical in
noncomputable def remL (ts : List Ten) (op : List Int) (ss : List Stp) (i : Nat) : List Int := (labelsL ts).filter fun x => decide (x ∉ op ∧ ∃ j ∈ (runS ts op ss i).ixs, x ∈ (runS ts op ss i).lab j)
theorem mem_rem {i : Nat} {x : Int} : x ∈ remL ts op ss i ↔ x ∈ labelsL ts ∧ x ∉ op ∧ ∃ j ∈ (runS ts op ss i).ixs, x ∈ (runS ts op ss i).lab j := by
  unfold remL
  rw [List.mem_filter, decide_eq_true_eq]
theorem rem_nodup (ts : List Ten) (op : List Int) (ss : List Stp) (i : Nat) : (remL ts op ss i).Nodup := List.Pairwise.filter _ (labels_nodup ts 100)
theorem RunOK.labs {i : Nat} (r : RunOK k p n ts op ss i) {j : Nat} (hj : j < ts.length + i) {x : Int} (hx : x ∈ (runS ts op ss i).lab j) : x ∈ labelsL ts := by
  obtain ⟨h1, h2, h3⟩ := r.get hj; rw [← h2] at hx; have hg := findI_get hx; have ha := (ten_axes h1).2.2 _ hg.1
  unfold axP at ha
  rw [hg.2] at ha; refine mem_labels.2 ⟨by omega, ?_⟩; have e : ((runTo k p n ts op ss i).getD j noTen).d.getD (findI ((runTo k p n ts op ss i).getD j noTen).l x).toNat 0 = dimOf ts x := by
    conv => lhs; rw [h3]
    rw [map_getD hg.1, hg.2]
  rw [e] at ha
  omega
theorem run_sum_step (h : orderL k p n ts op ss) {i : Nat} (hi : i < ss.length) (r : RunOK k p n ts op ss i) (hf : runFit k p n ts op ss i) {a : Int → Int} (ha : ∀ x ∈ op, 0 ≤ a x ∧ a x < dimOf ts x) :
    sumO (smL hr hR) (dimOf ts) (remL ts op ss i) (prodV hr hR (outTo k p n ts op ss i)) a = sumO (smL hr hR) (dimOf ts) (remL ts op ss (i + 1)) (prodV hr hR (outTo k p n ts op ss (i + 1))) a := by
  obtain ⟨hst, hs1, hl⟩ := run_step h hi; obtain ⟨⟨ta, la, da⟩, ⟨tb, lb, db⟩⟩ := r.two h hi; have hkept := r.kept h hi; obtain ⟨hla, hlb, hab⟩ := hst; have hia := (live_ixs.1 hla).2; have hib := (live_ixs.1 hlb).2; have hne : (stpAt ss i).a.toNat ≠ (stpAt ss i).b.toNat := by have := hla.1; omega
  have hok := pair_ok hf.1 hf.2.1 hf.2.2.1 hf.2.2.2.1; have hkk := keep_ok hok hf.2.2.2.2; have hsok := (run_fine (ss := ss) h.1 i).1; have hixs : (runS ts op ss (i + 1)).ixs = ((runS ts op ss i).ixs.filter fun j => decide (j ≠ (stpAt ss i).a.toNat ∧ j ≠ (stpAt ss i).b.toNat)) ++ [(runS ts op ss i).all.length] := by rw [hs1, step_ixs hsok]
  have hJ : ∀ x, x ∈ joinI (runA k p n ts op ss i).l (runB k p n ts op ss i).l ↔ x ∈ (runS ts op ss i).lab (stpAt ss i).a.toNat ∨ x ∈ (runS ts op ss i).lab (stpAt ss i).b.toNat := fun x => by rw [mem_joinI, la, lb]
  have hK : ∀ x, x ∈ runK ts op ss i ↔ x ∈ joinI (runA k p n ts op ss i).l (runB k p n ts op ss i).l ∧ (runS ts op ss i).kept op (stpAt ss i).a.toNat (stpAt ss i).b.toNat x := fun x => by
    rw [hJ]
    show x ∈ Sh.res op (runS ts op ss i) _ _ ↔ _
    simp only [Sh.res, List.mem_filter, mem_joinI, decide_eq_true_eq]
  have hlab : ∀ j ∈ (runS ts op ss i).ixs, (runS ts op ss (i + 1)).lab j = (runS ts op ss i).lab j := fun j hj => by rw [hs1, step_lab (mem_ixs.1 hj).1]
  have hnew : (runS ts op ss (i + 1)).lab (runS ts op ss i).all.length = runK ts op ss i := by rw [hs1, step_lab_new]; rfl
  have hlt : ∀ j ∈ (runS ts op ss i).ixs, j < ts.length + i := fun j hj => by have := (mem_ixs.1 hj).1; omega
  have hmem1 : ∀ x, (∃ j ∈ (runS ts op ss (i + 1)).ixs, x ∈ (runS ts op ss (i + 1)).lab j) ↔ (∃ j ∈ (runS ts op ss i).ixs, j ≠ (stpAt ss i).a.toNat ∧ j ≠ (stpAt ss i).b.toNat ∧ x ∈ (runS ts op ss i).lab j) ∨ x ∈ runK ts op ss i := fun x => by
    rw [hixs]
    constructor
    · rintro ⟨j, hj, hx⟩
      rcases List.mem_append.1 hj with hj | hj
      · obtain ⟨h1, h2⟩ := List.mem_filter.1 hj; rw [decide_eq_true_eq] at h2; rw [hlab j h1] at hx; exact .inl ⟨j, h1, h2.1, h2.2, hx⟩
      · rw [List.mem_singleton.1 hj, hnew] at hx; exact .inr hx
    · rintro (⟨j, h1, h2, h3, hx⟩ | hx)
      · exact ⟨j, List.mem_append_left _ (List.mem_filter.2 ⟨h1, decide_eq_true ⟨h2, h3⟩⟩), by rw [hlab j h1]; exact hx⟩
      · exact ⟨_, List.mem_append_right _ (List.mem_singleton.2 rfl), by rw [hnew]; exact hx⟩
  have eout : outTo k p n ts op ss (i + 1) = (((runS ts op ss i).ixs.filter fun j => decide (j ≠ (stpAt ss i).a.toNat ∧ j ≠ (stpAt ss i).b.toNat)).map fun j => (runTo k p n ts op ss i).getD j noTen) ++ [pairT k p n (dimJ (runA k p n ts op ss i) (runB k p n ts op ss i)) (runA k p n ts op ss i) (runB k p n ts op ss i) (runK ts op ss i)] := by
    obtain ⟨pa, hpa⟩ := List.getElem?_of_mem hia; obtain ⟨pb, hpb⟩ := List.getElem?_of_mem hib; rw [out_step h hi r hpa hpb, out_len]
    unfold outTo
    rw [dropK_ixs _ hpa hpb _ (Nat.le_refl _), List.take_length, pairR, if_pos (show pairP k p n (runA k p n ts op ss i) (runB k p n ts op ss i) (runK ts op ss i) from hf), hkept]
  rw [eout]; rw [hkept] at hkk; refine sum_step hr hR (t := runA k p n ts op ss i) (u := runB k p n ts op ss i) ?_ hok hkk ?_ (rem_nodup ts op ss i) (rem_nodup ts op ss (i + 1)) ?_ ?_ ?_
  · have hperm : (runS ts op ss i).ixs.Perm ((stpAt ss i).a.toNat :: (stpAt ss i).b.toNat :: ((runS ts op ss i).ixs.filter fun j => decide (j ≠ (stpAt ss i).a.toNat ∧ j ≠ (stpAt ss i).b.toNat))) := by
      refine (List.perm_ext_iff_of_nodup (ixs_nodup _) ?_).2 fun j => ?_
      · refine List.nodup_cons.2 ⟨?_, List.nodup_cons.2 ⟨?_, List.Pairwise.filter _ (ixs_nodup _)⟩⟩
        · rw [List.mem_cons, List.mem_filter, decide_eq_true_eq]; rintro (e | e)
          · exact hne e
          · exact e.2.1 rfl
        · rw [List.mem_filter, decide_eq_true_eq]; exact fun e => e.2.2 rfl
      · rw [List.mem_cons, List.mem_cons, List.mem_filter, decide_eq_true_eq]
        constructor
        · intro hj
          by_cases c1 : j = (stpAt ss i).a.toNat
          · exact .inl c1
          · by_cases c2 : j = (stpAt ss i).b.toNat
            · exact .inr (.inl c2)
            · exact .inr (.inr ⟨hj, c1, c2⟩)
        · rintro (e | e | e)
          · rw [e]; exact hia
          · rw [e]; exact hib
          · exact e.1
    exact hperm.map fun j => (runTo k p n ts op ss i).getD j noTen
  · exact fun x hx => dimJ_f da db hx
  · intro x; rw [mem_rem, mem_rem, hmem1]
    constructor
    · rintro ⟨h1, h2, j, hj, hx⟩
      by_cases c1 : x ∈ runK ts op ss i
      · exact .inl ⟨h1, h2, .inr c1⟩
      · by_cases c2 : j ≠ (stpAt ss i).a.toNat ∧ j ≠ (stpAt ss i).b.toNat
        · exact .inl ⟨h1, h2, .inl ⟨j, hj, c2.1, c2.2, hx⟩⟩
        · refine .inr ⟨(hJ x).2 ?_, c1⟩
          by_cases c3 : j = (stpAt ss i).a.toNat
          · rw [← c3]; exact .inl hx
          · have c4 : j = (stpAt ss i).b.toNat := Classical.byContradiction fun e => c2 ⟨c3, e⟩; rw [← c4]; exact .inr hx
    · rintro (⟨h1, h2, ⟨j, hj, _, _, hx⟩ | hx⟩ | ⟨h1, h2⟩)
      · exact ⟨h1, h2, j, hj, hx⟩
      · rcases (hJ x).1 ((hK x).1 hx).1 with h3 | h3
        · exact ⟨h1, h2, _, hia, h3⟩
        · exact ⟨h1, h2, _, hib, h3⟩
      · have hno : x ∉ op := fun e => h2 ((hK x).2 ⟨h1, .inl e⟩)
        rcases (hJ x).1 h1 with h3 | h3
        · exact ⟨r.labs (hlt _ hia) h3, hno, _, hia, h3⟩
        · exact ⟨r.labs (hlt _ hib) h3, hno, _, hib, h3⟩
  · intro x h1 h2; have hnk : ¬ (runS ts op ss i).kept op (stpAt ss i).a.toNat (stpAt ss i).b.toNat x := fun e => h2 ((hK x).2 ⟨h1, e⟩); refine ⟨fun e => ?_, fun s hs => ?_⟩
    · rcases (hmem1 x).1 (mem_rem.1 e).2.2 with ⟨j, hj, h3, h4, h5⟩ | h3
      · exact hnk (.inr ⟨j, hj, h3, h4, h5⟩)
      · exact h2 h3
    · obtain ⟨j, hj, rfl⟩ := List.mem_map.1 hs; obtain ⟨h3, h4⟩ := List.mem_filter.1 hj; rw [decide_eq_true_eq] at h4; rw [(r.get (hlt j h3)).2.1]; exact fun e => hnk (.inr ⟨j, h3, h4.1, h4.2, e⟩)
  · intro x hx; obtain ⟨h1, _⟩ := (hK x).1 hx
    by_cases c : x ∈ op
    · exact .inr ⟨fun e => (mem_rem.1 e).2.1 c, ha x c⟩
    · refine .inl (mem_rem.2 ⟨?_, c, (hmem1 x).2 (.inr hx)⟩)
      rcases (hJ x).1 h1 with h3 | h3
      · exact r.labs (hlt _ hia) h3
      · exact r.labs (hlt _ hib) h3
theorem run_sum (h : orderL k p n ts op ss) {a : Int → Int} (ha : ∀ x ∈ op, 0 ≤ a x ∧ a x < dimOf ts x) : ∀ i, i ≤ ss.length → (∀ j, j < i → runFit k p n ts op ss j) →
    sumO (smL hr hR) (dimOf ts) (remL ts op ss 0) (prodV hr hR ts) a = sumO (smL hr hR) (dimOf ts) (remL ts op ss i) (prodV hr hR (outTo k p n ts op ss i)) a
  | 0, _, _ => by rw [out_zero]
  | i + 1, hi, hf => by
    rw [run_sum h ha i (by omega) fun j hj => hf j (by omega)]; exact run_sum_step hr hR h (by omega) (run_ok h i (by omega) fun j hj => hf j (by omega)) (hf i (by omega)) ha
end
end Go.Proofs.YtmddmahaikineaaGreat
namespace Go.Proofs.YtmddmahaikineaaGreat
set_option maxRecDepth 100000
open Go.RowKit
section
variable {k p n : Int} (hr : ringL k p n) (hR : RLaw k p n)
theorem val_one (a : Int → Int) : val hr (oneT k p n) a = (smL hr hR).one := by
  have h1 := oneL_in hr; have e : elt (oneT k p n).x (widthI k n) (offL (oneT k p n).d ((oneT k p n).l.map a)) = oneL k p n := by
    show ((oneL k p n).drop ((0 : Int) * widthI k n).toNat).take (widthI k n).toNat = oneL k p n
    rw [Int.zero_mul]
    show (oneL k p n).take (widthI k n).toNat = _
    rw [← h1.1, List.take_length]
  unfold val
  rw [e, toA_eq hr h1]; rfl
variable {ts : List Ten} {op : List Int}
theorem rem_zero (h : netL k p n ts op) (ss : List Stp) : remL ts [] ss 0 = labelsL ts := by
  unfold remL
  refine List.filter_eq_self.2 fun x hx => ?_; rw [decide_eq_true_eq]; refine ⟨by simp, ?_⟩; obtain ⟨t, ht, hxt⟩ := dimOf_mem (ts := ts) (x := x) (by have := (mem_labels.1 hx).2; omega); obtain ⟨m, hm⟩ := List.getElem?_of_mem ht; have hml := (List.getElem?_eq_some_iff.1 hm).1; have e0 : runS ts [] ss 0 = sh0 ts := rfl; refine ⟨m, by rw [e0, sh0_ixs]; simpa using hml, ?_⟩; rw [e0]
  simpa [Sh.lab, sh0, List.getD, hm] using hxt
theorem sum_val {t : Ten} (ht : tensorL k p n t.l t.d t.x) (a : Int → Int) : val hr (sumR k p n t []) a = sumO (smL hr hR) (dimJ t (oneT k p n)) (joinI t.l []) (val hr t) a := by
  have hp := sum_pair ht []; have hok := pair_ok hp.1 hp.2.1 hp.2.2.1 hp.2.2.2.1; have hkk := keep_ok hok hp.2.2.2.2; have hk0 : keepL t (oneT k p n) [] = [] := by unfold keepL; simp
  rw [hk0] at hkk; rw [sumR, if_pos ht, hk0, pair_val hr hR hok hkk (fun x hx => by simp at hx)]; have e1 : (joinI t.l (oneT k p n).l).filter (fun x => decide (x ∉ ([] : List Int))) = joinI t.l [] := List.filter_eq_self.2 fun x _ => by simp
  rw [e1]; exact sumO_congr _ _ fun b _ _ => by rw [val_one hr hR, (smL hr hR).mulC, (smL hr hR).mul1]
/-- A network's total is the sum over all labels of the product of its tensors. -/
theorem tot_sum (h : totP k p n ts op) (a : Int → Int) : toA hr (totX k p n ts op) = sumO (smL hr hR) (dimOf ts) (labelsL ts) (prodV hr hR ts) a := by
  obtain ⟨hnet, ho, hf⟩ := h; rw [totX_yes ⟨hnet, ho, hf⟩]
  by_cases h0 : ts.length = 0
  · have e := List.eq_nil_of_length_eq_zero h0; subst e; have el : labelsL ([] : List Ten) = [] := List.eq_nil_iff_forall_not_mem.2 fun x hx => by
      have := (mem_labels.1 hx).2
      simp [dimOf] at this
    rw [el, conT, if_pos (show ([] : List Ten).length = 0 from rfl)]
    show toA hr (oneL k p n) = (smL hr hR).one
    rw [toA_eq hr (oneL_in hr)]; rfl
  · obtain ⟨hfin, hout⟩ := conP.last ⟨ho, hf⟩ h0; have hrun := run_sum hr hR ho (a := a) (fun x hx => by simp at hx) (plainL ts.length).length (Nat.le_refl _) hf; rw [rem_zero hnet, hout] at hrun; rw [hrun, conT, if_neg h0]; have ht := hfin.2.1; have r := run_ok ho (plainL ts.length).length (Nat.le_refl _) hf; have hl := run_left ho (fun e => h0 (by rw [e]; rfl)); have hg := r.get (j := ts.length + (plainL ts.length).length - 1) (by omega); obtain ⟨s1, s2, s3⟩ := sum_ten ht []; have hk0 : keepL (lastT k p n ts [] (plainL ts.length)) (oneT k p n) [] = [] := by unfold keepL; simp
    rw [hk0] at s2 s3; have ex : (finT k p n (lastT k p n ts [] (plainL ts.length)) []).x = elt (sumR k p n (lastT k p n ts [] (plainL ts.length)) []).x (widthI k n) 0 := by
      show ((List.range 1).flatMap fun (i : Nat) => elt (sumR k p n (lastT k p n ts [] (plainL ts.length)) []).x (widthI k n) (offL (sumR k p n (lastT k p n ts [] (plainL ts.length)) []).d (idxAt [] (idxL [] i) (sumR k p n (lastT k p n ts [] (plainL ts.length)) []).l))) = _
      rw [s2, s3]
      simp [offL]
    have ev := sum_val hr hR ht a; have ev2 : val hr (sumR k p n (lastT k p n ts [] (plainL ts.length)) []) a = toA hr (elt (sumR k p n (lastT k p n ts [] (plainL ts.length)) []).x (widthI k n) 0) := by
      unfold val
      rw [s2, s3]; rfl
    rw [ex, ← ev2, ev]; have hnd := axes_nodup (ten_axes ht); have hperm : (joinI (lastT k p n ts [] (plainL ts.length)).l []).Perm (remL ts [] (plainL ts.length) (plainL ts.length).length) := by
      refine (List.perm_ext_iff_of_nodup (joinI_nodup hnd List.nodup_nil) (rem_nodup _ _ _ _)).2 fun x => ?_; rw [mem_joinI, mem_rem, hl]
      constructor
      · rintro (hx | hx)
        · have hx' : x ∈ (runS ts [] (plainL ts.length) (plainL ts.length).length).lab (ts.length + (plainL ts.length).length - 1) := by rw [← hg.2.1]; exact hx
          exact ⟨r.labs (by omega) hx', by simp, _, List.mem_singleton.2 rfl, hx'⟩
        · simp at hx
      · rintro ⟨_, _, j, hj, hx⟩; rw [List.mem_singleton.1 hj, ← hg.2.1] at hx; exact .inl hx
    rw [sumO_dim (f := dimJ (lastT k p n ts [] (plainL ts.length)) (oneT k p n)) (g := dimOf ts) (xs := joinI (lastT k p n ts [] (plainL ts.length)).l []) (fun x hx => dimJ_f (t := lastT k p n ts [] (plainL ts.length)) (u := oneT k p n) (f := dimOf ts) hg.2.2 rfl hx), sumO_perm _ _ hperm]; refine sumO_congr _ _ fun b _ _ => ?_
    show _ = (smL hr hR).mul _ (smL hr hR).one
    rw [(smL hr hR).mulC, (smL hr hR).mul1]
end
end Go.Proofs.YtmddmahaikineaaGreat
namespace Go.Proofs.YtmddmahaikineaaGreat
set_option maxRecDepth 100000
open Go.RowKit
theorem idx_off : ∀ {ds is : List Int}, (∀ d ∈ ds, 1 ≤ d) → idxIn ds is → idxL ds (offL ds is) = is
  | [], [], _, _ => rfl
  | [], i :: is, _, h => by have := h.1; simp at this
  | d :: ds, [], _, h => by have := h.1; simp at this
  | d :: ds, i :: is, hd, hi => by
    have hd' : ∀ x ∈ ds, 1 ≤ x := fun x hx => hd x (by simp [hx]); have tl : idxIn ds is := ⟨by have := hi.1; simpa using this, fun q hq => by
      have := hi.2 (q + 1) (by simp; omega)
      simpa using this⟩
    have hd0 := hi.2 0 (by simp); simp only [List.getD_cons_zero] at hd0; have ho := offL_in hd' tl; have hP := prodI_one hd'
    show idxL (d :: ds) (i * prodI ds + offL ds is) = _
    rw [idxL_cons, idxL_shift hd', idx_off hd' tl]
    congr 1
    rw [Int.add_comm, Int.add_mul_ediv_right _ _ (by omega), Int.ediv_eq_zero_of_lt (by omega) (by omega), Int.zero_add]; exact Int.emod_eq_of_lt hd0.1 hd0.2
theorem ins_map {x v : Int} {a : Int → Int} : ∀ {l : List Int} {j : Nat}, l.Nodup → j < l.length → l.getD j 0 = x → ((l.eraseIdx j).map a).insertIdx j v = l.map (upd a x v)
  | [], j, _, h, _ => by simp at h
  | y :: l, 0, hn, _, hx => by
    obtain ⟨hy, _⟩ := List.nodup_cons.1 hn; simp only [List.getD_cons_zero] at hx; subst hx; rw [List.eraseIdx_zero, List.tail_cons, List.insertIdx_zero, List.map_cons, upd_at]
    congr 1
    exact List.map_congr_left fun z hz => (upd_ne fun e => hy (by rw [← e]; exact hz)).symm
  | y :: l, j + 1, hn, hj, hx => by
    obtain ⟨hy, hn'⟩ := List.nodup_cons.1 hn; have hj' : j < l.length := by simpa using hj
    rw [List.getD_cons_succ] at hx; have hxl : x ∈ l := by rw [← hx]; exact mem_getD hj'
    rw [List.eraseIdx_cons_succ, List.map_cons, List.insertIdx_succ_cons, List.map_cons, ins_map hn' hj' hx, upd_ne (fun e => hy (by rw [e]; exact hxl))]
section
variable {k p n : Int} (hr : ringL k p n) (hR : RLaw k p n)
theorem val_fix {t : Ten} {x v : Int} {f a : Int → Int} (ht : tensorL k p n t.l t.d t.x) (hd : t.d = t.l.map f) (hv : 0 ≤ v ∧ v < f x) (ha : ∀ y ∈ t.l, y ≠ x → 0 ≤ a y ∧ a y < f y) : val hr (fix1 k n t x v) a = val hr t (upd a x v) := by
  by_cases hx : x ∈ t.l
  · have ok := sl_ok ht hd hx hv; have hj := sl_j ht hx; have hn := axes_nodup (ten_axes ht); have hd1 : ∀ d ∈ t.d, 1 ≤ d := fun d hd => (dims_mem (axes_dims (ten_axes ht)) d hd).1; have hd2 : ∀ d ∈ t.d.eraseIdx (slJ t x), 1 ≤ d := erase_mem hd1; have hw := width_range ht.1; have hidx : idxIn (t.d.eraseIdx (slJ t x)) ((t.l.eraseIdx (slJ t x)).map a) := by
      have e : t.d.eraseIdx (slJ t x) = (t.l.eraseIdx (slJ t x)).map f := by rw [map_erase, ← hd]
      rw [e]; refine idx_map fun y hy => ?_; have := (mem_erase hn hx).1 hy; exact ha y this.1 this.2
    have ho := offL_in hd2 hidx; have hpo := prodI_one hd2; rw [show fix1 k n t x v = slT k n t x v from if_pos hx]; have e1 : elt (slT k n t x v).x (widthI k n) (offL (t.d.eraseIdx (slJ t x)) ((t.l.eraseIdx (slJ t x)).map a)) = elt t.x (widthI k n) (offL t.d (t.l.map (upd a x v))) := by
      show elt (slX (widthI k n) t (slJ t x) v (prodI t.d).toNat) (widthI k n) _ = _
      rw [ok.eq, slY]; obtain ⟨m, hm⟩ : ∃ m : Nat, offL (t.d.eraseIdx (slJ t x)) ((t.l.eraseIdx (slJ t x)).map a) = m := ⟨_, (Int.toNat_of_nonneg ho.1).symm⟩
      have hel : ∀ q ∈ (List.range (prodI (t.d.eraseIdx (slJ t x))).toNat).map (slAt t.d (slJ t x) v), (elt t.x (widthI k n) ((q : Nat) : Int)).length = (widthI k n).toNat := fun q hq => by
        obtain ⟨q', _, rfl⟩ := List.mem_map.1 hq; exact (ok.el q').1
      have := elt_flat hel (i := m) (by simp; omega); rw [show (((widthI k n).toNat : Nat) : Int) = widthI k n by omega] at this; rw [hm, this]
      congr 1
      rw [List.getElem_map, List.getElem_range]
      show (((offL t.d ((idxL (t.d.eraseIdx (slJ t x)) (m : Int)).insertIdx (slJ t x) v)).toNat : Nat) : Int) = _
      have hin := sl_in hd1 hj.2.1 ok.val (m : Int); rw [Int.toNat_of_nonneg hin.1, ← hm, idx_off hd2 hidx, ins_map hn hj.1 hj.2.2]
    show toA hr (elt (slT k n t x v).x (widthI k n) (offL (t.d.eraseIdx (slJ t x)) ((t.l.eraseIdx (slJ t x)).map a))) = _
    rw [e1]; rfl
  · rw [show fix1 k n t x v = t from if_neg hx, val_upd hr hx]
theorem sumO_upd {A : Type} {R : Sm A} {f : Int → Int} {F : (Int → Int) → A} {x v : Int} : ∀ {xs : List Int} {a : Int → Int}, x ∉ xs → sumO R f xs (fun b => F (upd b x v)) a = sumO R f xs F (upd a x v)
  | [], _, _ => rfl
  | y :: xs, a, h => by
    have hne : x ≠ y := fun e => h (by rw [e]; simp); rw [sumO, sumO]; refine sumN_congr R fun w _ => ?_; rw [sumO_upd fun e => h (by simp [e]), upd_swap a hne.symm]
variable {ts : List Ten} {op op' : List Int} {x : Int}
theorem sl_labels (h : netL k p n ts op) (hx : x ∈ labelsL ts) {v : Int} (hv : 0 ≤ v ∧ v < dimOf ts x) : (labelsL ts).Perm (x :: labelsL (ts.map fun t => fix1 k n t x v)) := by
  have hno : x ∉ labelsL (ts.map fun t => fix1 k n t x v) := fun e => by
    obtain ⟨t, ht, hxt⟩ := dimOf_mem (by have := (mem_labels.1 e).2; omega : dimOf (ts.map fun t => fix1 k n t x v) x ≠ 0); obtain ⟨u, hu, rfl⟩ := List.mem_map.1 ht; have := (fix1_mem (h.2.2.1 u hu)).1 hxt; exact this.2 this.1 rfl
  refine (List.perm_ext_iff_of_nodup (labL_nodup ts) (List.nodup_cons.2 ⟨hno, labL_nodup _⟩)).2 fun y => ?_; rw [List.mem_cons]
  constructor
  · intro hy
    by_cases c : y = x
    · exact .inl c
    · have hm := mem_labels.1 hy; exact .inr (mem_labels.2 ⟨hm.1, by rw [fix1_dim h hv c]; exact hm.2⟩)
  · rintro (e | hy)
    · rw [e]; exact hx
    · have hne : y ≠ x := fun e => by subst e; exact hno hy
      have hm := mem_labels.1 hy; rw [fix1_dim h hv hne] at hm; exact mem_labels.2 hm
theorem tot_slice (h : netL k p n ts op) (hx : x ∈ labelsL ts) {v : Int} (hv : 0 ≤ v ∧ v < dimOf ts x) (ht : totP k p n (ts.map fun t => fix1 k n t x v) op') (a : Int → Int) :
    toA hr (totX k p n (ts.map fun t => fix1 k n t x v) op') = sumO (smL hr hR) (dimOf ts) (labelsL (ts.map fun t => fix1 k n t x v)) (prodV hr hR ts) (upd a x v) := by
  have hperm := sl_labels h hx hv; have hnd := (List.nodup_cons.1 (hperm.nodup_iff.1 (labL_nodup ts))).1; have hdm := net_dmap h; rw [tot_sum hr hR ht a, ← sumO_upd hnd]; have hne : ∀ y ∈ labelsL (ts.map fun t => fix1 k n t x v), y ≠ x := fun y hy e => by subst e; exact hnd hy
  rw [sumO_dim (g := dimOf ts) fun y hy => fix1_dim h hv (hne y hy)]; refine sumO_congr _ _ fun b _ hb => ?_; have hall : ∀ t ∈ ts, ∀ y ∈ t.l, y ≠ x → 0 ≤ b y ∧ b y < dimOf ts y := fun t htm y hy hyx => by
    have hyl : y ∈ labelsL ts := by
      have hg := findI_get hy; have ha := (ten_axes (h.2.2.1 t htm)).2.2 _ hg.1
      unfold axP at ha
      rw [hg.2] at ha; have e : t.d.getD (findI t.l y).toNat 0 = dimOf ts y := by
        conv => lhs; rw [hdm t htm]
        rw [map_getD hg.1, hg.2]
      rw [e] at ha; exact mem_labels.2 ⟨by omega, by omega⟩
    exact hb y ((List.mem_cons.1 (hperm.mem_iff.1 hyl)).resolve_left hyx)
  have hsub : ∀ l : List Ten, (∀ t ∈ l, t ∈ ts) → prodV hr hR (l.map fun t => fix1 k n t x v) b = prodV hr hR l (upd b x v) := fun l => by
    induction l with
    | nil => intro _; rfl
    | cons t l ih =>
      intro hl; have htm := hl t (by simp); rw [List.map_cons, prodV_cons, prodV_cons, ih fun u hu => hl u (by simp [hu]), val_fix hr (h.2.2.1 t htm) (hdm t htm) hv fun y hy hyx => hall t htm y hy hyx]
  exact hsub ts fun _ h => h
/-- A total is the sum of the totals of the slices at a label. -/
theorem tot_split (h : totP k p n ts op) (hx : x ∈ labelsL ts) (hs : ∀ v : Nat, (v : Int) < dimOf ts x → totP k p n (ts.map fun t => fix1 k n t x v) op') :
    toA hr (totX k p n ts op) = sumN (smL hr hR) (fun (v : Nat) => toA hr (totX k p n (ts.map fun t => fix1 k n t x v) op')) (dimOf ts x).toNat := by
  have hd := (mem_labels.1 hx).2; have a0 : Int → Int := fun _ => 0; have hperm := sl_labels h.1 hx (v := 0) ⟨Int.le_refl 0, hd⟩; rw [tot_sum hr hR h a0, sumO_perm _ _ hperm, sumO]; refine sumN_congr _ fun v hv => ?_; rw [tot_slice hr hR h.1 hx ⟨by omega, by omega⟩ (hs v (by omega)) a0]; have h2 := sl_labels h.1 hx (v := (v : Int)) ⟨by omega, by omega⟩; exact sumO_perm _ _ (hperm.symm.trans h2).cons_inv _
end
end Go.Proofs.YtmddmahaikineaaGreat
namespace Go.Proofs.YtmddmahaikineaaGreat
set_option maxRecDepth 100000
open Go.RowKit
abbrev neQ (x : Int) : Int → Bool := fun y => decide (y ≠ x)
theorem joinI_cut (x : Int) (a b : List Int) : joinI (a.filter (neQ x)) (b.filter (neQ x)) = (joinI a b).filter (neQ x) := by
  unfold joinI
  rw [List.filter_append, List.filter_filter, List.filter_filter]
  congr 1
  refine List.filter_congr fun y _ => ?_; rw [Bool.eq_iff_iff]; simp only [Bool.and_eq_true, decide_eq_true_eq, List.mem_filter]
  constructor
  · rintro ⟨h1, h2⟩; exact ⟨h2, fun e => h1 ⟨e, h2⟩⟩
  · rintro ⟨h1, h2⟩; exact ⟨fun e => h2 e.1, h1⟩
def Sh.cut (x : Int) (s : Sh) : Sh := ⟨s.all.map (fun l => l.filter (neQ x)), s.gone⟩
theorem cut_lab (x : Int) (s : Sh) (i : Nat) : (s.cut x).lab i = (s.lab i).filter (neQ x) := by
  unfold Sh.lab Sh.cut
  simp only [List.getD, List.getElem?_map]
  cases s.all[i]? <;> simp
theorem cut_ixs (x : Int) (s : Sh) : (s.cut x).ixs = s.ixs := by
  unfold Sh.ixs Sh.cut
  rw [List.length_map]
theorem cut_res (x : Int) (s : Sh) (a b : Nat) : (s.cut x).res [] a b = (s.res [] a b).filter (neQ x) := by
  unfold Sh.res
  rw [cut_lab, cut_lab, joinI_cut, List.filter_filter, List.filter_filter]; refine List.filter_congr fun y _ => ?_; rw [Bool.eq_iff_iff]; simp only [Bool.and_eq_true, decide_eq_true_eq]
  unfold Sh.kept
  rw [cut_ixs]; simp only [cut_lab, List.mem_filter, decide_eq_true_eq]
  constructor
  · rintro ⟨h1 | ⟨i, hi, h2, h3, h4, _⟩, h5⟩
    · simp at h1
    · exact ⟨h5, .inr ⟨i, hi, h2, h3, h4⟩⟩
  · rintro ⟨h5, h1 | ⟨i, hi, h2, h3, h4⟩⟩
    · simp at h1
    · exact ⟨.inr ⟨i, hi, h2, h3, h4, h5⟩, h5⟩
theorem cut_step (x : Int) (s : Sh) (a b : Nat) : (s.cut x).step [] a b = (s.step [] a b).cut x := by
  have e := cut_res x s a b
  unfold Sh.step
  rw [e]
  simp [Sh.cut]
theorem cut_shTo (x : Int) : ∀ (ss : List Stp) (s : Sh), shTo [] (s.cut x) ss = (shTo [] s ss).cut x
  | [], _ => rfl
  | y :: ss, s => by
    show shTo [] ((s.cut x).step [] y.a.toNat y.b.toNat) ss = (shTo [] (s.step [] y.a.toNat y.b.toNat) ss).cut x
    rw [cut_step, cut_shTo x ss]
theorem cut_stepOk (x : Int) (s : Sh) (y : Stp) : stepOk (s.cut x) y ↔ stepOk s y := by
  unfold stepOk Sh.live Sh.cut
  simp only [List.length_map]
theorem prod_filter {f : Int → Int} (q : Int → Bool) : ∀ {l : List Int}, (∀ x ∈ l, 1 ≤ f x) → prodI ((l.filter q).map f) ≤ prodI (l.map f) ∧ 1 ≤ prodI ((l.filter q).map f)
  | [], _ => by simp [prodI]
  | x :: l, h => by
    have ih := prod_filter q (l := l) fun y hy => h y (by simp [hy]); have hx := h x (by simp); rw [List.map_cons, prodI_cons]
    by_cases c : q x = true
    · rw [List.filter_cons_of_pos c, List.map_cons, prodI_cons]; have h1 := Int.mul_le_mul_of_nonneg_left ih.1 (show 0 ≤ f x by omega); have h2 := Int.mul_le_mul_of_nonneg_left ih.2 (show 0 ≤ f x by omega)
      omega
    · rw [List.filter_cons_of_neg c]; have h1 := Int.mul_le_mul_of_nonneg_right hx (show 0 ≤ prodI (l.map f) by omega)
      omega
theorem size_cut {f g : Int → Int} {q : Int → Bool} {K : List Int} (h : 0 ≤ sizeI K (K.map f)) (hfg : ∀ y ∈ K.filter q, g y = f y) : 0 ≤ sizeI (K.filter q) ((K.filter q).map g) := by
  obtain ⟨ha, hp⟩ := sizeI_ge.1 h; have hn := axes_nodup ha; have hat : ∀ y ∈ K, (0 ≤ y ∧ y ≤ 99) ∧ (1 ≤ f y ∧ f y ≤ 8) := fun y hy => by
    obtain ⟨i, hi, e⟩ := getD_of_mem hy; have h1 := ha.2.2 i hi
    unfold axP at h1
    rw [map_getD hi, e] at h1; exact ⟨h1.1, h1.2.1⟩
  have e : (K.filter q).map g = (K.filter q).map f := List.map_congr_left hfg; rw [e]; refine sizeI_ge.2 ⟨⟨?_, by simp, fun j hj => ?_⟩, ?_⟩
  · have := List.length_filter_le q K; have := ha.1
    omega
  · have hm := (List.mem_filter.1 (mem_getD hj)).1; have h1 := hat _ hm
    unfold axP
    rw [map_getD hj]; exact ⟨h1.1, h1.2, nodup_not_take (hn.sublist List.filter_sublist) hj⟩
  · have := (prod_filter (f := f) q (l := K) fun y hy => (hat y hy).2.1).1
    omega
section
variable {k p n : Int} {ts : List Ten} {op : List Int} {x v : Int}
theorem fix1_l {t : Ten} (h : tensorL k p n t.l t.d t.x) : (fix1 k n t x v).l = t.l.filter (neQ x) := by
  unfold fix1
  by_cases hx : x ∈ t.l
  · rw [if_pos hx]
    show t.l.eraseIdx (findI t.l x).toNat = _
    rw [← erase_filter (axes_nodup (ten_axes h)) hx]
  · rw [if_neg hx]; exact (List.filter_eq_self.2 fun y hy => by have hne : y ≠ x := (fun e => hx (by rw [← e]; exact hy)); simpa using hne).symm
theorem sh0_cut (h : netL k p n ts op) : sh0 (ts.map fun t => fix1 k n t x v) = (sh0 ts).cut x := by
  unfold sh0 Sh.cut
  rw [List.map_map, List.map_map, List.length_map]
  congr 1
  exact List.map_congr_left fun t ht => fix1_l (h.2.2.1 t ht)
theorem run_cut (h : netL k p n ts op) (ss : List Stp) (i : Nat) : runS (ts.map fun t => fix1 k n t x v) [] ss i = (runS ts [] ss i).cut x := by
  unfold runS
  rw [sh0_cut h, cut_shTo]
theorem order_cut {ss : List Stp} (h : orderL k p n ts [] ss) (hv : 0 ≤ v ∧ v < dimOf ts x) : orderL k p n (ts.map fun t => fix1 k n t x v) [] ss := by
  refine ⟨by simpa using fix1_net h.1 hv, by rw [List.length_map]; exact h.2.1, fun i hi y hy => ?_⟩; rw [sh0_cut h.1, cut_shTo, cut_stepOk]; exact h.2.2 i hi y hy
theorem fit_cut {ss : List Stp} (h : orderL k p n ts [] ss) (hv : 0 ≤ v ∧ v < dimOf ts x) (hf : ∀ j, j < ss.length → runFit k p n ts [] ss j) : ∀ i, i ≤ ss.length → ∀ j, j < i → runFit k p n (ts.map fun t => fix1 k n t x v) [] ss j
  | 0, _, j, hj => by omega
  | i + 1, hi, j, hj => by
    have ih := fit_cut h hv hf i (by omega)
    by_cases c : j < i
    · exact ih j c
    · have e : j = i := by omega
      subst e; have h' := order_cut h hv; have r := run_ok h j (by omega) fun q hq => hf q (by omega); have r' := run_ok h' j (by omega) ih; obtain ⟨⟨ta, la, da⟩, ⟨tb, lb, db⟩⟩ := r.two h (by omega); obtain ⟨⟨ta', la', da'⟩, ⟨tb', lb', db'⟩⟩ := r'.two h' (by omega); have hk := r.kept h (by omega); have hk' := r'.kept h' (by omega); have hfj := (pairP_iff ta tb da db).1 (hf j (by omega)); rw [hk] at hfj; have hcut := run_cut (x := x) (v := v) h.1 ss j; have hJ : joinI (runA k p n (ts.map fun t => fix1 k n t x v) [] ss j).l (runB k p n (ts.map fun t => fix1 k n t x v) [] ss j).l = (joinI (runA k p n ts [] ss j).l (runB k p n ts [] ss j).l).filter (neQ x) := by
        rw [la', lb', hcut, cut_lab, cut_lab, joinI_cut, la, lb]
      have hK : runK (ts.map fun t => fix1 k n t x v) [] ss j = (runK ts [] ss j).filter (neQ x) := by
        unfold runK
        rw [hcut, cut_res]
      have hne : ∀ {l : List Int}, ∀ y ∈ l.filter (neQ x), dimOf (ts.map fun t => fix1 k n t x v) y = dimOf ts y := fun y hy => fix1_dim h.1 hv (by simpa using (List.mem_filter.1 hy).2); refine (pairP_iff ta' tb' da' db').2 ?_; rw [hk', hK, hJ]; refine ⟨?_, size_cut hfj.2 hne⟩; rw [List.map_congr_left (f := dimOf (ts.map fun t => fix1 k n t x v)) (g := dimOf ts) hne]; have := (prod_filter (f := dimOf ts) (neQ x) (l := joinI (runA k p n ts [] ss j).l (runB k p n ts [] ss j).l) fun y hy => by
        rcases mem_joinI.1 hy with hy | hy
        · exact (dims_mem (axes_dims (ten_axes ta)) _ (by rw [da]; exact List.mem_map_of_mem hy)).1
        · exact (dims_mem (axes_dims (ten_axes tb)) _ (by rw [db]; exact List.mem_map_of_mem hy)).1).1
      exact Int.le_trans this hfj.1
theorem tot_cut {op' : List Int} (h : totP k p n ts op) (hv : 0 ≤ v ∧ v < dimOf ts x) (hn : netL k p n (ts.map fun t => fix1 k n t x v) op') : totP k p n (ts.map fun t => fix1 k n t x v) op' := by
  refine ⟨hn, ?_⟩; rw [List.length_map]; exact ⟨order_cut h.2.1 hv, fit_cut h.2.1 hv h.2.2 _ (Nat.le_refl _)⟩
end
end Go.Proofs.YtmddmahaikineaaGreat
namespace Go.Proofs.YtmddmahaikineaaGreat
set_option maxRecDepth 100000
open Go.RowKit
theorem ct_i_withoutInt (ls : List Int) (x : Int) (v : Value) (w : World) (r : IntsR ls v (hp w)) (hs : ls.length ≤ 1048576) :
    Calls Tryz.prog 81 [v, num x].toArray w (Ret w emp (IntsO (ls.filter fun y => decide (y ≠ x)))) := by
  refine calls_in Tryz.func81 rfl Tryz.ntmps81 rfl (Sat.start w) ?_; have hle0 := r.le; refine wp_sc (wp_sq (sq_v rfl (v_assign rfl) rfl (sq_end (qs_n (wp_sc (wp_sq (sq_v rfl (v_assign rfl) rfl (sq_end (qs_n (wp_sc (wp_sc (wp_sq (sq_v rfl (v_move rfl) rfl (sq_v rfl (v_len Tryz.underlying25 rfl r.sl) rfl (sq_v rfl (v_move rfl) rfl (sq_end (qs_n (wp_bl ?_)))))))))))))))))); refine wp_lp (σ := Nat × Value × PH) (fun z_ => [(1, num x), (4, .slice none 0 0), (5, z_.2.1), (8, v), (9, num ls.length), (10, num z_.1)]) (fun z_ => [z_.2.2, hp w]) (fun z_ => z_.1 ≤ ls.length ∧ IntsO ((ls.take z_.1).filter fun y => decide (y ≠ x)) z_.2.1 z_.2.2) (fun z_ => ls.length - z_.1) (0, .slice none 0 0, emp) (⟨by (try dsimp only); omega, IntsO.nil⟩) ⟨rfl, rfl, rfl, rfl, rfl, rfl, trivial⟩ (fun _ s => (emp_sat s)) ?_; rintro ⟨i, lv, lh⟩ ⟨hi, q⟩; dsimp only at hi q ⊢; have hle_q := q.toR.le; have hfl := filter_take_len ls (fun y => decide (y ≠ x)) i; refine wp_sc (wp_sq (sq_v rfl (v_lss rfl rfl) rfl (sq_end (qs_n (wp_sc ?_))))); refine wp_cd rfl (fun c11 => ?_) (fun c11 => ?_)
  · refine wp_sk (qs_n (wp_sc (wp_bl (wp_sc (wp_sq (sq_v rfl (v_idxI Tryz.underlying25 ty_3 rfl rfl r (by omega) (by omega)) rfl (sq_v rfl (v_loadI (k := i) 1 ty_3 rfl rfl r (by omega)) rfl (sq_v rfl (v_assign rfl) rfl (sq_end (qs_n (wp_sc (wp_sq (sq_v rfl (v_move rfl) rfl (sq_v rfl (v_move rfl) rfl (sq_v rfl (v_neq rfl rfl) rfl (sq_end (qs_n ?_))))))))))))))))); refine wp_cd rfl (fun c16 => ?_) (fun c16 => ?_)
    · refine wp_sq (sq_v rfl (v_move rfl) rfl (sq_v rfl (v_move rfl) rfl ?_)); refine sq_x rfl (x_buildS [num (ls.getD i 0)] Tryz.underlying25 ty_3 (by decide) rfl rfl rfl (by decide) (by decide) (by intro v hv; simp at hv; rcases hv with rfl <;> rfl)) rfl ?_; intro v19 h19 (r19 : IntsO [ls.getD i 0] v19 h19); refine sq_m 1 rfl rfl (m_appI 1 0 Tryz.underlying25 ty_3 rfl rfl rfl rfl q rfl r19.toR (by first | omega | (simp; omega) | (simp only [List.length_append, List.length_cons, List.length_nil]; omega))) rfl ?_; intro v20 h_r20 r20; refine sq_v rfl (v_assign rfl) rfl (sq_end (qs_bn (qs_n (wp_sq ?_)))); refine sq_v rfl (v_add rfl rfl ((by unfold I64; omega))) rfl ?_; refine sq_v rfl (v_move rfl) rfl (sq_end ?_); exact qs_bk (i + 1, v20, h_r20) ⟨by (try dsimp only); omega, by (try dsimp only); rw [filter_yes (by omega) (decide_eq_true (by omega))]; exact r20⟩ (by simp only; omega) ⟨rfl, rfl, rfl, rfl, rfl, rfl, trivial⟩ (fun _ s => s.pick [1, 2] (by decide) rfl)
    · refine wp_sk (qs_bn (qs_n (wp_sq ?_))); refine sq_v rfl (v_add rfl rfl ((by unfold I64; omega))) rfl ?_; refine sq_v rfl (v_move rfl) rfl (sq_end ?_); exact qs_bk (i + 1, lv, lh) ⟨by (try dsimp only); omega, by (try dsimp only); rw [filter_no (by omega) (decide_eq_false (by omega))]; exact q⟩ (by simp only; omega) ⟨rfl, rfl, rfl, rfl, rfl, rfl, trivial⟩ (fun _ s => s)
  · refine wp_ex (qs_x (qs_x (qs_bx (qs_n (wp_sc (wp_sq (sq_v rfl (v_move rfl) rfl (sq_v rfl (v_assign rfl) rfl (sq_end (qs_n (wp_rt ?_))))))))))); exact qs_ret1 rfl rfl (fin_t 0 (i := 1) rfl rfl rfl (by rw [List.take_of_length_le (by omega)] at q; exact q))
set_option maxHeartbeats 4000000 in
theorem ct_s_l09Slice (k p n x v : Int) (t : Ten) (a b c : Value) (w : World) (r1 : IntsR t.l a (hp w)) (r2 : IntsR t.d b (hp w)) (r3 : IntsR t.x c (hp w)) (ht : tensorL k p n t.l t.d t.x) (hx : x ∈ t.l) :
    Calls Tryz.prog 226 [ringV k p n, tenV a b c, num x, num v].toArray w (Ret w emp (TenT (slT k n t x v))) := by
  have hring := ht.1; have hlen := ten_len ht; have hax := ten_axes ht; have hd := axes_dims hax; have hpr := ten_prod ht; have hp1 := prodI_one fun d hd' => (dims_mem hd d hd').1; have hj := sl_j ht hx; have hj0 := findI_ge.2 hx; have hw := width_range hring; have hal := hax.2.1; have hjf : ((slJ t x : Nat) : Int) = findI t.l x := by unfold slJ; omega
  have hjt : (findI t.l x).toNat = slJ t x := rfl; refine calls_in Tryz.func226 rfl Tryz.ntmps226 rfl (Sat.start w) ?_; have hle0 := r1.le; have hle1 := r2.le; have hle2 := r3.le; refine wp_sc (wp_sq ?_); refine sq_x rfl (x_box rfl rfl) rfl ?_; rintro _ _ ⟨b4, rfl, rfl⟩; refine sq_x rfl (x_box rfl rfl) rfl ?_; rintro _ _ ⟨b5, rfl, rfl⟩; refine sq_x rfl (x_alloc ty_39 rfl) rfl ?_; rintro _ _ ⟨b8, rfl, rfl⟩; refine sq_end (qs_n (wp_sc (wp_sq (sq_v rfl (v_build [.slice none 0 0, .slice none 0 0, .slice none 0 0] rfl (by kernel_rfl)) rfl ?_)))); refine sq_x rfl (x_alloc ty_39 rfl) rfl ?_; rintro _ _ ⟨b9, rfl, rfl⟩; refine sq_m 0 rfl rfl (m_store 0 ty_39 rfl rfl rfl rfl (by simp [one_sl]) rfl (Nat.le_of_ble_eq_true rfl)) rfl ?_; rintro _ _ ⟨rfl, rfl⟩; refine sq_end (qs_n (wp_sc (wp_sq (sq_v rfl (v_fieldAddr fd_39_0 ty_25 (by decide) rfl) rfl (sq_v rfl (v_loadB 2 ty_25 rfl rfl rfl) rfl (sq_v rfl (v_move rfl) rfl (sq_u rfl (x_callv rfl en_71 (fun w s => ct_s_l05Find _ _ _ w (r1.mono (s.get 4 rfl)))) rfl (sq_v rfl (v_assign rfl) rfl (sq_end (qs_n (wp_sc (wp_sc (wp_sq (sq_v rfl (v_fieldAddr fd_39_0 ty_25 (by decide) rfl) rfl (sq_v rfl (v_loadB 2 ty_25 rfl rfl rfl) rfl (sq_v rfl (v_len Tryz.underlying25 rfl r1.sl) rfl (sq_v rfl (v_move rfl) rfl (sq_end (qs_n (wp_bl ?_)))))))))))))))))))); refine wp_lp (σ := Nat × Value × PH × Value × PH) (fun z_ => [(3, num v), (4, .pointer (some ⟨b4, 0, none⟩)), (5, .pointer (some ⟨b5, 0, none⟩)), (8, .pointer (some ⟨b8, 0, none⟩)), (9, .pointer (some ⟨b9, 0, none⟩)), (10, num (findI t.l x)), (20, a), (21, num t.l.length), (22, num z_.1)]) (fun z_ => [z_.2.2.1, z_.2.2.2.2, box b9 [z_.2.1, z_.2.2.2.1, .slice none 0 0] 39, box b8 [.slice none 0 0, .slice none 0 0, .slice none 0 0] 39, box b5 [a, b, c] 39, box b4 [num k, num p, num n] 29, hp w]) (fun z_ => z_.1 ≤ t.l.length ∧ IntsO ((t.l.take z_.1).eraseIdx (slJ t x)) z_.2.1 z_.2.2.1 ∧ IntsO ((t.d.take z_.1).eraseIdx (slJ t x)) z_.2.2.2.1 z_.2.2.2.2) (fun z_ => t.l.length - z_.1) (0, .slice none 0 0, emp, .slice none 0 0, emp) (⟨by (try dsimp only); omega, by (try dsimp only); simpa using IntsO.nil, by (try dsimp only); simpa using IntsO.nil⟩) ⟨rfl, rfl, rfl, rfl, rfl, rfl, rfl, rfl, rfl, trivial⟩ (fun _ s => (emp_sat (emp_sat s))) ?_; rintro ⟨i, v1, h1, v2, h2⟩ ⟨hi, q1, q2⟩; dsimp only at hi q1 q2 ⊢; have hle_q1 := q1.toR.le; have hle_q2 := q2.toR.le; have hl1 : ((t.l.take i).eraseIdx (slJ t x)).length ≤ 12 := by have := (List.eraseIdx_sublist (t.l.take i) (slJ t x)).length_le; rw [List.length_take] at this; omega
  have hl2 : ((t.d.take i).eraseIdx (slJ t x)).length ≤ 12 := by have := (List.eraseIdx_sublist (t.d.take i) (slJ t x)).length_le; rw [List.length_take] at this; omega
  refine wp_sc (wp_sq (sq_v rfl (v_lss rfl rfl) rfl (sq_end (qs_n (wp_sc ?_))))); refine wp_cd rfl (fun c23 => ?_) (fun c23 => ?_)
  · refine wp_sk (qs_n (wp_sc (wp_bl (wp_sc (wp_sq (sq_v rfl (v_move rfl) rfl (sq_v rfl (v_idxI Tryz.underlying25 ty_3 rfl rfl r1 (by omega) (by omega)) rfl (sq_v rfl (v_loadI (k := i) 6 ty_3 rfl rfl r1 (by omega)) rfl (sq_v rfl (v_assign rfl) rfl (sq_v rfl (v_assign rfl) rfl (sq_end (qs_n (wp_sc (wp_sq (sq_v rfl (v_move rfl) rfl (sq_v rfl (v_move rfl) rfl (sq_v rfl (v_neq rfl rfl) rfl (sq_end (qs_n ?_))))))))))))))))))); refine wp_cd rfl (fun c29 => ?_) (fun c29 => ?_)
    · refine wp_sc (wp_sq (sq_v rfl (v_fieldAddr fd_39_0 ty_25 (by decide) rfl) rfl (sq_v rfl (v_loadB 2 ty_25 rfl rfl rfl) rfl (sq_v rfl (v_move rfl) rfl ?_)))); refine sq_x rfl (x_buildS [num (t.l.getD i 0)] Tryz.underlying25 ty_3 (by decide) rfl rfl rfl (by decide) (by decide) (by intro v hv; simp at hv; rcases hv with rfl <;> rfl)) rfl ?_; intro v33 h33 (r33 : IntsO [t.l.getD i 0] v33 h33); refine sq_m 1 rfl rfl (m_appI 1 0 Tryz.underlying25 ty_3 rfl rfl rfl rfl q1 rfl r33.toR (by first | omega | (simp; omega) | (simp only [List.length_append, List.length_cons, List.length_nil]; omega))) rfl ?_; intro v34 h_r34 r34; refine sq_v rfl (v_fieldAddr fd_39_0 ty_25 (by decide) rfl) rfl ?_; refine sq_m 3 rfl rfl (m_store1 3 ty_25 rfl rfl r34.toR.sl.one rfl (Nat.le_of_ble_eq_true rfl)) rfl ?_; rintro _ _ ⟨rfl, rfl⟩; refine sq_end (qs_n (wp_rj 8 [(0, true), (1, true), (2, true), (3, true), (4, true), (5, true), (6, true), (7, false), (8, false), (9, false), (10, false)] mixed_ok (by kernel_rfl) (rj_v rfl rfl (v_fieldAddr fd_39_1 ty_25 (by decide) rfl) rfl (rj_v rfl rfl (v_loadB 3 ty_25 rfl rfl rfl) rfl (rj_v rfl rfl (v_fieldAddr fd_39_1 ty_25 (by decide) rfl) rfl (rj_v rfl rfl (v_loadB 5 ty_25 rfl rfl rfl) rfl (rj_v rfl rfl (v_move rfl) rfl (rj_v rfl rfl (v_idxI Tryz.underlying25 ty_3 rfl rfl r2 (by omega) (by omega)) rfl (rj_v rfl rfl (v_loadI (k := i) 7 ty_3 rfl rfl r2 (by omega)) rfl ?_))))))))); refine rj_x rfl rfl (x_buildS [num (t.d.getD i 0)] Tryz.underlying25 ty_3 (by decide) rfl rfl rfl (by decide) (by decide) (by intro v hv; simp at hv; rcases hv with rfl <;> rfl)) rfl ?_; intro v43 h43 (r43 : IntsO [t.d.getD i 0] v43 h43); refine rj_m 3 rfl rfl rfl rfl (m_appI 3 0 Tryz.underlying25 ty_3 rfl rfl rfl rfl q2 rfl r43.toR (by first | omega | (simp; omega) | (simp only [List.length_append, List.length_cons, List.length_nil]; omega))) rfl ?_; intro v44 h_r44 r44; refine rj_fv rfl rfl (v_fieldAddr fd_39_1 ty_25 (by decide) rfl) rfl ?_; refine rj_m 4 rfl rfl rfl rfl (m_store1 4 ty_25 rfl rfl r44.toR.sl.one rfl (Nat.le_of_ble_eq_true rfl)) rfl ?_; rintro _ _ ⟨rfl, rfl⟩; refine rj_end (qs_bn (qs_n (wp_sq ?_))); refine sq_v rfl (v_add rfl rfl ((by unfold I64; omega))) rfl ?_; refine sq_v rfl (v_move rfl) rfl (sq_end ?_); exact qs_bk (i + 1, v34, h_r34, v44, h_r44) ⟨by (try dsimp only); omega, by (try dsimp only); rw [skip_yes (by omega) (by omega)]; exact r34, by (try dsimp only); rw [skip_yes (by omega) (by omega)]; exact r44⟩ (by simp only; omega) ⟨rfl, rfl, rfl, rfl, rfl, rfl, rfl, rfl, rfl, trivial⟩ (fun _ s => s.pick [2, 3, 4, 5, 6, 7, 8] (by decide) rfl)
    · refine wp_sk (qs_bn (qs_n (wp_sq ?_))); refine sq_v rfl (v_add rfl rfl ((by unfold I64; omega))) rfl ?_; refine sq_v rfl (v_move rfl) rfl (sq_end ?_); exact qs_bk (i + 1, v1, h1, v2, h2) ⟨by (try dsimp only); omega, by (try dsimp only); have e : i = slJ t x := (by omega); subst e; rw [skip_no hj.1]; exact q1, by (try dsimp only); have e : i = slJ t x := (by omega); subst e; rw [skip_no hj.2.1]; exact q2⟩ (by simp only; omega) ⟨rfl, rfl, rfl, rfl, rfl, rfl, rfl, rfl, rfl, trivial⟩ (fun _ s => s)
  · refine wp_ex (qs_x (qs_x (qs_bx (qs_n (wp_sc (wp_sc (wp_sq (sq_v rfl (v_assign rfl) rfl (sq_end (qs_n (wp_bl ?_))))))))))); refine wp_lp (σ := Nat × Value × PH) (fun z_ => [(3, num v), (4, .pointer (some ⟨b4, 0, none⟩)), (5, .pointer (some ⟨b5, 0, none⟩)), (8, .pointer (some ⟨b8, 0, none⟩)), (9, .pointer (some ⟨b9, 0, none⟩)), (10, num (findI t.l x)), (13, num z_.1)]) (fun z_ => [z_.2.2, h1, h2, box b9 [v1, v2, z_.2.1] 39, box b8 [.slice none 0 0, .slice none 0 0, .slice none 0 0] 39, box b5 [a, b, c] 39, box b4 [num k, num p, num n] 29, hp w]) (fun z_ => z_.1 ≤ (prodI t.d).toNat ∧ IntsO (slX (widthI k n) t (slJ t x) v z_.1) z_.2.1 z_.2.2) (fun z_ => (prodI t.d).toNat - z_.1) (0, .slice none 0 0, emp) (⟨by (try dsimp only); omega, IntsO.nil⟩) ⟨rfl, rfl, rfl, rfl, rfl, rfl, rfl, trivial⟩ (fun _ s => (emp_sat s)) ?_; rintro ⟨m, vx, hh⟩ ⟨hm, qx⟩; dsimp only at hm qx ⊢; have hle_qx := qx.toR.le; have hxl := slX_len ht (slJ t x) v m; have hil := idxL_len t.d m; refine wp_sc (wp_sc (wp_sq (sq_v rfl (v_move rfl) rfl (sq_v rfl (v_fieldAddr fd_39_1 ty_25 (by decide) rfl) rfl (sq_v rfl (v_loadB 5 ty_25 rfl rfl rfl) rfl (sq_u rfl (x_callv rfl en_172 (fun w s => ct_s_l05Product _ _ _ w (r2.mono (s.get 7 rfl)) (by first | assumption | omega) (by first | assumption | omega))) rfl (sq_v rfl (v_lss rfl rfl) rfl (sq_end (qs_n ?_))))))))); refine wp_cd rfl (fun c51 => ?_) (fun c51 => ?_)
    · refine wp_sk (qs_n (wp_sc (wp_bl (wp_sc (wp_sq (sq_v rfl (v_fieldAddr fd_39_1 ty_25 (by decide) rfl) rfl (sq_v rfl (v_loadB 5 ty_25 rfl rfl rfl) rfl (sq_v rfl (v_move rfl) rfl ?_)))))))); refine sq_x rfl (x_call rfl en_121 (fun w s => ct_s_l05Index _ _ _ w (r2.mono (s.get 7 rfl)) (dims_mem hd) (by first | assumption | omega) (by first | assumption | omega))) rfl ?_; rintro v57 h57 r57; refine sq_v rfl (v_move rfl) rfl (sq_v rfl (v_idxI Tryz.underlying25 ty_3 rfl rfl r57.toR (by omega) (by omega)) rfl (sq_v rfl (v_loadI  0 ty_3 rfl rfl r57.toR (by omega)) rfl (sq_v rfl (v_move rfl) rfl (sq_v rfl (v_eql rfl rfl) rfl (sq_end (qs_n ?_)))))); refine wp_cd rfl (fun c62 => ?_) (fun c62 => ?_)
      · refine wp_rj 6 [(0, true), (1, true), (2, true), (3, true), (4, true), (5, false), (6, false), (7, false), (8, false)] mixed_ok (by kernel_rfl) (rj_v rfl rfl (v_fieldAddr fd_39_2 ty_25 (by decide) rfl) rfl (rj_v rfl rfl (v_loadB 4 ty_25 rfl rfl rfl) rfl (rj_v rfl rfl (v_loadNB 7 ty_29 rfl rfl rfl rfl) rfl (rj_v rfl rfl (v_loadNB 6 ty_39 rfl rfl rfl rfl) rfl (rj_v rfl rfl (v_move rfl) rfl ?_))))); have hef := elt_fits ht (i := m) (by omega); have hel : (elt t.x (widthI k n) (m : Int)).length ≤ 6 := (by unfold elt; rw [List.length_take]; omega)
        refine rj_x rfl rfl (x_call rfl en_174 (fun w s => ct_s_l05Get _ _ _ _ _ _ _ _ w (by first | assumption | omega) (r3.mono (s.get 8 rfl)) (by first | assumption | omega) (by first | assumption | omega) (by first | assumption | omega))) rfl ?_; rintro v68 h68 r68; refine rj_m 2 rfl rfl rfl rfl (m_appI 2 0 Tryz.underlying25 ty_3 rfl rfl rfl rfl qx rfl r68.toR (by omega)) rfl ?_; intro v69 h_r69 r69; refine rj_fv rfl rfl (v_fieldAddr fd_39_2 ty_25 (by decide) rfl) rfl ?_; refine rj_m 5 rfl rfl rfl rfl (m_store1 5 ty_25 rfl rfl r69.toR.sl.one rfl (Nat.le_of_ble_eq_true rfl)) rfl ?_; rintro _ _ ⟨rfl, rfl⟩; refine rj_end (qs_bn (qs_n (wp_sq (sq_v rfl (v_move rfl) rfl ?_)))); refine sq_v rfl (v_add rfl rfl ((by unfold I64; omega))) rfl ?_; refine sq_v rfl (v_assign rfl) rfl (sq_end ?_); exact qs_bk (m + 1, v69, h_r69) ⟨by (try dsimp only); omega, by (try dsimp only); rw [slX_yes (by rw [← hjt]; exact c62)]; exact r69⟩ (by simp only; omega) ⟨rfl, rfl, rfl, rfl, rfl, rfl, rfl, trivial⟩ (fun _ s => s.pick [2, 3, 4, 5, 6, 7, 8, 9] (by decide) rfl)
      · refine wp_sk (qs_bn (qs_n (wp_sq (sq_v rfl (v_move rfl) rfl ?_)))); refine sq_v rfl (v_add rfl rfl ((by unfold I64; omega))) rfl ?_; refine sq_v rfl (v_assign rfl) rfl (sq_end ?_); exact qs_bk (m + 1, vx, hh) ⟨by (try dsimp only); omega, by (try dsimp only); rw [slX_no (by rw [← hjt]; exact c62)]; exact qx⟩ (by simp only; omega) ⟨rfl, rfl, rfl, rfl, rfl, rfl, rfl, trivial⟩ (fun _ s => s.pick [1, 2, 3, 4, 5, 6, 7, 8] (by decide) rfl)
    · refine wp_ex (qs_x (qs_x (qs_bx (qs_n (wp_sc (wp_sq (sq_v rfl (v_loadNB 3 ty_39 rfl rfl rfl rfl) rfl ?_))))))); refine sq_m 4 rfl rfl (m_store 4 ty_39 rfl rfl rfl rfl (by simp [q1.toR.sl.one, q2.toR.sl.one, qx.toR.sl.one]) rfl (Nat.le_of_ble_eq_true rfl)) rfl ?_; rintro _ _ ⟨rfl, rfl⟩; refine sq_end (qs_n (wp_rt ?_)); refine qs_close [box b8 _ _, hp w] [h1, h2, hh] (fun _ s => s.pick [4, 7, 1, 2, 0] (by decide) rfl) (fun md => ?_); rw [List.take_of_length_le (by omega)] at q1 q2; have em : m = (prodI t.d).toNat := by omega
      subst em; exact qs_retc 1 rfl ty_39 rfl rfl rfl (fin_t 0 (i := 2) rfl rfl rfl ⟨_, _, _, rfl, _, _, _, q1, q2, qx, md⟩)
set_option maxHeartbeats 4000000 in
theorem ct_i_SliceTensor (k p n x v : Int) (t : Ten) (a b c : Value) (w : World) (r1 : IntsR t.l a (hp w)) (r2 : IntsR t.d b (hp w)) (r3 : IntsR t.x c (hp w)) (ok : SlOK k p n t x v) :
    Calls Tryz.prog 204 [ringV k p n, tenV a b c, num x, num v].toArray w (Ret w emp (TenB (slT k n t x v) true)) := by
  have ht := ok.ten; have hx := ok.mem; have hring := ht.1; have hlen := ten_len ht; have hax := ten_axes ht; have hnd := axes_nodup hax; have hd := axes_dims hax; have hdm := dims_mem hd; have hpr := ten_prod ht; have hp1 := prodI_one fun d hd' => (hdm d hd').1; have hj := sl_j ht hx; have hj0 := findI_ge.2 hx; have hw := width_range hring; have hv := ok.val; have hdd := ok.dims; have hL : t.l.filter (fun y => decide (y ≠ x)) = t.l.eraseIdx (slJ t x) := erase_filter hnd hx; have hLl : (t.l.eraseIdx (slJ t x)).length + 1 = t.l.length := by rw [List.length_eraseIdx_of_lt hj.1]; have := hj.1; omega
  have hDl : (t.d.eraseIdx (slJ t x)).length + 1 = t.d.length := by rw [List.length_eraseIdx_of_lt hj.2.1]; have := hj.2.1; omega
  have hal := hax.2.1; have hdm2 := dims_mem hdd.1; have hjf : ((slJ t x : Nat) : Int) = findI t.l x := by unfold slJ; omega
  have hjt : (findI t.l x).toNat = slJ t x := rfl; have hv2 : v < t.d.getD (findI t.l x).toNat 0 := hv.2; have hm1 : ∀ y ∈ t.l.eraseIdx (slJ t x), y ∈ t.l := fun y hy => List.mem_of_mem_eraseIdx hy; have hstr := strOf_range (ls := t.l) (ds := t.d) (fun d hd' => (hdm d hd').1) x; have hsi := steps_in (labels := t.l.eraseIdx (slJ t x)) (ls := t.l) (fun d hd' => (hdm d hd').1); have hv8 : v ≤ 8 := by have := hd (slJ t x) hj.2.1; have := hv.2; omega
  have hvs : 0 ≤ v * strOf t.l t.d x ∧ v * strOf t.l t.d x ≤ 8 * 4096 := ⟨Int.mul_nonneg hv.1 hstr.1, Int.mul_le_mul hv8 (by omega) hstr.1 (by omega)⟩
  refine calls_in Tryz.func204 rfl Tryz.ntmps204 rfl (Sat.start w) ?_; have hle0 := r1.le; have hle1 := r2.le; have hle2 := r3.le; refine wp_sc (wp_sq ?_); refine sq_x rfl (x_box rfl rfl) rfl ?_; rintro _ _ ⟨b4, rfl, rfl⟩; refine sq_x rfl (x_box rfl rfl) rfl ?_; rintro _ _ ⟨b5, rfl, rfl⟩; refine sq_x rfl (x_alloc ty_39 rfl) rfl ?_; rintro _ _ ⟨b8, rfl, rfl⟩; refine sq_v rfl (v_assign rfl) rfl (sq_end (qs_n (wp_sc (wp_sc (wp_sq (sq_v rfl (v_loadNB 2 ty_29 rfl rfl rfl rfl) rfl (sq_v rfl (v_loadNB 1 ty_39 rfl rfl rfl rfl) rfl (sq_u rfl (x_callv rfl en_144 (fun w s => ct_i_TensorOk _ _ _ _ _ _ _ _ _ w (r1.mono (s.get 3 rfl)) (r2.mono (s.get 3 rfl)) (r3.mono (s.get 3 rfl)))) rfl (sq_v rfl (v_not rfl) rfl (sq_end (qs_n ?_))))))))))); refine wp_cn _ rfl (fun c20 => ?_) (fun c20 => ?_)
  · refine wp_sc (wp_sq (sq_v rfl (v_build [.slice none 0 0, .slice none 0 0, .slice none 0 0] rfl (by kernel_rfl)) rfl ?_)); refine sq_m 0 rfl rfl (m_store 0 ty_39 rfl rfl rfl rfl (by simp [one_sl]) rfl (Nat.le_of_ble_eq_true rfl)) rfl ?_; rintro _ _ ⟨rfl, rfl⟩; refine sq_v rfl (v_assign rfl) rfl (sq_end (qs_n (wp_rt (qs_r ?_)))); exact absurd ht (tensorB_false.1 c20)
  · refine wp_sk (qs_n (wp_sc (wp_sq (sq_v rfl (v_loadNB 1 ty_39 rfl rfl rfl rfl) rfl (sq_v rfl (v_move rfl) rfl (sq_u rfl (x_callv rfl en_78 (fun w s => ct_u_axisOf _ _ _ _ _ _ _ w (r1.mono (s.get 3 rfl)) (r2.mono (s.get 3 rfl)) (r3.mono (s.get 3 rfl)))) rfl (sq_v rfl (v_assign rfl) rfl (sq_end (qs_n (wp_sc (wp_sc (wp_sq (sq_v rfl (v_move rfl) rfl (sq_v rfl (v_lss rfl rfl) rfl ?_)))))))))))))); refine sq_bd 26 rfl (fun c26 => ?_) (fun c26 => ?_)
    · refine sq_v rfl (v_move rfl) rfl (sq_s rfl rfl (sq_s rfl rfl (sq_v rfl (v_pickt rfl rfl) rfl (sq_v rfl (v_move rfl) rfl (sq_s rfl rfl (sq_s rfl rfl (sq_s rfl rfl (sq_s rfl rfl (sq_s rfl rfl ?_))))))))); refine sq_s rfl rfl (sq_s rfl rfl (sq_v rfl (v_pickt rfl rfl) rfl (sq_end (qs_n (wp_ct rfl (wp_sc (wp_sq (sq_v rfl (v_build [.slice none 0 0, .slice none 0 0, .slice none 0 0] rfl (by kernel_rfl)) rfl ?_)))))))); refine sq_m 0 rfl rfl (m_store 0 ty_39 rfl rfl rfl rfl (by simp [one_sl]) rfl (Nat.le_of_ble_eq_true rfl)) rfl ?_; rintro _ _ ⟨rfl, rfl⟩; refine sq_v rfl (v_assign rfl) rfl (sq_end (qs_n (wp_rt (qs_r ?_))))
      exfalso; omega
    · refine sq_v rfl (v_move rfl) rfl (sq_v rfl (v_move rfl) rfl (sq_v rfl (v_lss rfl rfl) rfl (sq_v rfl (v_pickf rfl rfl) rfl ?_))); refine sq_bd 30 rfl (fun c30 => ?_) (fun c30 => ?_)
      · refine sq_v rfl (v_move rfl) rfl (sq_s rfl rfl (sq_s rfl rfl (sq_s rfl rfl (sq_s rfl rfl (sq_s rfl rfl (sq_s rfl rfl (sq_s rfl rfl (sq_v rfl (v_pickt rfl rfl) rfl (sq_end (qs_n (wp_ct rfl (wp_sc (wp_sq ?_))))))))))))); refine sq_v rfl (v_build [.slice none 0 0, .slice none 0 0, .slice none 0 0] rfl (by kernel_rfl)) rfl ?_; refine sq_m 0 rfl rfl (m_store 0 ty_39 rfl rfl rfl rfl (by simp [one_sl]) rfl (Nat.le_of_ble_eq_true rfl)) rfl ?_; rintro _ _ ⟨rfl, rfl⟩; refine sq_v rfl (v_assign rfl) rfl (sq_end (qs_n (wp_rt (qs_r ?_))))
        exfalso; omega
      · refine sq_v rfl (v_move rfl) rfl (sq_v rfl (v_move rfl) rfl (sq_v rfl (v_fieldAddr fd_39_1 ty_25 (by decide) rfl) rfl (sq_v rfl (v_loadB 1 ty_25 rfl rfl rfl) rfl (sq_v rfl (v_move rfl) rfl (sq_v rfl (v_idxI Tryz.underlying25 ty_3 rfl rfl r2 (by omega) (by omega)) rfl (sq_v rfl (v_loadI  3 ty_3 rfl rfl r2 (by omega)) rfl (sq_v rfl (v_geq rfl rfl) rfl (sq_v rfl (v_pickf rfl rfl) rfl (sq_end (qs_n ?_)))))))))); refine wp_cd rfl (fun c39 => ?_) (fun c39 => ?_)
        · refine wp_sc (wp_sq (sq_v rfl (v_build [.slice none 0 0, .slice none 0 0, .slice none 0 0] rfl (by kernel_rfl)) rfl ?_)); refine sq_m 0 rfl rfl (m_store 0 ty_39 rfl rfl rfl rfl (by simp [one_sl]) rfl (Nat.le_of_ble_eq_true rfl)) rfl ?_; rintro _ _ ⟨rfl, rfl⟩; refine sq_v rfl (v_assign rfl) rfl (sq_end (qs_n (wp_rt (qs_r ?_))))
          exfalso; omega
        · refine wp_sk (qs_n (wp_sc (wp_sq (sq_v rfl (v_fieldAddr fd_39_0 ty_25 (by decide) rfl) rfl (sq_v rfl (v_loadB 1 ty_25 rfl rfl rfl) rfl (sq_v rfl (v_move rfl) rfl ?_)))))); refine sq_x rfl (x_call rfl en_81 (fun w s => ct_i_withoutInt _ _ _ w (r1.mono (s.get 3 rfl)) (by first | assumption | omega))) rfl ?_; rintro v44 h44 r44; refine sq_v rfl (v_build [v44, .slice none 0 0, .slice none 0 0] rfl (by obtain ⟨_, _, rfl⟩ := r44.toR.sl; kernel_rfl)) rfl ?_; refine sq_x rfl (x_alloc ty_39 rfl) rfl ?_; rintro _ _ ⟨b11, rfl, rfl⟩; refine sq_m 0 rfl rfl (m_store 0 ty_39 rfl rfl rfl rfl (by simp [r44.toR.sl.one, one_sl]) rfl (Nat.le_of_ble_eq_true rfl)) rfl ?_; rintro _ _ ⟨rfl, rfl⟩; refine sq_end ?_; rw [hL] at r44; refine qs_n (wp_sc (wp_sc (wp_sq (sq_v rfl (v_fieldAddr fd_39_0 ty_25 (by decide) rfl) rfl (sq_v rfl (v_loadB 0 ty_25 rfl rfl rfl) rfl (sq_v rfl (v_len Tryz.underlying25 rfl r44.toR.sl) rfl (sq_v rfl (v_move rfl) rfl (sq_end (qs_n (wp_bl ?_)))))))))); refine wp_lp (σ := Nat × Value × PH) (fun z_ => [(2, num x), (3, num v), (4, .pointer (some ⟨b4, 0, none⟩)), (5, .pointer (some ⟨b5, 0, none⟩)), (8, .pointer (some ⟨b8, 0, none⟩)), (9, .bool false), (11, .pointer (some ⟨b11, 0, none⟩)), (39, .bool (decide ((t.d.getD (findI t.l x : Int).toNat 0 : Int) ≤ v))), (47, v44), (48, num (t.l.eraseIdx (slJ t x)).length), (49, num z_.1)]) (fun z_ => [z_.2.2, box b11 [v44, z_.2.1, .slice none 0 0] 39, h44, box b8 [.slice none 0 0, .slice none 0 0, .slice none 0 0] 39, box b5 [a, b, c] 39, box b4 [num k, num p, num n] 29, hp w]) (fun z_ => z_.1 ≤ (t.l.eraseIdx (slJ t x)).length ∧ IntsO (idxAt t.l t.d ((t.l.eraseIdx (slJ t x)).take z_.1)) z_.2.1 z_.2.2) (fun z_ => (t.l.eraseIdx (slJ t x)).length - z_.1) (0, .slice none 0 0, emp) (⟨by (try dsimp only); omega, IntsO.nil⟩) ⟨rfl, rfl, rfl, rfl, rfl, rfl, rfl, rfl, rfl, rfl, rfl, trivial⟩ (fun _ s => (emp_sat s)) ?_; rintro ⟨i, v2, h2⟩ ⟨hi, q2⟩; dsimp only at hi q2 ⊢; have hle_q2 := q2.toR.le; have hl2 : (idxAt t.l t.d ((t.l.eraseIdx (slJ t x)).take i)).length ≤ 12 := by unfold idxAt; rw [List.length_map, List.length_take]; omega
          refine wp_sc (wp_sq (sq_v rfl (v_lss rfl rfl) rfl (sq_end (qs_n (wp_sc ?_))))); refine wp_cd rfl (fun c50 => ?_) (fun c50 => ?_)
          · refine wp_sk (qs_n (wp_sc (wp_bl (wp_sc (wp_sq (sq_v rfl (v_idxI Tryz.underlying25 ty_3 rfl rfl r44.toR (by omega) (by omega)) rfl (sq_v rfl (v_loadI (k := i) 2 ty_3 rfl rfl r44.toR (by omega)) rfl (sq_v rfl (v_assign rfl) rfl (sq_end (qs_n (wp_rj 10 [(0, true), (1, true), (2, true), (3, true), (4, true), (5, true), (6, false), (7, true), (8, true), (9, false), (10, false), (11, false), (12, false)] mixed_ok (by kernel_rfl) (rj_v rfl rfl (v_fieldAddr fd_39_1 ty_25 (by decide) rfl) rfl (rj_v rfl rfl (v_loadB 1 ty_25 rfl rfl rfl) rfl (rj_v rfl rfl (v_fieldAddr fd_39_1 ty_25 (by decide) rfl) rfl (rj_v rfl rfl (v_loadB 4 ty_25 rfl rfl rfl) rfl (rj_v rfl rfl (v_loadNB 4 ty_39 rfl rfl rfl rfl) rfl (rj_v rfl rfl (v_move rfl) rfl ?_))))))))))))))))); refine rj_u rfl rfl (x_callv rfl en_78 (fun w s => ct_u_axisOf _ _ _ _ _ _ _ w (r1.mono (s.get 6 rfl)) (r2.mono (s.get 6 rfl)) (r3.mono (s.get 6 rfl)))) rfl ?_; have hmi := hm1 _ (mem_getD (xs := t.l.eraseIdx (slJ t x)) (k := i) (by omega)); have hfi := findI_ge.2 hmi; have hfg := (findI_get hmi).1; refine rj_v rfl rfl (v_idxI Tryz.underlying25 ty_3 rfl rfl r2 (by omega) (by omega)) rfl (rj_v rfl rfl (v_loadI  6 ty_3 rfl rfl r2 (by omega)) rfl ?_); refine rj_x rfl rfl (x_buildS [num ((t.d.getD (findI t.l ((t.l.eraseIdx (slJ t x)).getD i 0) : Int).toNat 0))] Tryz.underlying25 ty_3 (by decide) rfl rfl rfl (by decide) (by decide) (by intro v hv; simp at hv; rcases hv with rfl <;> rfl)) rfl ?_; intro v62 h62 (r62 : IntsO [(t.d.getD (findI t.l ((t.l.eraseIdx (slJ t x)).getD i 0) : Int).toNat 0)] v62 h62); refine rj_m 1 rfl rfl rfl rfl (m_appI 1 0 Tryz.underlying25 ty_3 rfl rfl rfl rfl q2 rfl r62.toR (by first | omega | (simp; omega) | (simp only [List.length_append, List.length_cons, List.length_nil]; omega))) rfl ?_; intro v63 h_r63 r63; refine rj_fv rfl rfl (v_fieldAddr fd_39_1 ty_25 (by decide) rfl) rfl ?_; refine rj_m 2 rfl rfl rfl rfl (m_store1 2 ty_25 rfl rfl r63.toR.sl.one rfl (Nat.le_of_ble_eq_true rfl)) rfl ?_; rintro _ _ ⟨rfl, rfl⟩; refine rj_end (qs_bn (qs_n (wp_sq ?_))); refine sq_v rfl (v_add rfl rfl ((by unfold I64; omega))) rfl ?_; refine sq_v rfl (v_move rfl) rfl (sq_end ?_); exact qs_bk (i + 1, v63, h_r63) ⟨by (try dsimp only); omega, by (try dsimp only); rw [idxAt_step (by omega)]; exact r63⟩ (by simp only; omega) ⟨rfl, rfl, rfl, rfl, rfl, rfl, rfl, rfl, rfl, rfl, rfl, trivial⟩ (fun _ s => s.pick [1, 2, 3, 4, 5, 6, 7] (by decide) rfl)
          · refine wp_ex (qs_x (qs_x (qs_bx (qs_n (wp_sc (wp_sq ?_)))))); have hD : idxAt t.l t.d ((t.l.eraseIdx (slJ t x)).take i) = t.d.eraseIdx (slJ t x) := (by rw [List.take_of_length_le (by omega), idxAt, map_erase]; congr 1; exact (map_find hnd hal).symm); rw [hD] at q2; refine sq_v rfl (v_loadNB 4 ty_39 rfl rfl rfl rfl) rfl (sq_v rfl (v_fieldAddr fd_39_0 ty_25 (by decide) rfl) rfl (sq_v rfl (v_loadB 1 ty_25 rfl rfl rfl) rfl ?_)); refine sq_x rfl (x_call rfl en_188 (fun w s => ct_i_stridesOf _ _ _ _ _ _ _ w (r1.mono (s.get 6 rfl)) (r2.mono (s.get 6 rfl)) (r44.toR.mono (s.get 2 rfl)) (by first | assumption | omega) (by first | assumption | omega) (by first | assumption | omega) (by first | assumption | omega))) rfl ?_; rintro v69 h69 r69; refine sq_v rfl (v_assign rfl) rfl (sq_end ?_); have hs0 : (stepsL [x] t.l t.d).getD 0 0 = strOf t.l t.d x := rfl; have hs1 : (stepsL [x] t.l t.d).length = 1 := rfl; refine qs_n (wp_sc (wp_sq (sq_v rfl (v_move rfl) rfl (sq_v rfl (v_loadNB 5 ty_39 rfl rfl rfl rfl) rfl (sq_v rfl (v_move rfl) rfl ?_))))); refine sq_x rfl (x_buildS [num (x)] Tryz.underlying25 ty_3 (by decide) rfl rfl rfl (by decide) (by decide) (by intro v hv; simp at hv; rcases hv with rfl <;> rfl)) rfl ?_; intro v73 h73 (r73 : IntsO [x] v73 h73); refine sq_x rfl (x_call rfl en_188 (fun w s => ct_i_stridesOf _ _ _ _ _ _ _ w (r1.mono (s.get 8 rfl)) (r2.mono (s.get 8 rfl)) (r73.toR.mono (s.get 0 rfl)) (by first | assumption | omega) (by first | assumption | omega) (by first | assumption | omega) (Nat.le_of_ble_eq_true rfl))) rfl ?_; rintro v74 h74 r74; refine sq_v rfl (v_idxI Tryz.underlying25 ty_3 rfl rfl r74.toR (by omega) (by omega)) rfl (sq_v rfl (v_loadI (k := 0) 0 ty_3 rfl rfl r74.toR (by omega)) rfl ?_); refine sq_v rfl (v_mul rfl rfl ((by rw [hs0]; unfold I64; omega))) rfl ?_; refine sq_v rfl (v_assign rfl) rfl (sq_end (qs_n (wp_sc (wp_sq (sq_v rfl (v_fieldAddr fd_39_0 ty_25 (by decide) rfl) rfl (sq_v rfl (v_loadB 4 ty_25 rfl rfl rfl) rfl (sq_v rfl (v_len Tryz.underlying25 rfl r44.toR.sl) rfl ?_))))))); refine sq_x rfl (x_makeI Tryz.underlying25 ty_3 rfl rfl (by omega) (by omega) (by omega)) rfl ?_; intro v81 h81 r81; refine sq_v rfl (v_assign rfl) rfl (sq_end (qs_n (wp_bl ?_))); refine wp_lp (σ := Nat × PH × Value × PH) (fun z_ => [(4, .pointer (some ⟨b4, 0, none⟩)), (5, .pointer (some ⟨b5, 0, none⟩)), (8, .pointer (some ⟨b8, 0, none⟩)), (9, .bool false), (11, .pointer (some ⟨b11, 0, none⟩)), (14, v69), (15, num (v * ((stepsL [x] t.l t.d).getD 0 0))), (16, v81), (39, .bool (decide ((t.d.getD (findI t.l x : Int).toNat 0 : Int) ≤ v)))]) (fun z_ => [z_.2.2.2, z_.2.1, h74, h73, h69, h2, box b11 [v44, v2, z_.2.2.1] 39, h44, box b8 [.slice none 0 0, .slice none 0 0, .slice none 0 0] 39, box b5 [a, b, c] 39, box b4 [num k, num p, num n] 29, hp w]) (fun z_ => z_.1 < (prodI (t.d.eraseIdx (slJ t x))).toNat ∧ IntsO (idxL (t.d.eraseIdx (slJ t x)) z_.1) v81 z_.2.1 ∧ IntsO (slY (widthI k n) t (slJ t x) v z_.1) z_.2.2.1 z_.2.2.2) (fun z_ => (prodI (t.d.eraseIdx (slJ t x))).toNat - z_.1) (0, h81, .slice none 0 0, emp) (⟨by (try dsimp only); omega, by (try dsimp only); rw [show ((0 : Nat) : Int) = 0 from rfl, idxL_zero]; simpa [show (t.d.eraseIdx (slJ t x)).length = (t.l.eraseIdx (slJ t x)).length by omega] using r81, IntsO.nil⟩) ⟨rfl, rfl, rfl, rfl, rfl, rfl, rfl, rfl, rfl, trivial⟩ (fun _ s => (emp_sat s)) ?_; rintro ⟨m, g, vx, hh⟩ ⟨hm, q81, qx⟩; dsimp only at hm q81 qx ⊢; have hle_q81 := q81.toR.le; have hle_qx := qx.toR.le; have hall := (ok.all m).1; have hat := ok.at_ m; have hel := ok.el m; have hil := idxL_len (t.d.eraseIdx (slJ t x)) m; have hii := idxL_in (fun d hd' => (dims_mem hdd.1 d hd').1) m; have hb : ∀ b ∈ idxL (t.d.eraseIdx (slJ t x)) m, 0 ≤ b ∧ b ≤ 1048576 := all_of fun j hj => by have := hii.2 j (by omega); have := hdd.1 j (by omega); omega
            have hsl := stepsL_len (t.l.eraseIdx (slJ t x)) t.l t.d; have hef := elt_fits ht (i := (slAt t.d (slJ t x) v m : Nat)) (by omega); have e92 : v * (stepsL [x] t.l t.d).getD 0 0 + dotL (stepsL (t.l.eraseIdx (slJ t x)) t.l t.d) (idxL (t.d.eraseIdx (slJ t x)) m) = ((slAt t.d (slJ t x) v m : Nat) : Int) := by rw [hs0]; exact hat.2.symm
            have hlt := hat.1; have hyl : (slY (widthI k n) t (slJ t x) v m).length ≤ 24576 := by have h1 : (m : Int) * widthI k n ≤ 4096 * 6 := Int.mul_le_mul (by omega) hw.2 (by omega) (by omega); omega
            have hel2 := hel.1; refine wp_bl (wp_sc (wp_rj 10 [(0, true), (1, true), (2, true), (3, true), (4, true), (5, true), (6, true), (7, false), (8, true), (9, false), (10, false), (11, false), (12, false)] mixed_ok (by kernel_rfl) (rj_v rfl rfl (v_fieldAddr fd_39_2 ty_25 (by decide) rfl) rfl (rj_v rfl rfl (v_loadB 6 ty_25 rfl rfl rfl) rfl (rj_v rfl rfl (v_loadNB 10 ty_29 rfl rfl rfl rfl) rfl (rj_v rfl rfl (v_loadNB 9 ty_39 rfl rfl rfl rfl) rfl (rj_v rfl rfl (v_move rfl) rfl (rj_v rfl rfl (v_move rfl) rfl (rj_v rfl rfl (v_move rfl) rfl ?_))))))))); refine rj_u rfl rfl (x_callv rfl en_192 (fun w s => ct_i_dotOf _ _ _ _ w (r69.toR.mono (s.get 4 rfl)) (q81.toR.mono (s.get 1 rfl)) (fun a h => by have := hsi a h; omega) (by first | assumption | omega) (by first | assumption | omega) (by first | assumption | omega))) rfl ?_; refine rj_v rfl rfl (v_add rfl rfl ((by rw [e92]; unfold I64; omega))) rfl ?_; have hef1 := hef.1; have hef2 := hef.2; rw [e92]; refine rj_u rfl rfl (x_callv rfl en_191 (fun w s => ct_i_rawElem _ _ _ _ _ _ _ _ w (by first | assumption | omega) (r3.mono (s.get 11 rfl)) (by omega) hef.1 hef.2)) rfl ?_; refine rj_m 0 rfl rfl rfl rfl (m_appI 0 11 Tryz.underlying25 ty_3 rfl rfl rfl rfl qx rfl (eltV_read r3 (by first | assumption | omega) (by first | assumption | omega) (by first | assumption | omega)) (by omega)) rfl ?_; intro v92 h_r92 r92; refine rj_fv rfl rfl (v_fieldAddr fd_39_2 ty_25 (by decide) rfl) rfl ?_; refine rj_m 6 rfl rfl rfl rfl (m_store1 6 ty_25 rfl rfl r92.toR.sl.one rfl (Nat.le_of_ble_eq_true rfl)) rfl ?_; rintro _ _ ⟨rfl, rfl⟩; refine rj_end (qs_n (wp_sc (wp_sq (sq_v rfl (v_fieldAddr fd_39_1 ty_25 (by decide) rfl) rfl (sq_v rfl (v_loadB 6 ty_25 rfl rfl rfl) rfl (sq_v rfl (v_move rfl) rfl ?_)))))); refine sq_m 1 rfl rfl (x_call rfl en_194 (fun w s => ct_i_nextIndex _ _ _ _ w _ (s.get 1 rfl) (q2.toR.mono (s.getR 1 5 rfl rfl (by decide))) q81 (by first | assumption | omega) (by first | assumption | omega) (by first | assumption | omega))) rfl ?_; rintro _ h97 ⟨rfl, r97⟩; refine sq_v rfl (v_not rfl) rfl (sq_end (qs_n ?_)); refine wp_cnd rfl (fun c98 => ?_) (fun c98 => ?_)
            · refine wp_sc (wp_sq (sq_v rfl (v_loadNB 6 ty_39 rfl rfl rfl rfl) rfl ?_)); refine sq_m 8 rfl rfl (m_store 8 ty_39 rfl rfl rfl rfl (by simp [r44.toR.sl.one, q2.toR.sl.one, r92.toR.sl.one]) rfl (Nat.le_of_ble_eq_true rfl)) rfl ?_; rintro _ _ ⟨rfl, rfl⟩; refine sq_v rfl (v_assign rfl) rfl (sq_end (qs_n (wp_rt (qs_br (qs_r (qs_br ?_)))))); refine qs_close [box b8 _ _, hp w] [h44, h2, h_r92] (fun _ s => s.pick [8, 11, 7, 5, 0] (by decide) rfl) (fun md => ?_); exact qs_retct 1 rfl ty_39 rfl rfl rfl rfl (fin_t 0 (i := 2) rfl rfl rfl ⟨_, _, _, rfl, _, _, _, r44, q2, (show IntsO (slX (widthI k n) t (slJ t x) v (prodI t.d).toNat) v92 h_r92 by rw [ok.eq, show (prodI (t.d.eraseIdx (slJ t x))).toNat = m + 1 by omega, slY_step]; exact r92), md⟩)
            · refine wp_sk (qs_bn ?_); exact qs_bk (m + 1, h97, v92, h_r92) ⟨by (try dsimp only); omega, r97, by (try dsimp only); rw [slY_step]; exact r92⟩ (by simp only; omega) ⟨rfl, rfl, rfl, rfl, rfl, rfl, rfl, rfl, rfl, trivial⟩ (fun _ s => s)
end Go.Proofs.YtmddmahaikineaaGreat
namespace Go.Proofs.YtmddmahaikineaaGreat
set_option maxRecDepth 100000
open Go.RowKit
set_option maxHeartbeats 2000000 in
theorem ct_s_l09Fix (k p n : Int) (t : Ten) (ls vs : List Int) (a b c u v : Value) (w : World) (r1 : IntsR t.l a (hp w)) (r2 : IntsR t.d b (hp w)) (r3 : IntsR t.x c (hp w)) (rl : IntsR ls u (hp w)) (rv : IntsR vs v (hp w)) (ht : tensorL k p n t.l t.d t.x) (hlv : ls.length ≤ vs.length) (hok : ∀ i, i < ls.length → tensorL k p n (fixTo k n t ls vs i).l (fixTo k n t ls vs i).d (fixTo k n t ls vs i).x) :
    Calls Tryz.prog 200 [ringV k p n, tenV a b c, u, v].toArray w (Ret w emp (TenT (fixTo k n t ls vs ls.length))) := by
  have hlen := ten_len ht; refine calls_in Tryz.func200 rfl Tryz.ntmps200 rfl (Sat.start w) ?_; have hle0 := r1.le; have hle1 := r2.le; have hle2 := r3.le; have hle3 := rl.le; have hle4 := rv.le; refine wp_sc (wp_sq ?_); refine sq_x rfl (x_box rfl rfl) rfl ?_; rintro _ _ ⟨b4, rfl, rfl⟩; refine sq_x rfl (x_box rfl rfl) rfl ?_; rintro _ _ ⟨b5, rfl, rfl⟩; refine sq_x rfl (x_alloc ty_39 rfl) rfl ?_; rintro _ _ ⟨b8, rfl, rfl⟩; refine sq_end (qs_n (wp_sc (wp_sq (sq_v rfl (v_loadNB 1 ty_39 rfl rfl rfl rfl) rfl ?_)))); refine sq_x rfl (x_call rfl en_135 (fun w s => ct_s_l05Copy _ _ _ _ w (r1.mono (s.get 3 rfl)) (r2.mono (s.get 3 rfl)) (r3.mono (s.get 3 rfl)) (by first | assumption | omega))) rfl ?_; rintro _ h13 ⟨va13, vb13, vc13, rfl, o13⟩; refine sq_x rfl (x_alloc ty_39 rfl) rfl ?_; rintro _ _ ⟨b9, rfl, rfl⟩; refine sq_m 0 rfl rfl (m_store 0 ty_39 rfl rfl rfl rfl (by simp [o13.toR.1.sl.one, o13.toR.2.1.sl.one, o13.toR.2.2.sl.one]) rfl (Nat.le_of_ble_eq_true rfl)) rfl ?_; rintro _ _ ⟨rfl, rfl⟩; refine sq_end (qs_n (wp_sc (wp_sc (wp_sq (sq_v rfl (v_move rfl) rfl (sq_v rfl (v_len Tryz.underlying25 rfl rl.sl) rfl (sq_v rfl (v_move rfl) rfl (sq_end (qs_n (wp_bl ?_)))))))))); refine wp_lp (σ := Nat × Value × Value × Value × PH) (fun z_ => [(3, v), (4, .pointer (some ⟨b4, 0, none⟩)), (8, .pointer (some ⟨b8, 0, none⟩)), (9, .pointer (some ⟨b9, 0, none⟩)), (14, u), (15, num ls.length), (16, num z_.1)]) (fun z_ => [box b9 [z_.2.1, z_.2.2.1, z_.2.2.2.1] 39, z_.2.2.2.2, box b8 [.slice none 0 0, .slice none 0 0, .slice none 0 0] 39, box b5 [a, b, c] 39, box b4 [num k, num p, num n] 29, hp w]) (fun z_ => z_.1 ≤ ls.length ∧ TriO (fixTo k n t ls vs z_.1) z_.2.1 z_.2.2.1 z_.2.2.2.1 z_.2.2.2.2) (fun z_ => ls.length - z_.1) (0, va13, vb13, vc13, h13) (⟨by (try dsimp only); omega, o13⟩) ⟨rfl, rfl, rfl, rfl, rfl, rfl, rfl, trivial⟩ (fun _ s => s) ?_; rintro ⟨i, va, vb, vc, g⟩ ⟨hi, o⟩; dsimp only at hi o ⊢; have hmf := findI_ge (xs := (fixTo k n t ls vs i).l) (n := ls.getD i 0); have hle9 := o.toR.1.le; refine wp_sc (wp_sq (sq_v rfl (v_lss rfl rfl) rfl (sq_end (qs_n (wp_sc ?_))))); refine wp_cd rfl (fun c17 => ?_) (fun c17 => ?_)
  · refine wp_sk (qs_n (wp_sc (wp_bl (wp_sc (wp_sq (sq_v rfl (v_move rfl) rfl (sq_v rfl (v_idxI Tryz.underlying25 ty_3 rfl rfl rl (by omega) (by omega)) rfl (sq_v rfl (v_loadI (k := i) 5 ty_3 rfl rfl rl (by omega)) rfl (sq_v rfl (v_assign rfl) rfl (sq_v rfl (v_assign rfl) rfl (sq_end (qs_n (wp_sc (wp_sq (sq_v rfl (v_fieldAddr fd_39_0 ty_25 (by decide) rfl) rfl (sq_v rfl (v_loadB 0 ty_25 rfl rfl rfl) rfl (sq_v rfl (v_move rfl) rfl (sq_u rfl (x_callv rfl en_71 (fun w s => ct_s_l05Find _ _ _ w (o.toR.1.mono (s.get 1 rfl)))) rfl (sq_v rfl (v_geq rfl rfl) rfl (sq_end (qs_n ?_))))))))))))))))))))); refine wp_cd rfl (fun c25 => ?_) (fun c25 => ?_)
    · refine wp_rj 8 [(0, true), (1, true), (2, true), (3, true), (4, true), (5, true), (6, true), (7, false), (8, false)] mixed_ok (by kernel_rfl) (rj_v rfl rfl (v_loadNB 4 ty_29 rfl rfl rfl rfl) rfl (rj_v rfl rfl (v_loadNB 0 ty_39 rfl rfl rfl rfl) rfl (rj_v rfl rfl (v_move rfl) rfl (rj_v rfl rfl (v_move rfl) rfl (rj_v rfl rfl (v_move rfl) rfl (rj_v rfl rfl (v_idxI Tryz.underlying25 ty_3 rfl rfl rv (by omega) (by omega)) rfl (rj_v rfl rfl (v_loadI (k := i) 5 ty_3 rfl rfl rv (by omega)) rfl ?_))))))); refine rj_x rfl rfl (x_call rfl en_226 (fun w s => ct_s_l09Slice _ _ _ _ _ _ _ _ _ w (o.toR.1.mono (s.get 1 rfl)) (o.toR.2.1.mono (s.get 1 rfl)) (o.toR.2.2.mono (s.get 1 rfl)) (hok i (by omega)) (hmf.1 c25))) rfl ?_; rintro _ h33 ⟨va33, vb33, vc33, rfl, o33⟩; refine rj_m 1 rfl rfl rfl rfl (m_store 1 ty_39 rfl rfl rfl rfl (by simp [o33.toR.1.sl.one, o33.toR.2.1.sl.one, o33.toR.2.2.sl.one]) rfl (Nat.le_of_ble_eq_true rfl)) rfl ?_; rintro _ _ ⟨rfl, rfl⟩; refine rj_end (qs_bn (qs_n (wp_sq ?_))); refine sq_v rfl (v_add rfl rfl ((by unfold I64; omega))) rfl ?_; refine sq_v rfl (v_move rfl) rfl (sq_end ?_); exact qs_bk (i + 1, va33, vb33, vc33, h33) ⟨by (try dsimp only); omega, by (try dsimp only); rw [fixTo, fix1, if_pos (hmf.1 c25)]; exact o33⟩ (by simp only; omega) ⟨rfl, rfl, rfl, rfl, rfl, rfl, rfl, trivial⟩ (fun _ s => s.pick [1, 0, 3, 4, 5, 6] (by decide) rfl)
    · refine wp_sk (qs_bn (qs_n (wp_sq ?_))); refine sq_v rfl (v_add rfl rfl ((by unfold I64; omega))) rfl ?_; refine sq_v rfl (v_move rfl) rfl (sq_end ?_); exact qs_bk (i + 1, va, vb, vc, g) ⟨by (try dsimp only); omega, by (try dsimp only); rw [fixTo, fix1, if_neg (fun h => c25 (hmf.2 h))]; exact o⟩ (by simp only; omega) ⟨rfl, rfl, rfl, rfl, rfl, rfl, rfl, trivial⟩ (fun _ s => s)
  · refine wp_ex (qs_x (qs_x (qs_bx (qs_n (wp_sc (wp_sq (sq_v rfl (v_loadNB 0 ty_39 rfl rfl rfl rfl) rfl ?_))))))); refine sq_m 2 rfl rfl (m_store 2 ty_39 rfl rfl rfl rfl (by simp [o.toR.1.sl.one, o.toR.2.1.sl.one, o.toR.2.2.sl.one]) rfl (Nat.le_of_ble_eq_true rfl)) rfl ?_; rintro _ _ ⟨rfl, rfl⟩; refine sq_end (qs_n (wp_rt ?_)); exact qs_retc 2 rfl ty_39 rfl rfl rfl (fin_t 1 (i := 5) rfl rfl rfl (⟨_, _, _, rfl, by rw [show ls.length = i by omega]; exact o⟩))
theorem dim_out {k p n x : Int} {ts : List Ten} {op : List Int} (h : netL k p n ts op) (hx : x < 0 ∨ 99 < x) : dimOf ts x = 0 := Classical.byContradiction fun hd => by
  obtain ⟨t, ht, hm⟩ := dimOf_mem hd; have hg := findI_get hm; have ha := (net_axes h t ht).2.2 _ hg.1
  unfold axP at ha
  rw [hg.2] at ha
  omega
theorem ct_i_DimOf (k p n x : Int) (ts : List Ten) (op : List Int) (vt vo : Value) (w : World) (r : TensR ts vt (hp w)) (r' : IntsR op vo (hp w)) (hs : op.length ≤ 1048576) :
    Calls Tryz.prog 203 [netV k p n vt vo, num x].toArray w (RetV w (num (ifB (netB k p n ts op) (dimOf ts x) 0))) := by
  refine calls_in Tryz.func203 rfl Tryz.ntmps203 rfl (Sat.start w) ?_; have hle0 := r.le; obtain ⟨cs_r, rr_r, hc_r⟩ := r.at; have hle1 := r'.le; refine wp_sc (wp_sq ?_); refine sq_x rfl (x_box rfl rfl) rfl ?_; rintro _ _ ⟨b2, rfl, rfl⟩; refine sq_v rfl (v_assign rfl) rfl (sq_end (qs_n (wp_sc (wp_sc (wp_sq (sq_v rfl (v_loadNB 0 ty_32 rfl rfl rfl rfl) rfl (sq_u rfl (x_callv rfl en_60 (fun w s => ct_i_NetworkOk _ _ _ _ _ _ _ w (r.mono (s.get 1 rfl)) (r'.mono (s.get 1 rfl)) (by first | assumption | omega))) rfl ?_))))))); refine sq_bb 8 rfl (fun c8 => ?_) (fun c8 => ?_)
  · refine sq_v rfl (v_not rfl) rfl (sq_v rfl (v_move rfl) rfl (sq_v rfl (v_move rfl) rfl (sq_v rfl (v_lss rfl rfl) rfl (sq_v rfl (v_pickf rfl rfl) rfl ?_)))); refine sq_bd 13 rfl (fun c13 => ?_) (fun c13 => ?_)
    · refine sq_v rfl (v_move rfl) rfl (sq_s rfl rfl (sq_s rfl rfl (sq_v rfl (v_pickt rfl rfl) rfl (sq_end (qs_n (wp_ct rfl (wp_sc (wp_sq (sq_v rfl (v_assign rfl) rfl (sq_end (qs_n (wp_rt (qs_r ?_))))))))))))); exact qs_ret1 rfl rfl (fin_q (i := 1) rfl (by cases hb : netB k p n ts op with | false => rfl | true => rw [show ifB true (dimOf ts x) 0 = dimOf ts x from rfl, dim_out (netB_true.1 hb) (by first | omega | exact absurd (c8.symm.trans hb) (by decide))]))
    · refine sq_v rfl (v_move rfl) rfl (sq_v rfl (v_move rfl) rfl (sq_v rfl (v_gtr rfl rfl) rfl (sq_v rfl (v_pickf rfl rfl) rfl (sq_end (qs_n ?_))))); refine wp_cd rfl (fun c17 => ?_) (fun c17 => ?_)
      · refine wp_sc (wp_sq (sq_v rfl (v_assign rfl) rfl (sq_end (qs_n (wp_rt (qs_r ?_)))))); exact qs_ret1 rfl rfl (fin_q (i := 1) rfl (by cases hb : netB k p n ts op with | false => rfl | true => rw [show ifB true (dimOf ts x) 0 = dimOf ts x from rfl, dim_out (netB_true.1 hb) (by first | omega | exact absurd (c8.symm.trans hb) (by decide))]))
      · refine wp_sk (qs_n (wp_sc (wp_sq (sq_v rfl (v_fieldAddr fd_32_1 ty_30 (by decide) rfl) rfl (sq_v rfl (v_loadB 0 ty_30 rfl rfl rfl) rfl ?_))))); have hnet := netB_true.1 c8; refine sq_x rfl (x_call rfl en_145 (fun w s => ct_i_dimsOf _ _ w (r.mono (s.get 1 rfl)) (net_axes hnet))) rfl ?_; rintro _ h21 ⟨arr, ok, rfl, hal, hok', hav⟩; refine sq_v rfl (v_move rfl) rfl (sq_v rfl (v_extract rfl rfl) rfl (sq_v rfl (v_extract rfl rfl) rfl ?_)); refine sq_x rfl (x_alloc ty_136 rfl) rfl ?_; rintro _ _ ⟨b5, rfl, rfl⟩; refine sq_m 0 rfl rfl (m_storeW 0 ty_136 rfl rfl rfl (by rw [ints_length]; exact hal) (ints_one arr) rfl (by simp)) rfl ?_; rintro _ _ ⟨rfl, rfl⟩; refine sq_v rfl (v_assign rfl) rfl (sq_end (qs_n (wp_sc (wp_sq (sq_v rfl (v_move rfl) rfl (sq_v rfl (v_indexAddrA Tryz.underlying136 ty_3 rfl rfl (by omega) (by omega)) rfl (sq_v rfl (v_loadB 0 ty_3 rfl rfl (aget (k := (x).toNat) (by omega) rfl)) rfl (sq_v rfl (v_assign rfl) rfl (sq_end (qs_n (wp_rt ?_))))))))))); exact qs_ret1 rfl rfl (fin_q (i := 3) rfl (by rw [c8, show ifB true (dimOf ts x) 0 = dimOf ts x from rfl, (hav (hok'.2 hnet.2.2.2.1)).2 x (by omega) (by omega)]))
  · refine sq_v rfl (v_not rfl) rfl (sq_v rfl (v_move rfl) rfl (sq_s rfl rfl (sq_s rfl rfl (sq_v rfl (v_pickt rfl rfl) rfl (sq_v rfl (v_move rfl) rfl (sq_s rfl rfl (sq_s rfl rfl (sq_v rfl (v_pickt rfl rfl) rfl (sq_end (qs_n (wp_ct rfl (wp_sc (wp_sq ?_))))))))))))); refine sq_v rfl (v_assign rfl) rfl (sq_end (qs_n (wp_rt (qs_r ?_)))); exact qs_ret1 rfl rfl (fin_q (i := 1) rfl (by cases hb : netB k p n ts op with | false => rfl | true => rw [show ifB true (dimOf ts x) 0 = dimOf ts x from rfl, dim_out (netB_true.1 hb) (by first | omega | exact absurd (c8.symm.trans hb) (by decide))]))
set_option maxHeartbeats 4000000 in
theorem ct_s_l15Slice (k p n : Int) (ts : List Ten) (op ls vs : List Int) (vt vo u v : Value) (w : World) (r : TensR ts vt (hp w)) (r' : IntsR op vo (hp w)) (rl : IntsR ls u (hp w)) (rv : IntsR vs v (hp w)) (hlv : ls.length ≤ vs.length) (h12 : ts.length ≤ 12) (hs : op.length ≤ 1048576)
    (hten : ∀ t ∈ ts, tensorL k p n t.l t.d t.x) (hok : ∀ t ∈ ts, ∀ i, i < ls.length → tensorL k p n (fixTo k n t ls vs i).l (fixTo k n t ls vs i).d (fixTo k n t ls vs i).x) :
    Calls Tryz.prog 106 [netV k p n vt vo, u, v].toArray w (Ret w emp (NetT k p n (tsI k n ts ls vs ls.length) (opI op ls ls.length))) := by
  refine calls_in Tryz.func106 rfl Tryz.ntmps106 rfl (Sat.start w) ?_; have hle0 := r.le; obtain ⟨cs_r, rr_r, hc_r⟩ := r.at; have hle1 := r'.le; have hle2 := rl.le; have hle3 := rv.le; refine wp_sc (wp_sq ?_); refine sq_x rfl (x_box rfl rfl) rfl ?_; rintro _ _ ⟨b3, rfl, rfl⟩; refine sq_x rfl (x_alloc ty_32 rfl) rfl ?_; rintro _ _ ⟨b6, rfl, rfl⟩; refine sq_end (qs_n (wp_sc (wp_sq (sq_v rfl (v_fieldAddr fd_32_0 ty_29 (by decide) rfl) rfl (sq_v rfl (v_loadNB 1 ty_29 rfl rfl rfl rfl) rfl (sq_v rfl (v_build [num k, num p, num n, .slice none 0 0, .slice none 0 0] rfl (by kernel_rfl)) rfl ?_)))))); refine sq_x rfl (x_alloc ty_32 rfl) rfl ?_; rintro _ _ ⟨b7, rfl, rfl⟩; refine sq_m 0 rfl rfl (m_store 0 ty_32 rfl rfl rfl rfl (by simp [one_int, one_sl]) rfl (Nat.le_of_ble_eq_true rfl)) rfl ?_; rintro _ _ ⟨rfl, rfl⟩; refine sq_end (qs_n (wp_sc (wp_sc (wp_sq (sq_v rfl (v_fieldAddr fd_32_2 ty_25 (by decide) rfl) rfl (sq_v rfl (v_loadB 2 ty_25 rfl rfl rfl) rfl (sq_v rfl (v_len Tryz.underlying25 rfl r'.sl) rfl (sq_v rfl (v_move rfl) rfl (sq_end (qs_n (wp_bl ?_))))))))))); refine wp_lp (σ := Nat × Value × PH) (fun z_ => [(1, u), (2, v), (3, .pointer (some ⟨b3, 0, none⟩)), (6, .pointer (some ⟨b6, 0, none⟩)), (7, .pointer (some ⟨b7, 0, none⟩)), (16, vo), (17, num op.length), (18, num z_.1)]) (fun z_ => [z_.2.2, box b7 [num k, num p, num n, .slice none 0 0, z_.2.1] 32, box b6 [num 0, num 0, num 0, .slice none 0 0, .slice none 0 0] 32, box b3 [num k, num p, num n, vt, vo] 32, hp w]) (fun z_ => z_.1 ≤ op.length ∧ IntsO ((op.take z_.1).filter fun y => decide (y ∉ ls)) z_.2.1 z_.2.2) (fun z_ => op.length - z_.1) (0, .slice none 0 0, emp) (⟨by (try dsimp only); omega, IntsO.nil⟩) ⟨rfl, rfl, rfl, rfl, rfl, rfl, rfl, rfl, trivial⟩ (fun _ s => (emp_sat s)) ?_; rintro ⟨i, lo, ho⟩ ⟨hi, qo⟩; dsimp only at hi qo ⊢; have hle_qo := qo.toR.le; have hfl := filter_take_len op (fun y => decide (y ∉ ls)) i; have hmf := findI_ge (xs := ls) (n := op.getD i 0); refine wp_sc (wp_sq (sq_v rfl (v_lss rfl rfl) rfl (sq_end (qs_n (wp_sc ?_))))); refine wp_cd rfl (fun c19 => ?_) (fun c19 => ?_)
  · refine wp_sk (qs_n (wp_sc (wp_bl (wp_sc (wp_sq (sq_v rfl (v_idxI Tryz.underlying25 ty_3 rfl rfl r' (by omega) (by omega)) rfl (sq_v rfl (v_loadI (k := i) 4 ty_3 rfl rfl r' (by omega)) rfl (sq_v rfl (v_assign rfl) rfl (sq_end (qs_n (wp_sc (wp_sq (sq_v rfl (v_move rfl) rfl (sq_v rfl (v_move rfl) rfl (sq_u rfl (x_callv rfl en_71 (fun w s => ct_s_l05Find _ _ _ w (rl.mono (s.get 4 rfl)))) rfl (sq_v rfl (v_lss rfl rfl) rfl (sq_end (qs_n ?_)))))))))))))))))); refine wp_cd rfl (fun c25 => ?_) (fun c25 => ?_)
    · refine wp_sq (sq_v rfl (v_fieldAddr fd_32_2 ty_25 (by decide) rfl) rfl (sq_v rfl (v_loadB 1 ty_25 rfl rfl rfl) rfl (sq_v rfl (v_move rfl) rfl ?_))); refine sq_x rfl (x_buildS [num (op.getD i 0)] Tryz.underlying25 ty_3 (by decide) rfl rfl rfl (by decide) (by decide) (by intro v hv; simp at hv; rcases hv with rfl <;> rfl)) rfl ?_; intro v29 h29 (r29 : IntsO [op.getD i 0] v29 h29); refine sq_m 1 rfl rfl (m_appI 1 0 Tryz.underlying25 ty_3 rfl rfl rfl rfl qo rfl r29.toR (by first | omega | (simp; omega) | (simp only [List.length_append, List.length_cons, List.length_nil]; omega))) rfl ?_; intro v30 h_r30 r30; refine sq_v rfl (v_fieldAddr fd_32_2 ty_25 (by decide) rfl) rfl ?_; refine sq_m 2 rfl rfl (m_store1 2 ty_25 rfl rfl r30.toR.sl.one rfl (Nat.le_of_ble_eq_true rfl)) rfl ?_; rintro _ _ ⟨rfl, rfl⟩; refine sq_end (qs_bn (qs_n (wp_sq ?_))); refine sq_v rfl (v_add rfl rfl ((by unfold I64; omega))) rfl ?_; refine sq_v rfl (v_move rfl) rfl (sq_end ?_); exact qs_bk (i + 1, v30, h_r30) ⟨by (try dsimp only); omega, by (try dsimp only); rw [filter_yes (by omega) (by simp only [decide_eq_true_eq]; exact fun h => by have := hmf.2 h; omega)]; exact r30⟩ (by simp only; omega) ⟨rfl, rfl, rfl, rfl, rfl, rfl, rfl, rfl, trivial⟩ (fun _ s => s.pick [1, 2, 3, 4, 5] (by decide) rfl)
    · refine wp_sk (qs_bn (qs_n (wp_sq ?_))); refine sq_v rfl (v_add rfl rfl ((by unfold I64; omega))) rfl ?_; refine sq_v rfl (v_move rfl) rfl (sq_end ?_); exact qs_bk (i + 1, lo, ho) ⟨by (try dsimp only); omega, by (try dsimp only); rw [filter_no (by omega) (by simp only [decide_eq_false_iff_not, Classical.not_not]; exact hmf.1 (by omega))]; exact qo⟩ (by simp only; omega) ⟨rfl, rfl, rfl, rfl, rfl, rfl, rfl, rfl, trivial⟩ (fun _ s => s)
  · refine wp_ex (qs_x (qs_x (qs_bx (qs_n (wp_sc (wp_sc (wp_sq (sq_v rfl (v_fieldAddr fd_32_1 ty_30 (by decide) rfl) rfl (sq_v rfl (v_loadB 3 ty_30 rfl rfl rfl) rfl (sq_v rfl (v_len Tryz.underlying30 rfl r.sl) rfl (sq_v rfl (v_move rfl) rfl (sq_end (qs_n (wp_bl ?_)))))))))))))); refine wp_lp (σ := Nat × Value × PH × (List Value) × PH) (fun z_ => [(1, u), (2, v), (3, .pointer (some ⟨b3, 0, none⟩)), (6, .pointer (some ⟨b6, 0, none⟩)), (7, .pointer (some ⟨b7, 0, none⟩)), (34, vt), (35, num ts.length), (36, num z_.1)]) (fun z_ => [z_.2.2.2.2, z_.2.2.1, ho, box b7 [num k, num p, num n, z_.2.1, lo] 32, box b6 [num 0, num 0, num 0, .slice none 0 0, .slice none 0 0] 32, box b3 [num k, num p, num n, vt, vo] 32, hp w]) (fun z_ => z_.1 ≤ ts.length ∧ OwnH (flat (tsI k n (ts.take z_.1) ls vs ls.length)) z_.2.2.2.1 z_.2.2.2.2 ∧ RowO (39) z_.2.2.2.1 z_.1 3 z_.2.1 z_.2.2.1) (fun z_ => ts.length - z_.1) (0, .slice none 0 0, emp, [], emp) (⟨by (try dsimp only); omega, OwnH.nil, RowO.nil⟩) ⟨rfl, rfl, rfl, rfl, rfl, rfl, rfl, rfl, trivial⟩ (fun _ s => (emp_sat (emp_sat s))) ?_; rintro ⟨i2, lx, ha, cs, hl⟩ ⟨hi2, hlv2, rr⟩; dsimp only at hi2 hlv2 rr ⊢; refine wp_sc (wp_sq (sq_v rfl (v_lss rfl rfl) rfl (sq_end (qs_n (wp_sc ?_))))); refine wp_cd rfl (fun c37 => ?_) (fun c37 => ?_)
    · refine wp_sk (qs_n (wp_sc (wp_bl (wp_sc (wp_sq ?_))))); obtain ⟨t38, a38, b38, c38, ht38, hcs38, rl38, rd38, rx38⟩ := hc_r (i2) (by first | omega | (rw [List.length_set]; omega)); refine sq_v rfl (v_indexAddr Tryz.underlying30 ty_39 rfl rfl rr_r (by decide) (by omega) (by omega)) rfl ?_; refine sq_v rfl (v_loadNE 6 ty_39 rfl rfl rr_r (by have := rr_r.1; omega) rfl hcs38) rfl ?_; refine sq_x rfl (x_alloc ty_39 rfl) rfl ?_; rintro _ _ ⟨b11, rfl, rfl⟩; refine sq_m 0 rfl rfl (m_store 0 ty_39 rfl rfl rfl rfl (by simp [rl38.sl.one, rd38.sl.one, rx38.sl.one]) rfl (Nat.le_of_ble_eq_true rfl)) rfl ?_; rintro _ _ ⟨rfl, rfl⟩; refine sq_end (qs_n (wp_rj 9 [(0, true), (1, true), (2, true), (3, true), (4, true), (5, true), (6, true), (7, false), (8, false), (9, false), (10, false), (11, false)] mixed_ok (by kernel_rfl) (rj_v rfl rfl (v_fieldAddr fd_32_1 ty_30 (by decide) rfl) rfl (rj_v rfl rfl (v_loadB 4 ty_30 rfl rfl rfl) rfl (rj_v rfl rfl (v_fieldAddr fd_32_0 ty_29 (by decide) rfl) rfl (rj_v rfl rfl (v_loadNB 6 ty_29 rfl rfl rfl rfl) rfl (rj_v rfl rfl (v_loadNB 0 ty_39 rfl rfl rfl rfl) rfl (rj_v rfl rfl (v_move rfl) rfl (rj_v rfl rfl (v_move rfl) rfl ?_))))))))); refine rj_x rfl rfl (x_call rfl en_200 (fun w s => ct_s_l09Fix _ _ _ _ _ _ _ _ _ _ _ w (rl38.mono (s.get 7 rfl)) (rd38.mono (s.get 7 rfl)) (rx38.mono (s.get 7 rfl)) (rl.mono (s.get 7 rfl)) (rv.mono (s.get 7 rfl)) (hten t38 (List.mem_of_getElem? ht38)) (by first | assumption | omega) (hok t38 (List.mem_of_getElem? ht38)))) rfl ?_; rintro _ h47 ⟨va47, vb47, vc47, rfl, o47⟩; refine rj_x rfl rfl (x_buildS [.agg [va47, vb47, vc47].toArray] Tryz.underlying30 ty_39 (by decide) rfl rfl rfl (by decide) (by decide) (by intro v hv; simp at hv; subst hv; rfl)) rfl ?_; intro v48 h48 (r48 : RowO 39 [va47, vb47, vc47] 1 3 v48 h48); refine rj_m 4 rfl rfl rfl rfl (m_append 4 0 Tryz.underlying30 ty_39 rfl rfl (by decide) rfl rfl rfl rr rfl r48.toR (by simp [o47.toR.1.sl.one, o47.toR.2.1.sl.one, o47.toR.2.2.sl.one]) (by unfold maxLen; omega) (by omega)) rfl ?_; intro v49 h_r49 (r49 : RowO 39 (cs ++ [va47, vb47, vc47]) (i2 + 1) 3 v49 h_r49); refine rj_fv rfl rfl (v_fieldAddr fd_32_1 ty_30 (by decide) rfl) rfl ?_; refine rj_m 6 rfl rfl rfl rfl (m_store1 6 ty_30 rfl rfl r49.toR.sl.one rfl (Nat.le_of_ble_eq_true rfl)) rfl ?_; rintro _ _ ⟨rfl, rfl⟩; refine rj_end (qs_bn (qs_n (wp_sq ?_))); refine sq_v rfl (v_add rfl rfl ((by unfold I64; omega))) rfl ?_; refine sq_v rfl (v_move rfl) rfl (sq_end ?_); refine qs_dj 3 1 rfl rfl rfl (fun hdj => ?_); exact qs_bk (i2 + 1, v49, h_r49, cs ++ [va47, vb47, vc47], PUn hl h47) ⟨by (try dsimp only); omega, by (try dsimp only); rw [tsI, take_ten ht38, List.map_append]; exact hlv2.snoc o47 hdj, r49⟩ (by simp only; omega) ⟨rfl, rfl, rfl, rfl, rfl, rfl, rfl, rfl, trivial⟩ (fun _ s => Sat.merge (s.pick [3, 1, 4, 5, 6, 7, 8, 9] (by decide) rfl))
    · refine wp_ex (qs_x (qs_x (qs_bx (qs_n (wp_sc (wp_sq (sq_v rfl (v_loadNB 3 ty_32 rfl rfl rfl rfl) rfl ?_))))))); refine sq_m 4 rfl rfl (m_store 4 ty_32 rfl rfl rfl rfl (by simp [one_int, rr.toR.sl.one, qo.toR.sl.one]) rfl (Nat.le_of_ble_eq_true rfl)) rfl ?_; rintro _ _ ⟨rfl, rfl⟩; refine sq_end (qs_n (wp_rt ?_)); have ei : i2 = ts.length := by omega
      subst ei; rw [List.take_length] at hlv2; rw [List.take_of_length_le (by omega)] at qo; obtain ⟨l, ol, md⟩ := hlv2; refine qs_close [box b6 _ _, hp w] (ha :: ho :: l) (fun _ s => Sat.open (A := [box b6 [num k, num p, num n, lx, lo] 32, hp w, ha, ho]) md (s.pick [0, 4, 6, 1, 2] (by decide) rfl)) (fun md2 => ?_); exact qs_retc 1 rfl ty_32 rfl rfl rfl (fin_t 0 (i := 2) rfl rfl rfl ⟨_, _, rfl, cs, ha, ho, l, by rw [tsI, List.length_map]; exact rr, by rw [opI, List.take_length]; exact qo, ol, md2⟩)
set_option maxHeartbeats 4000000 in
theorem ct_i_SliceNetwork (k p n x v : Int) (ts : List Ten) (op : List Int) (vt vo : Value) (w : World) (r : TensR ts vt (hp w)) (r' : IntsR op vo (hp w)) (hs : op.length ≤ 1048576) (hnet : netL k p n ts op) (hv : 0 ≤ v ∧ v < dimOf ts x) :
    Calls Tryz.prog 111 [netV k p n vt vo, num x, num v].toArray w (Ret w emp (NetB k p n (ts.map fun t => fix1 k n t x v) (op.filter fun y => decide (y ≠ x)) true)) := by
  have hB := netB_true.2 hnet; have h12 := hnet.2.1; have hdm := net_dmap hnet; refine calls_in Tryz.func111 rfl Tryz.ntmps111 rfl (Sat.start w) ?_; have hle0 := r.le; obtain ⟨cs_r, rr_r, hc_r⟩ := r.at; have hle1 := r'.le; refine wp_sc (wp_sq ?_); refine sq_x rfl (x_box rfl rfl) rfl ?_; rintro _ _ ⟨b3, rfl, rfl⟩; refine sq_x rfl (x_alloc ty_32 rfl) rfl ?_; rintro _ _ ⟨b6, rfl, rfl⟩; refine sq_v rfl (v_assign rfl) rfl (sq_end (qs_n (wp_sc (wp_sc (wp_sq (sq_v rfl (v_loadNB 1 ty_32 rfl rfl rfl rfl) rfl (sq_u rfl (x_callv rfl en_60 (fun w s => ct_i_NetworkOk _ _ _ _ _ _ _ w (r.mono (s.get 2 rfl)) (r'.mono (s.get 2 rfl)) (by first | assumption | omega))) rfl ?_))))))); refine sq_bb 13 rfl (fun c13 => ?_) (fun c13 => ?_)
  · refine sq_v rfl (v_not rfl) rfl (sq_v rfl (v_move rfl) rfl (sq_v rfl (v_move rfl) rfl (sq_v rfl (v_lss rfl rfl) rfl (sq_v rfl (v_pickf rfl rfl) rfl ?_)))); refine sq_bd 18 rfl (fun c18 => ?_) (fun c18 => ?_)
    · refine sq_v rfl (v_move rfl) rfl (sq_s rfl rfl (sq_s rfl rfl (sq_s rfl rfl (sq_s rfl rfl (sq_s rfl rfl (sq_v rfl (v_pickt rfl rfl) rfl (sq_end (qs_n (wp_ct rfl (wp_sc (wp_sq (sq_v rfl (v_build [num 0, num 0, num 0, .slice none 0 0, .slice none 0 0] rfl (by kernel_rfl)) rfl ?_)))))))))))); refine sq_m 0 rfl rfl (m_store 0 ty_32 rfl rfl rfl rfl (by simp [one_int, one_sl]) rfl (Nat.le_of_ble_eq_true rfl)) rfl ?_; rintro _ _ ⟨rfl, rfl⟩; refine sq_v rfl (v_assign rfl) rfl (sq_end (qs_n (wp_rt (qs_r ?_))))
      exfalso; omega
    · refine sq_v rfl (v_move rfl) rfl (sq_v rfl (v_move rfl) rfl (sq_v rfl (v_loadNB 1 ty_32 rfl rfl rfl rfl) rfl (sq_v rfl (v_move rfl) rfl (sq_u rfl (x_callv rfl en_203 (fun w s => ct_i_DimOf _ _ _ _ _ _ _ _ w (r.mono (s.get 2 rfl)) (r'.mono (s.get 2 rfl)) (by first | assumption | omega))) rfl (sq_v rfl (v_geq rfl rfl) rfl (sq_v rfl (v_pickf rfl rfl) rfl (sq_end (qs_n ?_)))))))); refine wp_cd rfl (fun c25 => ?_) (fun c25 => ?_)
      · refine wp_sc (wp_sq (sq_v rfl (v_build [num 0, num 0, num 0, .slice none 0 0, .slice none 0 0] rfl (by kernel_rfl)) rfl ?_)); refine sq_m 0 rfl rfl (m_store 0 ty_32 rfl rfl rfl rfl (by simp [one_int, one_sl]) rfl (Nat.le_of_ble_eq_true rfl)) rfl ?_; rintro _ _ ⟨rfl, rfl⟩; refine sq_v rfl (v_assign rfl) rfl (sq_end (qs_n (wp_rt (qs_r ?_)))); rw [hB] at c25; exact absurd hv.2 (Int.not_lt.2 c25)
      · refine wp_sk (qs_n (wp_sc ?_)); refine wp_ra (σ := Nat × PH × Value) 8 (fun z_ => IntsO (op.filter fun y => decide (y ≠ x)) z_.2.2 z_.2.1) (fun z_ => [(1, num x), (2, num v), (3, .pointer (some ⟨b3, 0, none⟩)), (6, .pointer (some ⟨b6, 0, none⟩)), (7, .bool false), (8, .pointer (some ⟨z_.1, 0, none⟩)), (25, .bool (decide ((ifB (netB k p n ts op) (dimOf ts x) 0 : Int) ≤ v)))]) (fun z_ => [box z_.1 [num k, num p, num n, .slice none 0 0, z_.2.2] 32, z_.2.1, box b6 [num 0, num 0, num 0, .slice none 0 0, .slice none 0 0] 32, box b3 [num k, num p, num n, vt, vo] 32, hp w]) mixed_ok (by kernel_rfl) ?_ ?_
        · refine ra_v (i := 0) (by kernel_rfl) rfl rfl (v_fieldAddr fd_32_0 ty_29 (by decide) rfl) rfl (ra_v (i := 1) (by kernel_rfl) rfl rfl (v_loadNB 1 ty_29 rfl rfl rfl rfl) rfl (ra_v (i := 2) (by kernel_rfl) rfl rfl (v_fieldAddr fd_32_2 ty_25 (by decide) rfl) rfl (ra_v (i := 3) (by kernel_rfl) rfl rfl (v_loadB 1 ty_25 rfl rfl rfl) rfl (ra_v (i := 4) (by kernel_rfl) rfl rfl (v_move rfl) rfl ?_)))); refine ra_2 (i := 5) (j := 7) (by kernel_rfl) ?_ ?_
          · refine ro_x rfl rfl (x_call rfl en_81 (fun w s => ct_i_withoutInt _ _ _ w (r'.mono (s.get 2 rfl)) (by first | assumption | omega))) rfl ?_; rintro v32 h32 r32; refine ra_rj [(6, true), (7, false), (8, false)] (by kernel_rfl) rfl ?_; refine rj_v rfl rfl (v_build [num k, num p, num n, .slice none 0 0, v32] rfl (by obtain ⟨_, _, rfl⟩ := r32.toR.sl; kernel_rfl)) rfl ?_; refine rj_x rfl rfl (x_alloc ty_32 rfl) rfl ?_; rintro _ _ ⟨b8, rfl, rfl⟩; refine rj_m 0 rfl rfl rfl rfl (m_store 0 ty_32 rfl rfl rfl rfl (by simp [one_int, one_sl, r32.toR.sl.one]) rfl (Nat.le_of_ble_eq_true rfl)) rfl ?_; rintro _ _ ⟨rfl, rfl⟩; refine rj_end ?_; exact qs_mid (b8, h32, v32) (r32) ⟨rfl, rfl, rfl, rfl, rfl, rfl, rfl, trivial⟩ (fun _ s => s.pick [0, 1, 2, 3, 4] (by decide) rfl)
          · refine ro_x rfl rfl (x_alloc ty_32 rfl) rfl ?_; rintro _ _ ⟨b8, rfl, rfl⟩; refine ra_rj [(5, false), (6, true), (8, false)] (by kernel_rfl) rfl ?_; refine rj_x rfl rfl (x_call rfl en_81 (fun w s => ct_i_withoutInt _ _ _ w (r'.mono (s.get 3 rfl)) (by first | assumption | omega))) rfl ?_; rintro v32 h32 r32; refine rj_v rfl rfl (v_build [num k, num p, num n, .slice none 0 0, v32] rfl (by obtain ⟨_, _, rfl⟩ := r32.toR.sl; kernel_rfl)) rfl ?_; refine rj_m 1 rfl rfl rfl rfl (m_store 1 ty_32 rfl rfl rfl rfl (by simp [one_int, one_sl, r32.toR.sl.one]) rfl (Nat.le_of_ble_eq_true rfl)) rfl ?_; rintro _ _ ⟨rfl, rfl⟩; refine rj_end ?_; exact qs_mid (b8, h32, v32) (r32) ⟨rfl, rfl, rfl, rfl, rfl, rfl, rfl, trivial⟩ (fun _ s => s.pick [1, 0, 2, 3, 4] (by decide) rfl)
        · rintro ⟨b8, h32, v32⟩ r32; dsimp only at r32 ⊢; refine qs_n (wp_sc (wp_sc (wp_sq (sq_v rfl (v_fieldAddr fd_32_1 ty_30 (by decide) rfl) rfl (sq_v rfl (v_loadB 3 ty_30 rfl rfl rfl) rfl (sq_v rfl (v_len Tryz.underlying30 rfl r.sl) rfl (sq_v rfl (v_move rfl) rfl (sq_end (qs_n (wp_bl ?_)))))))))); refine wp_lp (σ := Nat × Value × PH × (List Value) × PH) (fun z_ => [(1, num x), (2, num v), (3, .pointer (some ⟨b3, 0, none⟩)), (6, .pointer (some ⟨b6, 0, none⟩)), (7, .bool false), (8, .pointer (some ⟨b8, 0, none⟩)), (35, vt), (36, num ts.length), (37, num z_.1)]) (fun z_ => [z_.2.2.2.2, z_.2.2.1, box b8 [num k, num p, num n, z_.2.1, v32] 32, h32, box b6 [num 0, num 0, num 0, .slice none 0 0, .slice none 0 0] 32, box b3 [num k, num p, num n, vt, vo] 32, hp w]) (fun z_ => z_.1 ≤ ts.length ∧ OwnH (flat ((ts.take z_.1).map fun t => fix1 k n t x v)) z_.2.2.2.1 z_.2.2.2.2 ∧ RowO (39) z_.2.2.2.1 z_.1 3 z_.2.1 z_.2.2.1) (fun z_ => ts.length - z_.1) (0, .slice none 0 0, emp, [], emp) (⟨by (try dsimp only); omega, OwnH.nil, RowO.nil⟩) ⟨rfl, rfl, rfl, rfl, rfl, rfl, rfl, rfl, rfl, trivial⟩ (fun _ s => (emp_sat (emp_sat s))) ?_; rintro ⟨i, lx, ha, cs, hl⟩ ⟨hi, hlv, rr⟩; dsimp only at hi hlv rr ⊢; refine wp_sc (wp_sq (sq_v rfl (v_lss rfl rfl) rfl (sq_end (qs_n (wp_sc ?_))))); refine wp_cd rfl (fun c38 => ?_) (fun c38 => ?_)
          · refine wp_sk (qs_n (wp_sc (wp_bl (wp_sc (wp_sq ?_))))); obtain ⟨t39, a39, b39, c39, ht39, hcs39, rl39, rd39, rx39⟩ := hc_r (i) (by first | omega | (rw [List.length_set]; omega)); refine sq_v rfl (v_indexAddr Tryz.underlying30 ty_39 rfl rfl rr_r (by decide) (by omega) (by omega)) rfl ?_; refine sq_v rfl (v_loadNE 6 ty_39 rfl rfl rr_r (by have := rr_r.1; omega) rfl hcs39) rfl ?_; refine sq_x rfl (x_alloc ty_39 rfl) rfl ?_; rintro _ _ ⟨b10, rfl, rfl⟩; refine sq_m 0 rfl rfl (m_store 0 ty_39 rfl rfl rfl rfl (by simp [rl39.sl.one, rd39.sl.one, rx39.sl.one]) rfl (Nat.le_of_ble_eq_true rfl)) rfl ?_; rintro _ _ ⟨rfl, rfl⟩; refine sq_end ?_; have hten := hnet.2.2.1 t39 (List.mem_of_getElem? ht39); have hd39 := hdm t39 (List.mem_of_getElem? ht39); have hl39 := ten_len hten; refine qs_n (wp_sc (wp_sq (sq_v rfl (v_loadNB 0 ty_39 rfl rfl rfl rfl) rfl ?_))); refine sq_x rfl (x_call rfl en_149 (fun w s => ct_i_copyTensor _ _ _ _ w (rl39.mono (s.get 7 rfl)) (rd39.mono (s.get 7 rfl)) (rx39.mono (s.get 7 rfl)) (by first | assumption | omega))) rfl ?_; rintro _ h42 ⟨va42, vb42, vc42, rfl, o42⟩; refine sq_x rfl (x_alloc ty_39 rfl) rfl ?_; rintro _ _ ⟨b11, rfl, rfl⟩; refine sq_m 0 rfl rfl (m_store 0 ty_39 rfl rfl rfl rfl (by simp [o42.toR.1.sl.one, o42.toR.2.1.sl.one, o42.toR.2.2.sl.one]) rfl (Nat.le_of_ble_eq_true rfl)) rfl ?_; rintro _ _ ⟨rfl, rfl⟩; refine sq_end (qs_n (wp_sc (wp_sc (wp_sq (sq_v rfl (v_loadNB 2 ty_39 rfl rfl rfl rfl) rfl (sq_v rfl (v_move rfl) rfl (sq_u rfl (x_callv rfl en_78 (fun w s => ct_u_axisOf _ _ _ _ _ _ _ w (rl39.mono (s.get 9 rfl)) (rd39.mono (s.get 9 rfl)) (rx39.mono (s.get 9 rfl)))) rfl (sq_v rfl (v_geq rfl rfl) rfl (sq_end (qs_n ?_)))))))))); refine wp_cd rfl (fun c46 => ?_) (fun c46 => ?_)
            · refine wp_sq (sq_v rfl (v_fieldAddr fd_32_0 ty_29 (by decide) rfl) rfl (sq_v rfl (v_loadNB 8 ty_29 rfl rfl rfl rfl) rfl (sq_v rfl (v_loadNB 2 ty_39 rfl rfl rfl rfl) rfl (sq_v rfl (v_move rfl) rfl (sq_v rfl (v_move rfl) rfl ?_))))); refine sq_x rfl (x_call rfl en_204 (fun w s => ct_i_SliceTensor _ _ _ _ _ _ _ _ _ w (rl39.mono (s.get 9 rfl)) (rd39.mono (s.get 9 rfl)) (rx39.mono (s.get 9 rfl)) (sl_ok hten hd39 (findI_ge.1 c46) hv))) rfl ?_; rintro _ h53 ⟨va53, vb53, vc53, rfl, o53⟩; refine sq_v rfl (v_move rfl) rfl (sq_v rfl (v_extract rfl rfl) rfl (sq_v rfl (v_extract rfl rfl) rfl ?_)); refine sq_m 1 rfl rfl (m_store 1 ty_39 rfl rfl rfl rfl (by simp [o53.toR.1.sl.one, o53.toR.2.1.sl.one, o53.toR.2.2.sl.one]) rfl (Nat.le_of_ble_eq_true rfl)) rfl ?_; rintro _ _ ⟨rfl, rfl⟩; refine sq_end (qs_n (wp_sq (sq_v rfl (v_fieldAddr fd_32_1 ty_30 (by decide) rfl) rfl (sq_v rfl (v_loadB 6 ty_30 rfl rfl rfl) rfl (sq_v rfl (v_loadNB 1 ty_39 rfl rfl rfl rfl) rfl ?_))))); refine sq_x rfl (x_buildS [.agg [va53, vb53, vc53].toArray] Tryz.underlying30 ty_39 (by decide) rfl rfl rfl (by decide) (by decide) (by intro v hv; simp at hv; subst hv; rfl)) rfl ?_; intro v59 h59 (r59 : RowO 39 [va53, vb53, vc53] 1 3 v59 h59); refine sq_m 6 rfl rfl (m_append 6 0 Tryz.underlying30 ty_39 rfl rfl (by decide) rfl rfl rfl rr rfl r59.toR (by simp [o53.toR.1.sl.one, o53.toR.2.1.sl.one, o53.toR.2.2.sl.one]) (by unfold maxLen; omega) (by omega)) rfl ?_; intro v60 h_r60 (r60 : RowO 39 (cs ++ [va53, vb53, vc53]) (i + 1) 3 v60 h_r60); refine sq_v rfl (v_fieldAddr fd_32_1 ty_30 (by decide) rfl) rfl ?_; refine sq_m 7 rfl rfl (m_store1 7 ty_30 rfl rfl r60.toR.sl.one rfl (Nat.le_of_ble_eq_true rfl)) rfl ?_; rintro _ _ ⟨rfl, rfl⟩; refine sq_end (qs_bn (qs_n (wp_sq ?_))); refine sq_v rfl (v_add rfl rfl ((by unfold I64; omega))) rfl ?_; refine sq_v rfl (v_move rfl) rfl (sq_end ?_); refine qs_dj 5 1 rfl rfl rfl (fun hdj => ?_); exact qs_bk (i + 1, v60, h_r60, cs ++ [va53, vb53, vc53], PUn hl h53) ⟨by (try dsimp only); omega, by (try dsimp only); rw [take_ten ht39, List.map_append, List.map_singleton, show fix1 k n t39 x v = slT k n t39 x v from if_pos (findI_ge.1 c46)]; exact hlv.snoc o53 hdj, r60⟩ (by simp only; omega) ⟨rfl, rfl, rfl, rfl, rfl, rfl, rfl, rfl, rfl, trivial⟩ (fun _ s => Sat.merge (s.pick [5, 1, 6, 7, 8, 9, 10, 11] (by decide) rfl))
            · refine wp_sk (qs_n (wp_sq (sq_v rfl (v_fieldAddr fd_32_1 ty_30 (by decide) rfl) rfl (sq_v rfl (v_loadB 5 ty_30 rfl rfl rfl) rfl (sq_v rfl (v_loadNB 0 ty_39 rfl rfl rfl rfl) rfl ?_))))); refine sq_x rfl (x_buildS [.agg [va42, vb42, vc42].toArray] Tryz.underlying30 ty_39 (by decide) rfl rfl rfl (by decide) (by decide) (by intro v hv; simp at hv; subst hv; rfl)) rfl ?_; intro v59 h59 (r59 : RowO 39 [va42, vb42, vc42] 1 3 v59 h59); refine sq_m 5 rfl rfl (m_append 5 0 Tryz.underlying30 ty_39 rfl rfl (by decide) rfl rfl rfl rr rfl r59.toR (by simp [o42.toR.1.sl.one, o42.toR.2.1.sl.one, o42.toR.2.2.sl.one]) (by unfold maxLen; omega) (by omega)) rfl ?_; intro v60 h_r60 (r60 : RowO 39 (cs ++ [va42, vb42, vc42]) (i + 1) 3 v60 h_r60); refine sq_v rfl (v_fieldAddr fd_32_1 ty_30 (by decide) rfl) rfl ?_; refine sq_m 6 rfl rfl (m_store1 6 ty_30 rfl rfl r60.toR.sl.one rfl (Nat.le_of_ble_eq_true rfl)) rfl ?_; rintro _ _ ⟨rfl, rfl⟩; refine sq_end (qs_bn (qs_n (wp_sq ?_))); refine sq_v rfl (v_add rfl rfl ((by unfold I64; omega))) rfl ?_; refine sq_v rfl (v_move rfl) rfl (sq_end ?_); refine qs_dj 4 2 rfl rfl rfl (fun hdj => ?_); exact qs_bk (i + 1, v60, h_r60, cs ++ [va42, vb42, vc42], PUn hl h42) ⟨by (try dsimp only); omega, by (try dsimp only); rw [take_ten ht39, List.map_append, List.map_singleton, show fix1 k n t39 x v = t39 from if_neg (fun h => c46 (findI_ge.2 h))]; exact hlv.snoc o42 hdj, r60⟩ (by simp only; omega) ⟨rfl, rfl, rfl, rfl, rfl, rfl, rfl, rfl, rfl, trivial⟩ (fun _ s => Sat.merge (s.pick [4, 2, 5, 6, 7, 8, 9, 10] (by decide) rfl))
          · refine wp_ex (qs_x (qs_x (qs_bx (qs_n (wp_sc (wp_sq (sq_v rfl (v_loadNB 2 ty_32 rfl rfl rfl rfl) rfl ?_))))))); refine sq_m 4 rfl rfl (m_store 4 ty_32 rfl rfl rfl rfl (by simp [one_int, rr.toR.sl.one, r32.toR.sl.one]) rfl (Nat.le_of_ble_eq_true rfl)) rfl ?_; rintro _ _ ⟨rfl, rfl⟩; refine sq_v rfl (v_assign rfl) rfl (sq_end (qs_n (wp_rt ?_))); have ei : i = ts.length := by omega
            subst ei; rw [List.take_length] at hlv; obtain ⟨l, ol, md⟩ := hlv; refine qs_close [box b6 _ _, hp w] (ha :: h32 :: l) (fun _ s => Sat.open (A := [box b6 [num k, num p, num n, lx, v32] 32, hp w, ha, h32]) md (s.pick [0, 4, 6, 1, 3] (by decide) rfl)) (fun md2 => ?_); exact qs_retct 1 rfl ty_32 rfl rfl rfl rfl (fin_t 0 (i := 2) rfl rfl rfl ⟨_, _, rfl, cs, ha, h32, l, by rw [List.length_map]; exact rr, r32, ol, md2⟩)
  · refine sq_v rfl (v_not rfl) rfl (sq_v rfl (v_move rfl) rfl (sq_s rfl rfl (sq_s rfl rfl (sq_v rfl (v_pickt rfl rfl) rfl (sq_v rfl (v_move rfl) rfl (sq_s rfl rfl (sq_s rfl rfl (sq_s rfl rfl (sq_s rfl rfl ?_))))))))); refine sq_s rfl rfl (sq_v rfl (v_pickt rfl rfl) rfl (sq_end (qs_n (wp_ct rfl (wp_sc (wp_sq (sq_v rfl (v_build [num 0, num 0, num 0, .slice none 0 0, .slice none 0 0] rfl (by kernel_rfl)) rfl ?_))))))); refine sq_m 0 rfl rfl (m_store 0 ty_32 rfl rfl rfl rfl (by simp [one_int, one_sl]) rfl (Nat.le_of_ble_eq_true rfl)) rfl ?_; rintro _ _ ⟨rfl, rfl⟩; refine sq_v rfl (v_assign rfl) rfl (sq_end (qs_n (wp_rt (qs_r ?_)))); exact absurd (hB.symm.trans c13) (by decide)
end Go.Proofs.YtmddmahaikineaaGreat
namespace Go.Proofs.YtmddmahaikineaaGreat
set_option maxRecDepth 100000
open Go.RowKit
theorem weight_some {k p n : Int} {ts : List Ten} {op vs : List Int} (h : 1 ≤ (weightL k p n ts op vs).length) : assignL k p n ts op vs := Classical.byContradiction fun hn => by
  rw [weightL, if_neg hn] at h
  simp at h
end Go.Proofs.YtmddmahaikineaaGreat
