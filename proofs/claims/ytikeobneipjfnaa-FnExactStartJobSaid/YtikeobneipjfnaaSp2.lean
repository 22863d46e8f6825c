/-
  The reference's state of an order: what is kept, a step.
  Conditions: none.
-/
import Derived.Test.YtikeobneipjfnaaSp1
namespace Go.Proofs.Ytikeobneipjfnaa
set_option maxRecDepth 100000
open Go.RowKit
/-! ### tensors' cells -/
def TensL (ts : List Ten) (cs : List Value) (h : PH) : Prop := cs.length = ts.length * 3 ∧ ∀ (i : Nat) (t : Ten), ts[i]? = some t → TenR t ((cs.drop (i * 3)).take 3) h
theorem TensL.nil (h : PH) : TensL [] [] h := ⟨rfl, fun i x e => by simp at e⟩
theorem TensL.mono {ts : List Ten} {cs : List Value} {h h' : PH} (r : TensL ts cs h) (l : PLe h h') : TensL ts cs h' := ⟨r.1, fun i x e => (r.2 i x e).mono l⟩
theorem TensL.snoc {ts : List Ten} {cs : List Value} {h : PH} (r : TensL ts cs h) {t : Ten} {a b c : Value} (r1 : IntsR t.l a h) (r2 : IntsR t.d b h) (r3 : IntsR t.x c h) : TensL (ts ++ [t]) (cs ++ [a, b, c]) h := by
  refine ⟨by simp [r.1]; omega, fun i y e => ?_⟩
  by_cases hi : i < ts.length
  · rw [List.getElem?_append_left hi] at e
    have := r.2 i y e
    have e2 : ((cs ++ [a, b, c]).drop (i * 3)).take 3 = (cs.drop (i * 3)).take 3 := by
      rw [List.drop_append, List.take_append]
      have hl : 3 - (cs.drop (i * 3)).length = 0 := by simp [r.1]; omega
      rw [hl, List.take_zero, List.append_nil]
    rw [e2]; exact this
  · have hlt := (List.getElem?_eq_some_iff.1 e).1
    simp at hlt
    have : i = ts.length := by omega
    subst this
    rw [List.getElem?_append_right (by omega)] at e
    simp at e
    subst e
    have e2 : ((cs ++ [a, b, c]).drop (ts.length * 3)).take 3 = [a, b, c] := by
      rw [← r.1, List.drop_left]; rfl
    rw [e2]
    exact ⟨a, b, c, rfl, r1, r2, r3⟩
theorem TensL.tens {ts : List Ten} {cs : List Value} {v : Value} {h : PH} (r : TensL ts cs h) (rr : RowR cs ts.length 3 v h) : TensR ts v h := ⟨cs, rr, r.2⟩
/-! ### two parts as one -/
theorem PUn.mono_r {a q q' : PH} (l : PLe q q') : PLe (PUn a q) (PUn a q') := fun k o e => by
  unfold PUn at *
  split at e
  · exact e
  · exact l k o e
theorem PUn.mono_l {a b q : PH} (l : PLe a b) (d : PDj b q) : PLe (PUn a q) (PUn b q) := fun k o e => by
  unfold PUn at *
  split at e
  · rename_i x hx; cases e; rw [l k _ hx]
  · rcases d k with h1 | h1
    · rw [h1]; exact e
    · rw [h1] at e; cases e
theorem PDj.rest {w : World} {h hs : PH} (l : PLe hs h) : PDj hs (restP w h) := fun k => by
  cases e : hs k with
  | none => exact .inl rfl
  | some o => right; simp [restP, l k o e]
theorem Sat.join {w0 w : World} {HS : List PH} {a b : PH} (s : Sat w0 (a :: b :: HS) w) : Sat w0 (PUn a b :: HS) w := s.merge
/-! ### the state -/
def shTens (f : Int → Int) (s : Sh) : List Ten := s.all.map fun l => ⟨l, l.map f, []⟩
theorem shTens_len (f : Int → Int) (s : Sh) : (shTens f s).length = s.all.length := by simp [shTens]
theorem shTens_at {f : Int → Int} {s : Sh} {i : Nat} {t : Ten} (h : (shTens f s)[i]? = some t) : t = ⟨s.lab i, (s.lab i).map f, []⟩ := by
  simp only [shTens, List.getElem?_map, Option.map_eq_some_iff] at h
  obtain ⟨l, h1, h2⟩ := h
  have : s.lab i = l := by simp [Sh.lab, List.getD, h1]
  rw [this, h2]
structure SpR (f : Int → Int) (s : Sh) (va vg : Value) (b : Nat) (h : PH) : Prop where
  ok : s.ok
  c0 : cellP h b 0 = some va
  c1 : cellP h b 1 = some vg
  all : TensR (shTens f s) va h
  gone : BoolsR s.gone vg h
def SpO (f : Int → Int) (s : Sh) (bb : Nat) (h q : PH) : Prop :=
  s.ok ∧ ∃ va vg ha hg hs cs, RowO 28 cs s.all.length 3 va ha ∧ BoolsO s.gone vg hg ∧ TensL (shTens f s) cs (PUn hs q) ∧ Made h [box bb [va, vg] 189, ha, hg, hs]
/-- What is to be kept, of the first k. -/
noncomputable def keepTo (op : List Int) (s : Sh) (a b : Int) (k : Nat) : List Int := op ++ ((List.range k).filter fun i => decide (s.gone.getD i false = false ∧ (i : Int) ≠ a ∧ (i : Int) ≠ b)).flatMap s.lab
theorem keepTo_yes {op : List Int} {s : Sh} {a b : Int} {k : Nat} (h : s.gone.getD k false = false ∧ (k : Int) ≠ a ∧ (k : Int) ≠ b) : keepTo op s a b (k + 1) = keepTo op s a b k ++ s.lab k := by
  unfold keepTo
  rw [List.range_succ, List.filter_append, List.filter_cons_of_pos (by simpa using h), List.flatMap_append]
  simp
theorem keepTo_no {op : List Int} {s : Sh} {a b : Int} {k : Nat} (h : ¬ (s.gone.getD k false = false ∧ (k : Int) ≠ a ∧ (k : Int) ≠ b)) : keepTo op s a b (k + 1) = keepTo op s a b k := by
  unfold keepTo
  rw [List.range_succ, List.filter_append, List.filter_cons_of_neg (by simpa using h)]
  simp
theorem keepTo_len {op : List Int} {s : Sh} {a b : Int} (h : ∀ i, (s.lab i).length ≤ 100) : ∀ k, (keepTo op s a b k).length ≤ op.length + 100 * k
  | 0 => by simp [keepTo]
  | k + 1 => by
    have ih := keepTo_len (op := op) (a := a) (b := b) h k
    by_cases hc : s.gone.getD k false = false ∧ (k : Int) ≠ a ∧ (k : Int) ≠ b
    · rw [keepTo_yes hc, List.length_append]; have := h k; omega
    · rw [keepTo_no hc]; omega
theorem mem_keepTo {op : List Int} {s : Sh} {a b : Nat} {x : Int} : x ∈ keepTo op s a b s.all.length ↔ s.kept op a b x := by
  simp only [keepTo, List.mem_append, List.mem_flatMap, List.mem_filter, List.mem_range, decide_eq_true_eq, Sh.kept, mem_ixs]
  refine or_congr Iff.rfl (exists_congr fun i => ?_)
  constructor
  · rintro ⟨⟨h1, h2, h3, h4⟩, h5⟩; exact ⟨⟨h1, h2⟩, by omega, by omega, h5⟩
  · rintro ⟨⟨h1, h2⟩, h3, h4, h5⟩; exact ⟨⟨h1, h2, by omega, by omega⟩, h5⟩
theorem ct_s_l17Keep (f : Int → Int) (sh : Sh) (op : List Int) (va vg vo : Value) (bb : Nat) (a b : Int) (w : World) (r : SpR f sh va vg bb (hp w)) (ro : IntsR op vo (hp w)) (hfi : sh.fine) (hall : sh.all.length ≤ 100000) (hop : op.length ≤ 1048576) :
    Calls Try.prog 209 [.pointer (some ⟨bb, 0, none⟩), vo, num a, num b].toArray w (Ret w emp (IntsO (keepTo op sh a b sh.all.length))) := by
  have ra := r.all
  have rg := r.gone
  have hln := shTens_len f sh
  have hgl : sh.gone.length = sh.all.length := hfi.1
  refine calls_in Try.func209 rfl Try.ntmps209 rfl (Sat.start w) ?_
  have hle0 := ro.le
  have hle1 := ra.le
  obtain ⟨cs_ra, rr_ra, hc_ra⟩ := ra.at
  have hle2 := rg.le
  refine wp_sc ?_
  refine wp_sq ?_
  refine sq_v rfl (v_assign rfl) rfl ?_
  refine sq_end ?_
  refine qs_n ?_
  refine wp_sc ?_
  refine wp_sq ?_
  refine sq_v rfl (v_move rfl) rfl ?_
  refine sq_x rfl (x_call rfl en_88 (fun w s => ct_s_l05Ints _ _ w (ro.mono (s.get 0 rfl)) (by first | assumption | omega))) rfl ?_; rintro v13 h13 r13
  refine sq_v rfl (v_assign rfl) rfl ?_
  refine sq_end ?_
  refine qs_n ?_
  refine wp_sc ?_
  refine wp_sc ?_
  refine wp_sq ?_
  refine sq_v rfl (v_move rfl) rfl ?_
  refine sq_v rfl (v_nilCheck rfl) rfl ?_
  refine sq_v rfl (v_fieldAddr fd_189_0 ty_46 (by decide) rfl) rfl ?_
  refine sq_v rfl (v_load 1 ty_46 rfl rfl r.c0) rfl ?_
  refine sq_v rfl (v_len Try.underlying46 rfl ra.sl) rfl ?_
  refine sq_v rfl (v_move rfl) rfl ?_
  refine sq_end ?_
  refine qs_n ?_
  refine wp_bl ?_
  refine wp_lp (σ := Nat × Value × PH) (fun z_ => [(0, .pointer (some ⟨bb, 0, none⟩)), (2, num a), (3, num b), (8, .slice none 0 0), (9, z_.2.1), (17, va), (18, num (shTens f sh).length), (19, num z_.1)]) (fun z_ => [z_.2.2, hp w]) (fun z_ => z_.1 ≤ sh.all.length ∧ IntsO (keepTo op sh a b z_.1) z_.2.1 z_.2.2) (fun z_ => sh.all.length - z_.1) (0, v13, h13) (⟨by (try dsimp only); omega, by (try dsimp only); simpa [keepTo] using r13⟩) ⟨rfl, rfl, rfl, rfl, (by first | rfl | exact ksub rfl (by first | omega | (simp; done) | (simp; omega))), rfl, rfl, (by first | rfl | exact ksub rfl (by first | omega | (simp; done) | (simp; omega))), trivial⟩ (fun _ s => s) ?_
  rintro ⟨i, lv, lh⟩ ⟨hi, q⟩
  dsimp only at hi q ⊢
  have hle_q := q.toR.le
  have hkl := keepTo_len (op := op) (a := a) (b := b) (fun i => hfi.few i) i
  refine wp_sc ?_
  refine wp_sq ?_
  refine sq_v rfl (v_lss rfl rfl) rfl ?_
  refine sq_end ?_
  refine qs_n ?_
  refine wp_sc ?_
  refine wp_cd rfl (fun c20 => ?_) (fun c20 => ?_)
  · refine wp_sk ?_
    refine qs_n ?_
    refine wp_sc ?_
    refine wp_bl ?_
    refine wp_sc ?_
    refine wp_sq ?_
    refine sq_v rfl (v_move rfl) rfl ?_
    obtain ⟨t22, a22, b22, c22, ht22, hcs22, rl22, rd22, rx22⟩ := hc_ra (i) (by first | omega | (rw [List.length_set]; omega))
    refine sq_v rfl (v_indexAddr Try.underlying46 ty_28 rfl rfl rr_ra (by decide) (by omega) (by omega)) rfl ?_
    refine sq_v rfl (v_loadNE 1 ty_28 rfl rfl rr_ra (by have := rr_ra.1; omega) rfl hcs22) rfl ?_
    refine sq_x rfl (x_alloc ty_28 rfl) rfl ?_; rintro _ _ ⟨b11, rfl, rfl⟩
    refine sq_v rfl (v_assign rfl) rfl ?_
    refine sq_m 0 rfl rfl (m_store 0 ty_28 rfl rfl rfl rfl (by simp [rl22.sl.one, rd22.sl.one, rx22.sl.one]) rfl (Nat.le_of_ble_eq_true rfl)) rfl ?_; rintro _ _ ⟨rfl, rfl⟩
    refine sq_end ?_
    have et := shTens_at ht22
    have etl : t22.l = sh.lab i := by rw [et]
    have hlf := hfi.few i
    rw [← etl] at hlf
    refine qs_n ?_
    refine wp_sc ?_
    refine wp_sq ?_
    refine sq_v rfl (v_move rfl) rfl ?_
    refine sq_v rfl (v_nilCheck rfl) rfl ?_
    refine sq_v rfl (v_fieldAddr fd_189_1 ty_128 (by decide) rfl) rfl ?_
    refine sq_v rfl (v_load 2 ty_128 rfl rfl r.c1) rfl ?_
    refine sq_v rfl (v_move rfl) rfl ?_
    refine sq_v rfl (v_idxB Try.underlying128 ty_4 rfl rfl rg (by first | omega | (simp only [List.length_cons, List.length_nil]; omega) | (simp only [List.length_append, List.length_cons, List.length_nil]; omega) | (rw [List.length_set]; omega) | (rw [List.length_replicate]; omega) | (simp; omega)) (by first | omega | (simp only [List.length_cons, List.length_nil]; omega) | (simp only [List.length_append, List.length_cons, List.length_nil]; omega) | (rw [List.length_set]; omega) | (rw [List.length_replicate]; omega) | (simp; omega))) rfl ?_
    refine sq_v rfl (v_loadBl (k := i) 2 ty_4 rfl rfl rg (by first | omega | (simp only [List.length_cons, List.length_nil]; omega) | (simp only [List.length_append, List.length_cons, List.length_nil]; omega) | (rw [List.length_set]; omega) | (rw [List.length_replicate]; omega) | (simp; omega))) rfl ?_
    refine sq_bb 30 rfl (fun c30 => ?_) (fun c30 => ?_)
    · refine sq_v rfl (v_not rfl) rfl ?_
      refine sq_v rfl (v_move rfl) rfl ?_
      refine sq_s rfl rfl ?_
      refine sq_s rfl rfl ?_
      refine sq_s rfl rfl ?_
      refine sq_v rfl (v_pickf rfl rfl) rfl ?_
      refine sq_v rfl (v_move rfl) rfl ?_
      refine sq_s rfl rfl ?_
      refine sq_s rfl rfl ?_
      refine sq_s rfl rfl ?_
      refine sq_v rfl (v_pickf rfl rfl) rfl ?_
      refine sq_end ?_
      refine qs_n ?_
      refine wp_cf rfl ?_
      refine wp_sk ?_
      refine qs_bn ?_
      refine qs_n ?_
      refine wp_sq ?_
      refine sq_v rfl (v_add rfl rfl ((by unfold I64; omega))) rfl ?_
      refine sq_v rfl (v_move rfl) rfl ?_
      refine sq_end ?_
      exact qs_bk (i + 1, lv, lh) ⟨by (try dsimp only); omega, by (try dsimp only); rw [keepTo_no (fun h => by rw [c30] at h; exact absurd h.1 (by decide))]; exact q⟩ (by simp only; omega) ⟨rfl, rfl, rfl, rfl, (by first | rfl | exact ksub rfl (by first | omega | (simp; done) | (simp; omega))), rfl, rfl, (by first | rfl | exact ksub rfl (by first | omega | (simp; done) | (simp; omega))), trivial⟩ (fun _ s => s.pick [1, 2] (by decide) rfl)
    · refine sq_v rfl (v_not rfl) rfl ?_
      refine sq_v rfl (v_move rfl) rfl ?_
      refine sq_v rfl (v_move rfl) rfl ?_
      refine sq_v rfl (v_move rfl) rfl ?_
      refine sq_v rfl (v_neq rfl rfl) rfl ?_
      refine sq_v rfl (v_pickt rfl rfl) rfl ?_
      refine sq_bd 36 rfl (fun c36 => ?_) (fun c36 => ?_)
      · refine sq_v rfl (v_move rfl) rfl ?_
        refine sq_v rfl (v_move rfl) rfl ?_
        refine sq_v rfl (v_move rfl) rfl ?_
        refine sq_v rfl (v_neq rfl rfl) rfl ?_
        refine sq_v rfl (v_pickt rfl rfl) rfl ?_
        refine sq_end ?_
        refine qs_n ?_
        refine wp_cd rfl (fun c41 => ?_) (fun c41 => ?_)
        · refine wp_sq ?_
          refine sq_v rfl (v_move rfl) rfl ?_
          refine sq_v rfl (v_fieldAddr fd_28_0 ty_24 (by decide) rfl) rfl ?_
          refine sq_v rfl (v_loadB 0 ty_24 rfl rfl rfl) rfl ?_
          refine sq_m 1 rfl rfl (m_appI 1 2 Try.underlying24 ty_3 rfl rfl rfl rfl q rfl rl22 (by first | omega | (simp only [List.length_cons, List.length_nil]; omega) | (simp only [List.length_append, List.length_cons, List.length_nil]; omega) | (rw [List.length_set]; omega) | (rw [List.length_replicate]; omega) | (simp; omega))) rfl ?_; intro v45 h_r45 r45
          refine sq_v rfl (v_assign rfl) rfl ?_
          refine sq_end ?_
          refine qs_bn ?_
          refine qs_n ?_
          refine wp_sq ?_
          refine sq_v rfl (v_add rfl rfl ((by unfold I64; omega))) rfl ?_
          refine sq_v rfl (v_move rfl) rfl ?_
          refine sq_end ?_
          exact qs_bk (i + 1, v45, h_r45) ⟨by (try dsimp only); omega, by (try dsimp only); rw [keepTo_yes ⟨c30, by omega, by omega⟩, ← etl]; exact r45⟩ (by simp only; omega) ⟨rfl, rfl, rfl, rfl, (by first | rfl | exact ksub rfl (by first | omega | (simp; done) | (simp; omega))), rfl, rfl, (by first | rfl | exact ksub rfl (by first | omega | (simp; done) | (simp; omega))), trivial⟩ (fun _ s => s.pick [1, 2] (by decide) rfl)
        · refine wp_sk ?_
          refine qs_bn ?_
          refine qs_n ?_
          refine wp_sq ?_
          refine sq_v rfl (v_add rfl rfl ((by unfold I64; omega))) rfl ?_
          refine sq_v rfl (v_move rfl) rfl ?_
          refine sq_end ?_
          exact qs_bk (i + 1, lv, lh) ⟨by (try dsimp only); omega, by (try dsimp only); rw [keepTo_no (fun h => h.2.2 (by omega))]; exact q⟩ (by simp only; omega) ⟨rfl, rfl, rfl, rfl, (by first | rfl | exact ksub rfl (by first | omega | (simp; done) | (simp; omega))), rfl, rfl, (by first | rfl | exact ksub rfl (by first | omega | (simp; done) | (simp; omega))), trivial⟩ (fun _ s => s.pick [1, 2] (by decide) rfl)
      · refine sq_v rfl (v_move rfl) rfl ?_
        refine sq_s rfl rfl ?_
        refine sq_s rfl rfl ?_
        refine sq_s rfl rfl ?_
        refine sq_v rfl (v_pickf rfl rfl) rfl ?_
        refine sq_end ?_
        refine qs_n ?_
        refine wp_cf rfl ?_
        refine wp_sk ?_
        refine qs_bn ?_
        refine qs_n ?_
        refine wp_sq ?_
        refine sq_v rfl (v_add rfl rfl ((by unfold I64; omega))) rfl ?_
        refine sq_v rfl (v_move rfl) rfl ?_
        refine sq_end ?_
        exact qs_bk (i + 1, lv, lh) ⟨by (try dsimp only); omega, by (try dsimp only); rw [keepTo_no (fun h => h.2.1 (by omega))]; exact q⟩ (by simp only; omega) ⟨rfl, rfl, rfl, rfl, (by first | rfl | exact ksub rfl (by first | omega | (simp; done) | (simp; omega))), rfl, rfl, (by first | rfl | exact ksub rfl (by first | omega | (simp; done) | (simp; omega))), trivial⟩ (fun _ s => s.pick [1, 2] (by decide) rfl)
  · refine wp_ex ?_
    refine qs_x ?_
    refine qs_x ?_
    refine qs_bx ?_
    refine qs_n ?_
    refine wp_sc ?_
    refine wp_sq ?_
    refine sq_v rfl (v_move rfl) rfl ?_
    refine sq_v rfl (v_assign rfl) rfl ?_
    refine sq_end ?_
    refine qs_n ?_
    refine wp_rt ?_
    exact qs_ret1 rfl rfl (fin_t 0 (i := 1) rfl rfl rfl (by rw [show sh.all.length = i by omega]; exact q))
theorem SpR.of {f : Int → Int} {s : Sh} {va vg : Value} {bb : Nat} {h ha hg X : PH} {cs : List Value} (hok : s.ok) (hb : PLe (box bb [va, vg] 189) h) (ra : RowO 28 cs s.all.length 3 va ha) (la : PLe ha h) (rt : TensL (shTens f s) cs X) (lx : PLe X h) (rg : BoolsO s.gone vg hg) (lg : PLe hg h) : SpR f s va vg bb h :=
  ⟨hok, cellP.mono hb (by rw [cellP_box]; rfl), cellP.mono hb (by rw [cellP_box]; rfl), (rt.mono lx).tens (by rw [shTens_len]; exact ra.toR.mono la), rg.toR.mono lg⟩
noncomputable def costL (f : Int → Int) (s : Sh) (a b : Nat) : Int := min 1000000000 (prodI ((joinI (s.lab a) (s.lab b)).map f))
theorem res_keep {op : List Int} {s : Sh} {a b : Nat} : (joinI (s.lab a) (s.lab b)).filter (fun x => decide (x ∈ keepTo op s a b s.all.length)) = s.res op a b := by
  unfold Sh.res
  refine List.filter_congr fun x _ => ?_
  rw [decide_eq_decide]
  exact mem_keepTo
theorem step_tens {f : Int → Int} {op : List Int} {s : Sh} {a b : Nat} : shTens f (s.step op a b) = shTens f s ++ [⟨s.res op a b, (s.res op a b).map f, []⟩] := by simp [shTens, Sh.step]
set_option maxHeartbeats 2000000 in
theorem ct_s_l17Step (f : Int → Int) (sh : Sh) (op : List Int) (vo : Value) (bb : Nat) (x y : Int) (w : World) (h q : PH) (hle : PLe h (hp w)) (hq : PLe q (restP w h)) (rs : SpO f sh bb h q) (ro : IntsR op vo (restP w h))
    (hfi : sh.fine) (hfit : ∀ i, ∀ l ∈ sh.lab i, 1 ≤ f l ∧ f l ≤ 8) (hst : stepOk sh ⟨x, y⟩) (hall : sh.all.length ≤ 1000) (hop : op.length ≤ 1048576) :
    Calls Try.prog 146 [.pointer (some ⟨bb, 0, none⟩), vo, stepV x y].toArray w (Ret w h (fun u h' => u = num (costL f sh x.toNat y.toNat) ∧ SpO f (sh.step op x.toNat y.toNat) bb h' q)) := by
  obtain ⟨hok, va, vg, ha, hg, hs, cs, ra, rg, rt, md⟩ := rs
  obtain ⟨⟨hx0, hx1, hx2⟩, ⟨hy0, hy1, hy2⟩, hxy⟩ := hst
  dsimp only at hx0 hx1 hx2 hy0 hy1 hy2 hxy
  have hgl : sh.gone.length = sh.all.length := hok
  have hsl : PLe hs h := md.le hs (by simp)
  have hdr := PDj.rest (w := w) hsl
  have rt' := rt.mono (PUn.mono_r (a := hs) hq)
  have rox := ro.mono (PLe.un_r hdr)
  have rr := ra.toR
  have hln := shTens_len f sh
  have hc : ∀ i, i < sh.all.length → ∃ t a b c, (shTens f sh)[i]? = some t ∧ (cs.drop (i * 3)).take 3 = [a, b, c] ∧ IntsR t.l a (PUn hs (restP w h)) ∧ IntsR t.d b (PUn hs (restP w h)) ∧ IntsR t.x c (PUn hs (restP w h)) := fun i hi => by
    have ht := List.getElem?_eq_getElem (l := shTens f sh) (i := i) (by omega)
    obtain ⟨a, b, c, e, r1, r2, r3⟩ := rt'.2 i _ ht
    exact ⟨_, a, b, c, ht, e, r1, r2, r3⟩
  refine calls_in Try.func146 rfl Try.ntmps146 rfl (Sat.merge (Sat.pick (HS' := [hs, restP w h, box bb [va, vg] _, ha, hg]) (Sat.open (A := [restP w h]) md (Sat.start2 hle)) [4, 0, 1, 2, 3] (by decide) rfl)) ?_
  have hle0 := rox.le
  have hle3 := rg.toR.le
  refine wp_sc ?_
  refine wp_sq ?_
  refine sq_x rfl (x_box rfl rfl) rfl ?_; rintro _ _ ⟨b5, rfl, rfl⟩
  refine sq_v rfl (v_assign rfl) rfl ?_
  refine sq_end ?_
  refine qs_n ?_
  refine wp_sc ?_
  refine wp_rj 24 [(0, true), (1, true), (2, true), (3, true), (4, true), (5, true), (6, true), (7, true), (8, true), (9, true), (10, true), (11, true), (12, true), (13, true), (14, true), (15, true), (16, false), (17, true), (18, true), (19, true), (20, true), (21, true), (22, true), (23, true)] mixed_ok (by kernel_rfl) ?_
  refine rj_v rfl rfl (v_move rfl) rfl ?_
  refine rj_v rfl rfl (v_nilCheck rfl) rfl ?_
  refine rj_v rfl rfl (v_fieldAddr fd_189_0 ty_46 (by decide) rfl) rfl ?_
  refine rj_v rfl rfl (v_loadB 2 ty_46 rfl rfl rfl) rfl ?_
  refine rj_v rfl rfl (v_fieldAddr fd_114_0 ty_3 (by decide) rfl) rfl ?_
  refine rj_v rfl rfl (v_loadB 0 ty_3 rfl rfl rfl) rfl ?_
  obtain ⟨t18, a18, b18, c18, ht18, hcs18, rl18, rd18, rx18⟩ := hc ((x : Int).toNat) (by first | omega | (rw [List.length_set]; omega))
  refine rj_v rfl rfl (v_indexAddr Try.underlying46 ty_28 rfl rfl rr (by decide) (by omega) (by omega)) rfl ?_
  refine rj_v rfl rfl (v_loadNE 3 ty_28 rfl rfl rr (by have := rr.1; omega) rfl hcs18) rfl ?_
  refine rj_v rfl rfl (v_move rfl) rfl ?_
  refine rj_v rfl rfl (v_nilCheck rfl) rfl ?_
  refine rj_v rfl rfl (v_fieldAddr fd_189_0 ty_46 (by decide) rfl) rfl ?_
  refine rj_v rfl rfl (v_loadB 2 ty_46 rfl rfl rfl) rfl ?_
  refine rj_v rfl rfl (v_fieldAddr fd_114_1 ty_3 (by decide) rfl) rfl ?_
  refine rj_v rfl rfl (v_loadB 0 ty_3 rfl rfl rfl) rfl ?_
  obtain ⟨t26, a26, b26, c26, ht26, hcs26, rl26, rd26, rx26⟩ := hc ((y : Int).toNat) (by first | omega | (rw [List.length_set]; omega))
  refine rj_v rfl rfl (v_indexAddr Try.underlying46 ty_28 rfl rfl rr (by decide) (by omega) (by omega)) rfl ?_
  refine rj_v rfl rfl (v_loadNE 3 ty_28 rfl rfl rr (by have := rr.1; omega) rfl hcs26) rfl ?_
  have e18 := shTens_at ht18; have e26 := shTens_at ht26; have l18 : t18.l = sh.lab x.toNat := (by rw [e18]); have l26 : t26.l = sh.lab y.toNat := (by rw [e26]); have hf18 := hfi.few x.toNat; have hf26 := hfi.few y.toNat; have hjl := joinI_len t18.l t26.l; rw [l18, l26] at hjl
  refine rj_x rfl rfl (x_call rfl en_181 (fun w s => ct_u_l08Join f t18 t26 _ _ _ _ _ _ w (rl18.mono (s.get 1 rfl)) (rd18.mono (s.get 1 rfl)) (rl26.mono (s.get 1 rfl)) (rd26.mono (s.get 1 rfl)) (by rw [e18]) (by rw [e26]) (by rw [l26]; exact (hfi.2 _).1) (by rw [l18, l26]; omega))) rfl ?_; rintro _ h28 ⟨v1, v2, rfl, rj1, rj2⟩
  refine rj_v rfl rfl (v_move rfl) rfl ?_
  refine rj_v rfl rfl (v_extract rfl rfl) rfl ?_
  refine rj_v rfl rfl (v_extract rfl rfl) rfl ?_
  refine rj_v rfl rfl (v_extract rfl rfl) rfl ?_
  refine rj_v rfl rfl (v_assign rfl) rfl ?_
  refine rj_v rfl rfl (v_assign rfl) rfl ?_
  refine rj_v rfl rfl (v_assign rfl) rfl ?_
  refine rj_end ?_
  refine qs_n ?_
  refine wp_sc ?_
  refine wp_sq ?_
  refine sq_v rfl (v_move rfl) rfl ?_
  refine sq_v rfl (v_move rfl) rfl ?_
  refine sq_v rfl (v_move rfl) rfl ?_
  refine sq_v rfl (v_move rfl) rfl ?_
  refine sq_v rfl (v_fieldAddr fd_114_0 ty_3 (by decide) rfl) rfl ?_
  refine sq_v rfl (v_loadB 1 ty_3 rfl rfl rfl) rfl ?_
  refine sq_v rfl (v_fieldAddr fd_114_1 ty_3 (by decide) rfl) rfl ?_
  refine sq_v rfl (v_loadB 1 ty_3 rfl rfl rfl) rfl ?_
  refine sq_x rfl (x_call rfl en_209 (fun w s => ct_s_l17Keep f sh _ _ _ _ _ _ _ w (SpR.of hok (s.get 3 rfl) ra (s.get 4 rfl) rt' (s.get 2 rfl) rg (s.get 5 rfl)) (rox.mono (s.get 2 rfl)) (by first | assumption | omega) (by omega) hop)) rfl ?_; rintro v40 h40 r40
  refine sq_x rfl (x_call rfl en_192 (fun w s => ct_s_l08Keep _ _ _ _ _ _ w (rj1.mono (s.get 1 rfl)) (rj2.mono (s.get 1 rfl)) (r40.toR.mono (s.get 0 rfl)) (by rw [List.length_map]) (by rw [l18, l26]; omega))) rfl ?_; rintro _ h41 ⟨k1, k2, g1, g2, rfl, rk1, rk2, mdk⟩
  refine sq_x rfl (x_alloc ty_28 rfl) rfl ?_; rintro _ _ ⟨b10, rfl, rfl⟩
  refine sq_m 0 rfl rfl (m_store 0 ty_28 rfl rfl rfl rfl (by simp [(rk1.toR.mono (mdk.le g1 (by simp))).sl.one, (rk2.toR.mono (mdk.le g2 (by simp))).sl.one, one_sl]) rfl (Nat.le_of_ble_eq_true rfl)) rfl ?_; rintro _ _ ⟨rfl, rfl⟩
  refine sq_end ?_
  refine qs_n ?_
  refine wp_sc ?_
  refine wp_rj 7 [(0, true), (1, true), (2, true), (3, true), (4, true), (5, true), (6, true), (7, false)] mixed_ok (by kernel_rfl) ?_
  refine rj_v rfl rfl (v_move rfl) rfl ?_
  refine rj_v rfl rfl (v_nilCheck rfl) rfl ?_
  refine rj_v rfl rfl (v_fieldAddr fd_189_1 ty_128 (by decide) rfl) rfl ?_
  refine rj_v rfl rfl (v_loadB 6 ty_128 rfl rfl rfl) rfl ?_
  refine rj_v rfl rfl (v_fieldAddr fd_114_0 ty_3 (by decide) rfl) rfl ?_
  refine rj_v rfl rfl (v_loadB 4 ty_3 rfl rfl rfl) rfl ?_
  refine rj_v rfl rfl (v_idxB Try.underlying128 ty_4 rfl rfl rg.toR (by first | omega | (simp only [List.length_cons, List.length_nil]; omega) | (simp only [List.length_append, List.length_cons, List.length_nil]; omega) | (rw [List.length_set]; omega) | (rw [List.length_replicate]; omega) | (simp; omega)) (by first | omega | (simp only [List.length_cons, List.length_nil]; omega) | (simp only [List.length_append, List.length_cons, List.length_nil]; omega) | (rw [List.length_set]; omega) | (rw [List.length_replicate]; omega) | (simp; omega))) rfl ?_
  refine rj_m 8 rfl rfl rfl rfl (m_storeBl 8 ty_4 rfl rfl rfl rg (by first | omega | (simp only [List.length_cons, List.length_nil]; omega) | (simp only [List.length_append, List.length_cons, List.length_nil]; omega) | (rw [List.length_set]; omega) | (rw [List.length_replicate]; omega) | (simp; omega))) rfl ?_; rintro _ h_q3_7 ⟨rfl, q3_7⟩
  refine rj_end ?_
  refine qs_n ?_
  refine wp_sc ?_
  refine wp_rj 7 [(0, true), (1, true), (2, true), (3, true), (4, true), (5, true), (6, true), (7, false)] mixed_ok (by kernel_rfl) ?_
  refine rj_v rfl rfl (v_move rfl) rfl ?_
  refine rj_v rfl rfl (v_nilCheck rfl) rfl ?_
  refine rj_v rfl rfl (v_fieldAddr fd_189_1 ty_128 (by decide) rfl) rfl ?_
  refine rj_v rfl rfl (v_loadB 6 ty_128 rfl rfl rfl) rfl ?_
  refine rj_v rfl rfl (v_fieldAddr fd_114_1 ty_3 (by decide) rfl) rfl ?_
  refine rj_v rfl rfl (v_loadB 4 ty_3 rfl rfl rfl) rfl ?_
  refine rj_v rfl rfl (v_idxB Try.underlying128 ty_4 rfl rfl q3_7.toR (by first | omega | (simp only [List.length_cons, List.length_nil]; omega) | (simp only [List.length_append, List.length_cons, List.length_nil]; omega) | (rw [List.length_set]; omega) | (rw [List.length_replicate]; omega) | (simp; omega)) (by first | omega | (simp only [List.length_cons, List.length_nil]; omega) | (simp only [List.length_append, List.length_cons, List.length_nil]; omega) | (rw [List.length_set]; omega) | (rw [List.length_replicate]; omega) | (simp; omega))) rfl ?_
  refine rj_m 8 rfl rfl rfl rfl (m_storeBl 8 ty_4 rfl rfl rfl q3_7 (by first | omega | (simp only [List.length_cons, List.length_nil]; omega) | (simp only [List.length_append, List.length_cons, List.length_nil]; omega) | (rw [List.length_set]; omega) | (rw [List.length_replicate]; omega) | (simp; omega))) rfl ?_; rintro _ h_q4_7 ⟨rfl, q4_7⟩
  refine rj_end ?_
  refine qs_n ?_
  refine wp_sc ?_
  refine wp_rk [false, false, false, false, false, false, false, true, false] 8 [(0, true), (1, true), (2, true), (3, true), (4, true), (5, true), (6, false), (7, false), (8, false), (9, false), (10, false)] mixed_ok (by kernel_rfl) ?_
  refine rk_v rfl rfl (v_move rfl) rfl ?_
  refine rk_v rfl rfl (v_move rfl) rfl ?_
  refine rk_v rfl rfl (v_nilCheck rfl) rfl ?_
  refine rk_v rfl rfl (v_fieldAddr fd_189_0 ty_46 (by decide) rfl) rfl ?_
  refine rk_v rfl rfl (v_loadB 6 ty_46 rfl rfl rfl) rfl ?_
  refine rk_v rfl rfl (v_loadNB 0 ty_28 rfl rfl rfl rfl) rfl ?_
  refine rk_x rfl rfl (x_buildS [.agg [k1, k2, .slice none 0 0].toArray] Try.underlying46 ty_28 (by decide) rfl rfl rfl (by decide) (by decide) (by intro v hv; simp at hv; subst hv; rfl)) rfl ?_; intro v62 h62 (r62 : RowO 28 [k1, k2, .slice none 0 0] 1 3 v62 h62)
  refine rk_m 8 rfl rfl rfl rfl (m_append 8 0 Try.underlying46 ty_28 rfl rfl (by decide) rfl rfl rfl ra rfl r62.toR (by simp [one_sl, (rk1.toR.mono (mdk.le g1 (by simp))).sl.one, (rk2.toR.mono (mdk.le g2 (by simp))).sl.one]) (by unfold maxLen; omega) (by omega)) rfl ?_; intro v63 h_r63 (r63 : RowO 28 (cs ++ [k1, k2, .slice none 0 0]) (sh.all.length + 1) 3 v63 h_r63)
  refine rk_fv rfl rfl (v_nilCheck rfl) rfl ?_
  refine rk_fv rfl rfl (v_fieldAddr fd_189_0 ty_46 (by decide) rfl) rfl ?_
  refine rk_mt 7 rfl rfl rfl rfl (m_store1 7 ty_46 rfl rfl r63.toR.sl.one rfl (Nat.le_of_ble_eq_true rfl)) rfl ?_; rintro _ _ ⟨rfl, rfl⟩
  refine rk_end ?_
  refine qs_n ?_
  refine wp_sc ?_
  refine wp_sq ?_
  refine sq_v rfl (v_move rfl) rfl ?_
  refine sq_v rfl (v_move rfl) rfl ?_
  refine sq_v rfl (v_nilCheck rfl) rfl ?_
  refine sq_v rfl (v_fieldAddr fd_189_1 ty_128 (by decide) rfl) rfl ?_
  refine sq_v rfl (v_loadB 7 ty_128 rfl rfl rfl) rfl ?_
  refine sq_x rfl (x_buildS [.bool (false)] Try.underlying128 ty_4 (by decide) rfl rfl rfl (by decide) (by decide) (by intro v hv; simp at hv; rcases hv with rfl <;> rfl)) rfl ?_; intro v71 h71 (r71 : BoolsO [false] v71 h71)
  refine sq_m 10 rfl rfl (m_appBl 10 0 Try.underlying128 ty_4 rfl rfl rfl rfl q4_7 rfl r71.toR (by first | omega | (simp only [List.length_cons, List.length_nil]; omega) | (simp only [List.length_append, List.length_cons, List.length_nil]; omega) | (rw [List.length_set]; omega) | (rw [List.length_replicate]; omega) | (simp; omega))) rfl ?_; intro v72 h_r72 r72
  refine sq_v rfl (v_nilCheck rfl) rfl ?_
  refine sq_v rfl (v_fieldAddr fd_189_1 ty_128 (by decide) rfl) rfl ?_
  refine sq_m 8 rfl rfl (m_store1 8 ty_128 rfl rfl r72.toR.sl.one rfl (Nat.le_of_ble_eq_true rfl)) rfl ?_; rintro _ _ ⟨rfl, rfl⟩
  refine sq_end ?_
  refine qs_n ?_
  refine wp_sc ?_
  refine wp_sq ?_
  refine sq_v rfl (v_move rfl) rfl ?_
  have hdj : dimsIn ((joinI t18.l t26.l).map f) := (map_dims (fun z hz => by rw [l18, l26] at hz; exact (mem_joinI.1 hz).elim (hfit _ z) (hfit _ z)))
  refine sq_u rfl (x_callv rfl en_120 (fun w s => ct_s_l05Product _ _ _ w (rj2.mono (s.get 5 rfl)) (by first | assumption | omega) (by first | assumption | omega))) rfl ?_
  refine sq_v rfl (v_min rfl rfl) rfl ?_
  refine sq_v rfl (v_assign rfl) rfl ?_
  refine sq_end ?_
  refine qs_n ?_
  refine wp_rt ?_
  refine qs_s [hs, restP w h, h41, box bb _ _, h_r63, h_r72] (fun _ s => Sat.part (a := hs) (b := restP w h) hdr (s.pick [7, 3, 8, 9, 10] (by decide) rfl)) ?_
  refine qs_close [restP w h, box bb _ _, h_r63, h_r72] [hs, h41] (fun _ s => s.pick [1, 3, 4, 5, 0, 2] (by decide) rfl) (fun md1 => ?_)
  refine qs_dj 0 1 rfl rfl rfl (fun hdq => ?_)
  have hdq' : PDj (joinP [hs, h41]) q := (hdq.symm.mono hq).symm
  refine qs_close [restP w h] [box bb _ _, h_r63, h_r72, joinP [hs, h41]] (fun _ s => s.pick [1, 2, 3, 4, 0] (by decide) rfl) (fun md2 => ?_)
  have hxy' : (x.toNat : Int) = x ∧ (y.toNat : Int) = y := by omega
  have hk := res_keep (op := op) (s := sh) (a := x.toNat) (b := y.toNat)
  rw [hxy'.1, hxy'.2] at hk
  rw [l18, l26, hk] at rk1
  rw [l18, l26, selP_map, hk] at rk2
  have lk := (mdk.le g1 (by simp)).trans ((md1.le h41 (by simp)).trans (PLe.un_l _ q))
  have lk2 := (mdk.le g2 (by simp)).trans ((md1.le h41 (by simp)).trans (PLe.un_l _ q))
  have hnew := (rt.mono (PUn.mono_l (md1.le hs (by simp)) hdq')).snoc (t := ⟨sh.res op x.toNat y.toNat, (sh.res op x.toNat y.toNat).map f, []⟩) (rk1.toR.mono lk) (rk2.toR.mono lk2) (IntsR.nil _)
  rw [← step_tens] at hnew
  have hsl2 : (sh.step op x.toNat y.toNat).all.length = sh.all.length + 1 := by simp [Sh.step]
  exact qs_ret1 rfl rfl (fin_m (i := 1) 0 rfl rfl rfl ⟨by rw [costL, l18, l26]; congr 1; omega, Sh.step_ok hok _ _, v63, v72, _, _, _, _, by rw [hsl2]; exact r63, r72, hnew, md2⟩)
end Go.Proofs.Ytikeobneipjfnaa
