/-
  Parts of the proof of FnExactImproveOrder: laws of heaps, contracts of functions.
  Conditions: none.
-/
import Derived.Test.YtikeobneipjfnaaQImproveOrder4
namespace Go.Proofs.Ytikeobneipjfnaa
set_option maxRecDepth 100000
open Go.RowKit
def TensL (ts : List Ten) (cs : List Value) (h : PH) : Prop := cs.length = ts.length * 3 ∧ ∀ (i : Nat) (t : Ten), ts[i]? = some t → TenR t ((cs.drop (i * 3)).take 3) h
theorem TensL.nil (h : PH) : TensL [] [] h := ⟨rfl, fun i x e => by simp at e⟩
theorem TensL.mono {ts : List Ten} {cs : List Value} {h h' : PH} (r : TensL ts cs h) (l : PLe h h') : TensL ts cs h' := ⟨r.1, fun i x e => (r.2 i x e).mono l⟩
theorem TensL.snoc {ts : List Ten} {cs : List Value} {h : PH} (r : TensL ts cs h) {t : Ten} {a b c : Value} (r1 : IntsR t.l a h) (r2 : IntsR t.d b h) (r3 : IntsR t.x c h) : TensL (ts ++ [t]) (cs ++ [a, b, c]) h := by
  refine ⟨by simp [r.1]; omega, fun i y e => ?_⟩
  by_cases hi : i < ts.length
  · rw [List.getElem?_append_left hi] at e
    have := r.2 i y e
    have e2 : ((cs ++ [a, b, c]).drop (i * 3)).take 3 = (cs.drop (i * 3)).take 3 := by
      rw [List.drop_append, List.take_append]
      have hl : 3 - (cs.drop (i * 3)).length = 0 := by simp [r.1]; omega
      rw [hl, List.take_zero, List.append_nil]
    rw [e2]; exact this
  · have hlt := (List.getElem?_eq_some_iff.1 e).1
    simp at hlt
    have : i = ts.length := by omega
    subst this
    rw [List.getElem?_append_right (by omega)] at e
    simp at e
    subst e
    have e2 : ((cs ++ [a, b, c]).drop (ts.length * 3)).take 3 = [a, b, c] := by
      rw [← r.1, List.drop_left]; rfl
    rw [e2]
    exact ⟨a, b, c, rfl, r1, r2, r3⟩
theorem TensL.tens {ts : List Ten} {cs : List Value} {v : Value} {h : PH} (r : TensL ts cs h) (rr : RowR cs ts.length 3 v h) : TensR ts v h := ⟨cs, rr, r.2⟩
theorem PUn.mono_r {a q q' : PH} (l : PLe q q') : PLe (PUn a q) (PUn a q') := fun k o e => by
  unfold PUn at *
  split at e
  · exact e
  · exact l k o e
theorem PUn.mono_l {a b q : PH} (l : PLe a b) (d : PDj b q) : PLe (PUn a q) (PUn b q) := fun k o e => by
  unfold PUn at *
  split at e
  · rename_i x hx; cases e; rw [l k _ hx]
  · rcases d k with h1 | h1
    · rw [h1]; exact e
    · rw [h1] at e; cases e
theorem PDj.rest {w : World} {h hs : PH} (l : PLe hs h) : PDj hs (restP w h) := fun k => by
  cases e : hs k with
  | none => exact .inl rfl
  | some o => right; simp [restP, l k o e]
theorem Sat.join {w0 w : World} {HS : List PH} {a b : PH} (s : Sat w0 (a :: b :: HS) w) : Sat w0 (PUn a b :: HS) w := s.merge
def shTens (f : Int → Int) (s : Sh) : List Ten := s.all.map fun l => ⟨l, l.map f, []⟩
theorem shTens_len (f : Int → Int) (s : Sh) : (shTens f s).length = s.all.length := by simp [shTens]
theorem shTens_at {f : Int → Int} {s : Sh} {i : Nat} {t : Ten} (h : (shTens f s)[i]? = some t) : t = ⟨s.lab i, (s.lab i).map f, []⟩ := by
  simp only [shTens, List.getElem?_map, Option.map_eq_some_iff] at h
  obtain ⟨l, h1, h2⟩ := h
  have : s.lab i = l := by simp [Sh.lab, List.getD, h1]
  rw [this, h2]
structure SpR (f : Int → Int) (s : Sh) (va vg : Value) (b : Nat) (h : PH) : Prop where
  ok : s.ok
  c0 : cellP h b 0 = some va
  c1 : cellP h b 1 = some vg
  all : TensR (shTens f s) va h
  gone : BoolsR s.gone vg h
def SpO (f : Int → Int) (s : Sh) (bb : Nat) (h q : PH) : Prop :=
  s.ok ∧ ∃ va vg ha hg hs cs, RowO 28 cs s.all.length 3 va ha ∧ BoolsO s.gone vg hg ∧ TensL (shTens f s) cs (PUn hs q) ∧ Made h [box bb [va, vg] 189, ha, hg, hs]
/-- What is to be kept, of the first k. -/
noncomputable def keepTo (op : List Int) (s : Sh) (a b : Int) (k : Nat) : List Int := op ++ ((List.range k).filter fun i => decide (s.gone.getD i false = false ∧ (i : Int) ≠ a ∧ (i : Int) ≠ b)).flatMap s.lab
theorem keepTo_yes {op : List Int} {s : Sh} {a b : Int} {k : Nat} (h : s.gone.getD k false = false ∧ (k : Int) ≠ a ∧ (k : Int) ≠ b) : keepTo op s a b (k + 1) = keepTo op s a b k ++ s.lab k := by
  unfold keepTo
  rw [List.range_succ, List.filter_append, List.filter_cons_of_pos (by simpa using h), List.flatMap_append]
  simp
theorem keepTo_no {op : List Int} {s : Sh} {a b : Int} {k : Nat} (h : ¬ (s.gone.getD k false = false ∧ (k : Int) ≠ a ∧ (k : Int) ≠ b)) : keepTo op s a b (k + 1) = keepTo op s a b k := by
  unfold keepTo
  rw [List.range_succ, List.filter_append, List.filter_cons_of_neg (by simpa using h)]
  simp
theorem keepTo_len {op : List Int} {s : Sh} {a b : Int} (h : ∀ i, (s.lab i).length ≤ 100) : ∀ k, (keepTo op s a b k).length ≤ op.length + 100 * k
  | 0 => by simp [keepTo]
  | k + 1 => by
    have ih := keepTo_len (op := op) (a := a) (b := b) h k
    by_cases hc : s.gone.getD k false = false ∧ (k : Int) ≠ a ∧ (k : Int) ≠ b
    · rw [keepTo_yes hc, List.length_append]; have := h k; omega
    · rw [keepTo_no hc]; omega
theorem mem_keepTo {op : List Int} {s : Sh} {a b : Nat} {x : Int} : x ∈ keepTo op s a b s.all.length ↔ s.kept op a b x := by
  simp only [keepTo, List.mem_append, List.mem_flatMap, List.mem_filter, List.mem_range, decide_eq_true_eq, Sh.kept, mem_ixs]
  refine or_congr Iff.rfl (exists_congr fun i => ?_)
  constructor
  · rintro ⟨⟨h1, h2, h3, h4⟩, h5⟩; exact ⟨⟨h1, h2⟩, by omega, by omega, h5⟩
  · rintro ⟨⟨h1, h2⟩, h3, h4, h5⟩; exact ⟨⟨h1, h2, by omega, by omega⟩, h5⟩
theorem ct_s_l17Keep (f : Int → Int) (sh : Sh) (op : List Int) (va vg vo : Value) (bb : Nat) (a b : Int) (w : World) (r : SpR f sh va vg bb (hp w)) (ro : IntsR op vo (hp w)) (hfi : sh.fine) (hall : sh.all.length ≤ 100000) (hop : op.length ≤ 1048576) :
    Calls Try.prog 209 [.pointer (some ⟨bb, 0, none⟩), vo, num a, num b].toArray w (Ret w emp (IntsO (keepTo op sh a b sh.all.length))) := by
  have ra := r.all
  have rg := r.gone
  have hln := shTens_len f sh
  have hgl : sh.gone.length = sh.all.length := hfi.1
  refine calls_in Try.func209 rfl Try.ntmps209 rfl (Sat.start w) ?_
  have hle0 := ro.le
  have hle1 := ra.le
  obtain ⟨cs_ra, rr_ra, hc_ra⟩ := ra.at
  have hle2 := rg.le
  refine wp_sc ?_
  refine wp_sq ?_
  refine sq_v rfl (v_assign rfl) rfl ?_
  refine sq_end ?_
  refine qs_n ?_
  refine wp_sc ?_
  refine wp_sq ?_
  refine sq_v rfl (v_move rfl) rfl ?_
  refine sq_x rfl (x_call rfl en_88 (fun w s => ct_s_l05Ints _ _ w (ro.mono (s.get 0 rfl)) (by first | assumption | omega))) rfl ?_; rintro v13 h13 r13
  refine sq_v rfl (v_assign rfl) rfl ?_
  refine sq_end ?_
  refine qs_n ?_
  refine wp_sc ?_
  refine wp_sc ?_
  refine wp_sq ?_
  refine sq_v rfl (v_move rfl) rfl ?_
  refine sq_v rfl (v_nilCheck rfl) rfl ?_
  refine sq_v rfl (v_fieldAddr fd_189_0 ty_46 (by decide) rfl) rfl ?_
  refine sq_v rfl (v_load 1 ty_46 rfl rfl r.c0) rfl ?_
  refine sq_v rfl (v_len Try.underlying46 rfl ra.sl) rfl ?_
  refine sq_v rfl (v_move rfl) rfl ?_
  refine sq_end ?_
  refine qs_n ?_
  refine wp_bl ?_
  refine wp_lp (σ := Nat × Value × PH) (fun z_ => [(0, .pointer (some ⟨bb, 0, none⟩)), (2, num a), (3, num b), (8, .slice none 0 0), (9, z_.2.1), (17, va), (18, num (shTens f sh).length), (19, num z_.1)]) (fun z_ => [z_.2.2, hp w]) (fun z_ => z_.1 ≤ sh.all.length ∧ IntsO (keepTo op sh a b z_.1) z_.2.1 z_.2.2) (fun z_ => sh.all.length - z_.1) (0, v13, h13) (⟨by (try dsimp only); omega, by (try dsimp only); simpa [keepTo] using r13⟩) ⟨rfl, rfl, rfl, rfl, (by first | rfl | exact ksub rfl (by first | omega | (simp; done) | (simp; omega))), rfl, rfl, (by first | rfl | exact ksub rfl (by first | omega | (simp; done) | (simp; omega))), trivial⟩ (fun _ s => s) ?_
  rintro ⟨i, lv, lh⟩ ⟨hi, q⟩
  dsimp only at hi q ⊢
  have hle_q := q.toR.le
  have hkl := keepTo_len (op := op) (a := a) (b := b) (fun i => hfi.few i) i
  refine wp_sc ?_
  refine wp_sq ?_
  refine sq_v rfl (v_lss rfl rfl) rfl ?_
  refine sq_end ?_
  refine qs_n ?_
  refine wp_sc ?_
  refine wp_cd rfl (fun c20 => ?_) (fun c20 => ?_)
  · refine wp_sk ?_
    refine qs_n ?_
    refine wp_sc ?_
    refine wp_bl ?_
    refine wp_sc ?_
    refine wp_sq ?_
    refine sq_v rfl (v_move rfl) rfl ?_
    obtain ⟨t22, a22, b22, c22, ht22, hcs22, rl22, rd22, rx22⟩ := hc_ra (i) (by first | omega | (rw [List.length_set]; omega))
    refine sq_v rfl (v_indexAddr Try.underlying46 ty_28 rfl rfl rr_ra (by decide) (by omega) (by omega)) rfl ?_
    refine sq_v rfl (v_loadNE 1 ty_28 rfl rfl rr_ra (by have := rr_ra.1; omega) rfl hcs22) rfl ?_
    refine sq_x rfl (x_alloc ty_28 rfl) rfl ?_; rintro _ _ ⟨b11, rfl, rfl⟩
    refine sq_v rfl (v_assign rfl) rfl ?_
    refine sq_m 0 rfl rfl (m_store 0 ty_28 rfl rfl rfl rfl (by simp [rl22.sl.one, rd22.sl.one, rx22.sl.one]) rfl (Nat.le_of_ble_eq_true rfl)) rfl ?_; rintro _ _ ⟨rfl, rfl⟩
    refine sq_end ?_
    have et := shTens_at ht22
    have etl : t22.l = sh.lab i := by rw [et]
    have hlf := hfi.few i
    rw [← etl] at hlf
    refine qs_n ?_
    refine wp_sc ?_
    refine wp_sq ?_
    refine sq_v rfl (v_move rfl) rfl ?_
    refine sq_v rfl (v_nilCheck rfl) rfl ?_
    refine sq_v rfl (v_fieldAddr fd_189_1 ty_128 (by decide) rfl) rfl ?_
    refine sq_v rfl (v_load 2 ty_128 rfl rfl r.c1) rfl ?_
    refine sq_v rfl (v_move rfl) rfl ?_
    refine sq_v rfl (v_idxB Try.underlying128 ty_4 rfl rfl rg (by first | omega | (simp only [List.length_cons, List.length_nil]; omega) | (simp only [List.length_append, List.length_cons, List.length_nil]; omega) | (rw [List.length_set]; omega) | (rw [List.length_replicate]; omega) | (simp; omega)) (by first | omega | (simp only [List.length_cons, List.length_nil]; omega) | (simp only [List.length_append, List.length_cons, List.length_nil]; omega) | (rw [List.length_set]; omega) | (rw [List.length_replicate]; omega) | (simp; omega))) rfl ?_
    refine sq_v rfl (v_loadBl (k := i) 2 ty_4 rfl rfl rg (by first | omega | (simp only [List.length_cons, List.length_nil]; omega) | (simp only [List.length_append, List.length_cons, List.length_nil]; omega) | (rw [List.length_set]; omega) | (rw [List.length_replicate]; omega) | (simp; omega))) rfl ?_
    refine sq_bb 30 rfl (fun c30 => ?_) (fun c30 => ?_)
    · refine sq_v rfl (v_not rfl) rfl ?_
      refine sq_v rfl (v_move rfl) rfl ?_
      refine sq_s rfl rfl ?_
      refine sq_s rfl rfl ?_
      refine sq_s rfl rfl ?_
      refine sq_v rfl (v_pickf rfl rfl) rfl ?_
      refine sq_v rfl (v_move rfl) rfl ?_
      refine sq_s rfl rfl ?_
      refine sq_s rfl rfl ?_
      refine sq_s rfl rfl ?_
      refine sq_v rfl (v_pickf rfl rfl) rfl ?_
      refine sq_end ?_
      refine qs_n ?_
      refine wp_cf rfl ?_
      refine wp_sk ?_
      refine qs_bn ?_
      refine qs_n ?_
      refine wp_sq ?_
      refine sq_v rfl (v_add rfl rfl ((by unfold I64; omega))) rfl ?_
      refine sq_v rfl (v_move rfl) rfl ?_
      refine sq_end ?_
      exact qs_bk (i + 1, lv, lh) ⟨by (try dsimp only); omega, by (try dsimp only); rw [keepTo_no (fun h => by rw [c30] at h; exact absurd h.1 (by decide))]; exact q⟩ (by simp only; omega) ⟨rfl, rfl, rfl, rfl, (by first | rfl | exact ksub rfl (by first | omega | (simp; done) | (simp; omega))), rfl, rfl, (by first | rfl | exact ksub rfl (by first | omega | (simp; done) | (simp; omega))), trivial⟩ (fun _ s => s.pick [1, 2] (by decide) rfl)
    · refine sq_v rfl (v_not rfl) rfl ?_
      refine sq_v rfl (v_move rfl) rfl ?_
      refine sq_v rfl (v_move rfl) rfl ?_
      refine sq_v rfl (v_move rfl) rfl ?_
      refine sq_v rfl (v_neq rfl rfl) rfl ?_
      refine sq_v rfl (v_pickt rfl rfl) rfl ?_
      refine sq_bd 36 rfl (fun c36 => ?_) (fun c36 => ?_)
      · refine sq_v rfl (v_move rfl) rfl ?_
        refine sq_v rfl (v_move rfl) rfl ?_
        refine sq_v rfl (v_move rfl) rfl ?_
        refine sq_v rfl (v_neq rfl rfl) rfl ?_
        refine sq_v rfl (v_pickt rfl rfl) rfl ?_
        refine sq_end ?_
        refine qs_n ?_
        refine wp_cd rfl (fun c41 => ?_) (fun c41 => ?_)
        · refine wp_sq ?_
          refine sq_v rfl (v_move rfl) rfl ?_
          refine sq_v rfl (v_fieldAddr fd_28_0 ty_24 (by decide) rfl) rfl ?_
          refine sq_v rfl (v_loadB 0 ty_24 rfl rfl rfl) rfl ?_
          refine sq_m 1 rfl rfl (m_appI 1 2 Try.underlying24 ty_3 rfl rfl rfl rfl q rfl rl22 (by first | omega | (simp only [List.length_cons, List.length_nil]; omega) | (simp only [List.length_append, List.length_cons, List.length_nil]; omega) | (rw [List.length_set]; omega) | (rw [List.length_replicate]; omega) | (simp; omega))) rfl ?_; intro v45 h_r45 r45
          refine sq_v rfl (v_assign rfl) rfl ?_
          refine sq_end ?_
          refine qs_bn ?_
          refine qs_n ?_
          refine wp_sq ?_
          refine sq_v rfl (v_add rfl rfl ((by unfold I64; omega))) rfl ?_
          refine sq_v rfl (v_move rfl) rfl ?_
          refine sq_end ?_
          exact qs_bk (i + 1, v45, h_r45) ⟨by (try dsimp only); omega, by (try dsimp only); rw [keepTo_yes ⟨c30, by omega, by omega⟩, ← etl]; exact r45⟩ (by simp only; omega) ⟨rfl, rfl, rfl, rfl, (by first | rfl | exact ksub rfl (by first | omega | (simp; done) | (simp; omega))), rfl, rfl, (by first | rfl | exact ksub rfl (by first | omega | (simp; done) | (simp; omega))), trivial⟩ (fun _ s => s.pick [1, 2] (by decide) rfl)
        · refine wp_sk ?_
          refine qs_bn ?_
          refine qs_n ?_
          refine wp_sq ?_
          refine sq_v rfl (v_add rfl rfl ((by unfold I64; omega))) rfl ?_
          refine sq_v rfl (v_move rfl) rfl ?_
          refine sq_end ?_
          exact qs_bk (i + 1, lv, lh) ⟨by (try dsimp only); omega, by (try dsimp only); rw [keepTo_no (fun h => h.2.2 (by omega))]; exact q⟩ (by simp only; omega) ⟨rfl, rfl, rfl, rfl, (by first | rfl | exact ksub rfl (by first | omega | (simp; done) | (simp; omega))), rfl, rfl, (by first | rfl | exact ksub rfl (by first | omega | (simp; done) | (simp; omega))), trivial⟩ (fun _ s => s.pick [1, 2] (by decide) rfl)
      · refine sq_v rfl (v_move rfl) rfl ?_
        refine sq_s rfl rfl ?_
        refine sq_s rfl rfl ?_
        refine sq_s rfl rfl ?_
        refine sq_v rfl (v_pickf rfl rfl) rfl ?_
        refine sq_end ?_
        refine qs_n ?_
        refine wp_cf rfl ?_
        refine wp_sk ?_
        refine qs_bn ?_
        refine qs_n ?_
        refine wp_sq ?_
        refine sq_v rfl (v_add rfl rfl ((by unfold I64; omega))) rfl ?_
        refine sq_v rfl (v_move rfl) rfl ?_
        refine sq_end ?_
        exact qs_bk (i + 1, lv, lh) ⟨by (try dsimp only); omega, by (try dsimp only); rw [keepTo_no (fun h => h.2.1 (by omega))]; exact q⟩ (by simp only; omega) ⟨rfl, rfl, rfl, rfl, (by first | rfl | exact ksub rfl (by first | omega | (simp; done) | (simp; omega))), rfl, rfl, (by first | rfl | exact ksub rfl (by first | omega | (simp; done) | (simp; omega))), trivial⟩ (fun _ s => s.pick [1, 2] (by decide) rfl)
  · refine wp_ex ?_
    refine qs_x ?_
    refine qs_x ?_
    refine qs_bx ?_
    refine qs_n ?_
    refine wp_sc ?_
    refine wp_sq ?_
    refine sq_v rfl (v_move rfl) rfl ?_
    refine sq_v rfl (v_assign rfl) rfl ?_
    refine sq_end ?_
    refine qs_n ?_
    refine wp_rt ?_
    exact qs_ret1 rfl rfl (fin_t 0 (i := 1) rfl rfl rfl (by rw [show sh.all.length = i by omega]; exact q))
theorem SpR.of {f : Int → Int} {s : Sh} {va vg : Value} {bb : Nat} {h ha hg X : PH} {cs : List Value} (hok : s.ok) (hb : PLe (box bb [va, vg] 189) h) (ra : RowO 28 cs s.all.length 3 va ha) (la : PLe ha h) (rt : TensL (shTens f s) cs X) (lx : PLe X h) (rg : BoolsO s.gone vg hg) (lg : PLe hg h) : SpR f s va vg bb h :=
  ⟨hok, cellP.mono hb (by rw [cellP_box]; rfl), cellP.mono hb (by rw [cellP_box]; rfl), (rt.mono lx).tens (by rw [shTens_len]; exact ra.toR.mono la), rg.toR.mono lg⟩
noncomputable def costL (f : Int → Int) (s : Sh) (a b : Nat) : Int := min 1000000000 (prodI ((joinI (s.lab a) (s.lab b)).map f))
theorem res_keep {op : List Int} {s : Sh} {a b : Nat} : (joinI (s.lab a) (s.lab b)).filter (fun x => decide (x ∈ keepTo op s a b s.all.length)) = s.res op a b := by
  unfold Sh.res
  refine List.filter_congr fun x _ => ?_
  rw [decide_eq_decide]
  exact mem_keepTo
theorem step_tens {f : Int → Int} {op : List Int} {s : Sh} {a b : Nat} : shTens f (s.step op a b) = shTens f s ++ [⟨s.res op a b, (s.res op a b).map f, []⟩] := by simp [shTens, Sh.step]
set_option maxHeartbeats 2000000 in
theorem ct_s_l17Step (f : Int → Int) (sh : Sh) (op : List Int) (vo : Value) (bb : Nat) (x y : Int) (w : World) (h q : PH) (hle : PLe h (hp w)) (hq : PLe q (restP w h)) (rs : SpO f sh bb h q) (ro : IntsR op vo (restP w h))
    (hfi : sh.fine) (hfit : ∀ i, ∀ l ∈ sh.lab i, 1 ≤ f l ∧ f l ≤ 8) (hst : stepOk sh ⟨x, y⟩) (hall : sh.all.length ≤ 1000) (hop : op.length ≤ 1048576) :
    Calls Try.prog 146 [.pointer (some ⟨bb, 0, none⟩), vo, stepV x y].toArray w (Ret w h (fun u h' => u = num (costL f sh x.toNat y.toNat) ∧ SpO f (sh.step op x.toNat y.toNat) bb h' q)) := by
  obtain ⟨hok, va, vg, ha, hg, hs, cs, ra, rg, rt, md⟩ := rs
  obtain ⟨⟨hx0, hx1, hx2⟩, ⟨hy0, hy1, hy2⟩, hxy⟩ := hst
  dsimp only at hx0 hx1 hx2 hy0 hy1 hy2 hxy
  have hgl : sh.gone.length = sh.all.length := hok
  have hsl : PLe hs h := md.le hs (by simp)
  have hdr := PDj.rest (w := w) hsl
  have rt' := rt.mono (PUn.mono_r (a := hs) hq)
  have rox := ro.mono (PLe.un_r hdr)
  have rr := ra.toR
  have hln := shTens_len f sh
  have hc : ∀ i, i < sh.all.length → ∃ t a b c, (shTens f sh)[i]? = some t ∧ (cs.drop (i * 3)).take 3 = [a, b, c] ∧ IntsR t.l a (PUn hs (restP w h)) ∧ IntsR t.d b (PUn hs (restP w h)) ∧ IntsR t.x c (PUn hs (restP w h)) := fun i hi => by
    have ht := List.getElem?_eq_getElem (l := shTens f sh) (i := i) (by omega)
    obtain ⟨a, b, c, e, r1, r2, r3⟩ := rt'.2 i _ ht
    exact ⟨_, a, b, c, ht, e, r1, r2, r3⟩
  refine calls_in Try.func146 rfl Try.ntmps146 rfl (Sat.merge (Sat.pick (HS' := [hs, restP w h, box bb [va, vg] _, ha, hg]) (Sat.open (A := [restP w h]) md (Sat.start2 hle)) [4, 0, 1, 2, 3] (by decide) rfl)) ?_
  have hle0 := rox.le
  have hle3 := rg.toR.le
  refine wp_sc ?_
  refine wp_sq ?_
  refine sq_x rfl (x_box rfl rfl) rfl ?_; rintro _ _ ⟨b5, rfl, rfl⟩
  refine sq_v rfl (v_assign rfl) rfl ?_
  refine sq_end ?_
  refine qs_n ?_
  refine wp_sc ?_
  refine wp_rj 24 [(0, true), (1, true), (2, true), (3, true), (4, true), (5, true), (6, true), (7, true), (8, true), (9, true), (10, true), (11, true), (12, true), (13, true), (14, true), (15, true), (16, false), (17, true), (18, true), (19, true), (20, true), (21, true), (22, true), (23, true)] mixed_ok (by kernel_rfl) ?_
  refine rj_v rfl rfl (v_move rfl) rfl ?_
  refine rj_v rfl rfl (v_nilCheck rfl) rfl ?_
  refine rj_v rfl rfl (v_fieldAddr fd_189_0 ty_46 (by decide) rfl) rfl ?_
  refine rj_v rfl rfl (v_loadB 2 ty_46 rfl rfl rfl) rfl ?_
  refine rj_v rfl rfl (v_fieldAddr fd_114_0 ty_3 (by decide) rfl) rfl ?_
  refine rj_v rfl rfl (v_loadB 0 ty_3 rfl rfl rfl) rfl ?_
  obtain ⟨t18, a18, b18, c18, ht18, hcs18, rl18, rd18, rx18⟩ := hc ((x : Int).toNat) (by first | omega | (rw [List.length_set]; omega))
  refine rj_v rfl rfl (v_indexAddr Try.underlying46 ty_28 rfl rfl rr (by decide) (by omega) (by omega)) rfl ?_
  refine rj_v rfl rfl (v_loadNE 3 ty_28 rfl rfl rr (by have := rr.1; omega) rfl hcs18) rfl ?_
  refine rj_v rfl rfl (v_move rfl) rfl ?_
  refine rj_v rfl rfl (v_nilCheck rfl) rfl ?_
  refine rj_v rfl rfl (v_fieldAddr fd_189_0 ty_46 (by decide) rfl) rfl ?_
  refine rj_v rfl rfl (v_loadB 2 ty_46 rfl rfl rfl) rfl ?_
  refine rj_v rfl rfl (v_fieldAddr fd_114_1 ty_3 (by decide) rfl) rfl ?_
  refine rj_v rfl rfl (v_loadB 0 ty_3 rfl rfl rfl) rfl ?_
  obtain ⟨t26, a26, b26, c26, ht26, hcs26, rl26, rd26, rx26⟩ := hc ((y : Int).toNat) (by first | omega | (rw [List.length_set]; omega))
  refine rj_v rfl rfl (v_indexAddr Try.underlying46 ty_28 rfl rfl rr (by decide) (by omega) (by omega)) rfl ?_
  refine rj_v rfl rfl (v_loadNE 3 ty_28 rfl rfl rr (by have := rr.1; omega) rfl hcs26) rfl ?_
  have e18 := shTens_at ht18; have e26 := shTens_at ht26; have l18 : t18.l = sh.lab x.toNat := (by rw [e18]); have l26 : t26.l = sh.lab y.toNat := (by rw [e26]); have hf18 := hfi.few x.toNat; have hf26 := hfi.few y.toNat; have hjl := joinI_len t18.l t26.l; rw [l18, l26] at hjl
  refine rj_x rfl rfl (x_call rfl en_181 (fun w s => ct_u_l08Join f t18 t26 _ _ _ _ _ _ w (rl18.mono (s.get 1 rfl)) (rd18.mono (s.get 1 rfl)) (rl26.mono (s.get 1 rfl)) (rd26.mono (s.get 1 rfl)) (by rw [e18]) (by rw [e26]) (by rw [l26]; exact (hfi.2 _).1) (by rw [l18, l26]; omega))) rfl ?_; rintro _ h28 ⟨v1, v2, rfl, rj1, rj2⟩
  refine rj_v rfl rfl (v_move rfl) rfl ?_
  refine rj_v rfl rfl (v_extract rfl rfl) rfl ?_
  refine rj_v rfl rfl (v_extract rfl rfl) rfl ?_
  refine rj_v rfl rfl (v_extract rfl rfl) rfl ?_
  refine rj_v rfl rfl (v_assign rfl) rfl ?_
  refine rj_v rfl rfl (v_assign rfl) rfl ?_
  refine rj_v rfl rfl (v_assign rfl) rfl ?_
  refine rj_end ?_
  refine qs_n ?_
  refine wp_sc ?_
  refine wp_sq ?_
  refine sq_v rfl (v_move rfl) rfl ?_
  refine sq_v rfl (v_move rfl) rfl ?_
  refine sq_v rfl (v_move rfl) rfl ?_
  refine sq_v rfl (v_move rfl) rfl ?_
  refine sq_v rfl (v_fieldAddr fd_114_0 ty_3 (by decide) rfl) rfl ?_
  refine sq_v rfl (v_loadB 1 ty_3 rfl rfl rfl) rfl ?_
  refine sq_v rfl (v_fieldAddr fd_114_1 ty_3 (by decide) rfl) rfl ?_
  refine sq_v rfl (v_loadB 1 ty_3 rfl rfl rfl) rfl ?_
  refine sq_x rfl (x_call rfl en_209 (fun w s => ct_s_l17Keep f sh _ _ _ _ _ _ _ w (SpR.of hok (s.get 3 rfl) ra (s.get 4 rfl) rt' (s.get 2 rfl) rg (s.get 5 rfl)) (rox.mono (s.get 2 rfl)) (by first | assumption | omega) (by omega) hop)) rfl ?_; rintro v40 h40 r40
  refine sq_x rfl (x_call rfl en_192 (fun w s => ct_s_l08Keep _ _ _ _ _ _ w (rj1.mono (s.get 1 rfl)) (rj2.mono (s.get 1 rfl)) (r40.toR.mono (s.get 0 rfl)) (by rw [List.length_map]) (by rw [l18, l26]; omega))) rfl ?_; rintro _ h41 ⟨k1, k2, g1, g2, rfl, rk1, rk2, mdk⟩
  refine sq_x rfl (x_alloc ty_28 rfl) rfl ?_; rintro _ _ ⟨b10, rfl, rfl⟩
  refine sq_m 0 rfl rfl (m_store 0 ty_28 rfl rfl rfl rfl (by simp [(rk1.toR.mono (mdk.le g1 (by simp))).sl.one, (rk2.toR.mono (mdk.le g2 (by simp))).sl.one, one_sl]) rfl (Nat.le_of_ble_eq_true rfl)) rfl ?_; rintro _ _ ⟨rfl, rfl⟩
  refine sq_end ?_
  refine qs_n ?_
  refine wp_sc ?_
  refine wp_rj 7 [(0, true), (1, true), (2, true), (3, true), (4, true), (5, true), (6, true), (7, false)] mixed_ok (by kernel_rfl) ?_
  refine rj_v rfl rfl (v_move rfl) rfl ?_
  refine rj_v rfl rfl (v_nilCheck rfl) rfl ?_
  refine rj_v rfl rfl (v_fieldAddr fd_189_1 ty_128 (by decide) rfl) rfl ?_
  refine rj_v rfl rfl (v_loadB 6 ty_128 rfl rfl rfl) rfl ?_
  refine rj_v rfl rfl (v_fieldAddr fd_114_0 ty_3 (by decide) rfl) rfl ?_
  refine rj_v rfl rfl (v_loadB 4 ty_3 rfl rfl rfl) rfl ?_
  refine rj_v rfl rfl (v_idxB Try.underlying128 ty_4 rfl rfl rg.toR (by first | omega | (simp only [List.length_cons, List.length_nil]; omega) | (simp only [List.length_append, List.length_cons, List.length_nil]; omega) | (rw [List.length_set]; omega) | (rw [List.length_replicate]; omega) | (simp; omega)) (by first | omega | (simp only [List.length_cons, List.length_nil]; omega) | (simp only [List.length_append, List.length_cons, List.length_nil]; omega) | (rw [List.length_set]; omega) | (rw [List.length_replicate]; omega) | (simp; omega))) rfl ?_
  refine rj_m 8 rfl rfl rfl rfl (m_storeBl 8 ty_4 rfl rfl rfl rg (by first | omega | (simp only [List.length_cons, List.length_nil]; omega) | (simp only [List.length_append, List.length_cons, List.length_nil]; omega) | (rw [List.length_set]; omega) | (rw [List.length_replicate]; omega) | (simp; omega))) rfl ?_; rintro _ h_q3_7 ⟨rfl, q3_7⟩
  refine rj_end ?_
  refine qs_n ?_
  refine wp_sc ?_
  refine wp_rj 7 [(0, true), (1, true), (2, true), (3, true), (4, true), (5, true), (6, true), (7, false)] mixed_ok (by kernel_rfl) ?_
  refine rj_v rfl rfl (v_move rfl) rfl ?_
  refine rj_v rfl rfl (v_nilCheck rfl) rfl ?_
  refine rj_v rfl rfl (v_fieldAddr fd_189_1 ty_128 (by decide) rfl) rfl ?_
  refine rj_v rfl rfl (v_loadB 6 ty_128 rfl rfl rfl) rfl ?_
  refine rj_v rfl rfl (v_fieldAddr fd_114_1 ty_3 (by decide) rfl) rfl ?_
  refine rj_v rfl rfl (v_loadB 4 ty_3 rfl rfl rfl) rfl ?_
  refine rj_v rfl rfl (v_idxB Try.underlying128 ty_4 rfl rfl q3_7.toR (by first | omega | (simp only [List.length_cons, List.length_nil]; omega) | (simp only [List.length_append, List.length_cons, List.length_nil]; omega) | (rw [List.length_set]; omega) | (rw [List.length_replicate]; omega) | (simp; omega)) (by first | omega | (simp only [List.length_cons, List.length_nil]; omega) | (simp only [List.length_append, List.length_cons, List.length_nil]; omega) | (rw [List.length_set]; omega) | (rw [List.length_replicate]; omega) | (simp; omega))) rfl ?_
  refine rj_m 8 rfl rfl rfl rfl (m_storeBl 8 ty_4 rfl rfl rfl q3_7 (by first | omega | (simp only [List.length_cons, List.length_nil]; omega) | (simp only [List.length_append, List.length_cons, List.length_nil]; omega) | (rw [List.length_set]; omega) | (rw [List.length_replicate]; omega) | (simp; omega))) rfl ?_; rintro _ h_q4_7 ⟨rfl, q4_7⟩
  refine rj_end ?_
  refine qs_n ?_
  refine wp_sc ?_
  refine wp_rk [false, false, false, false, false, false, false, true, false] 8 [(0, true), (1, true), (2, true), (3, true), (4, true), (5, true), (6, false), (7, false), (8, false), (9, false), (10, false)] mixed_ok (by kernel_rfl) ?_
  refine rk_v rfl rfl (v_move rfl) rfl ?_
  refine rk_v rfl rfl (v_move rfl) rfl ?_
  refine rk_v rfl rfl (v_nilCheck rfl) rfl ?_
  refine rk_v rfl rfl (v_fieldAddr fd_189_0 ty_46 (by decide) rfl) rfl ?_
  refine rk_v rfl rfl (v_loadB 6 ty_46 rfl rfl rfl) rfl ?_
  refine rk_v rfl rfl (v_loadNB 0 ty_28 rfl rfl rfl rfl) rfl ?_
  refine rk_x rfl rfl (x_buildS [.agg [k1, k2, .slice none 0 0].toArray] Try.underlying46 ty_28 (by decide) rfl rfl rfl (by decide) (by decide) (by intro v hv; simp at hv; subst hv; rfl)) rfl ?_; intro v62 h62 (r62 : RowO 28 [k1, k2, .slice none 0 0] 1 3 v62 h62)
  refine rk_m 8 rfl rfl rfl rfl (m_append 8 0 Try.underlying46 ty_28 rfl rfl (by decide) rfl rfl rfl ra rfl r62.toR (by simp [one_sl, (rk1.toR.mono (mdk.le g1 (by simp))).sl.one, (rk2.toR.mono (mdk.le g2 (by simp))).sl.one]) (by unfold maxLen; omega) (by omega)) rfl ?_; intro v63 h_r63 (r63 : RowO 28 (cs ++ [k1, k2, .slice none 0 0]) (sh.all.length + 1) 3 v63 h_r63)
  refine rk_fv rfl rfl (v_nilCheck rfl) rfl ?_
  refine rk_fv rfl rfl (v_fieldAddr fd_189_0 ty_46 (by decide) rfl) rfl ?_
  refine rk_mt 7 rfl rfl rfl rfl (m_store1 7 ty_46 rfl rfl r63.toR.sl.one rfl (Nat.le_of_ble_eq_true rfl)) rfl ?_; rintro _ _ ⟨rfl, rfl⟩
  refine rk_end ?_
  refine qs_n ?_
  refine wp_sc ?_
  refine wp_sq ?_
  refine sq_v rfl (v_move rfl) rfl ?_
  refine sq_v rfl (v_move rfl) rfl ?_
  refine sq_v rfl (v_nilCheck rfl) rfl ?_
  refine sq_v rfl (v_fieldAddr fd_189_1 ty_128 (by decide) rfl) rfl ?_
  refine sq_v rfl (v_loadB 7 ty_128 rfl rfl rfl) rfl ?_
  refine sq_x rfl (x_buildS [.bool (false)] Try.underlying128 ty_4 (by decide) rfl rfl rfl (by decide) (by decide) (by intro v hv; simp at hv; rcases hv with rfl <;> rfl)) rfl ?_; intro v71 h71 (r71 : BoolsO [false] v71 h71)
  refine sq_m 10 rfl rfl (m_appBl 10 0 Try.underlying128 ty_4 rfl rfl rfl rfl q4_7 rfl r71.toR (by first | omega | (simp only [List.length_cons, List.length_nil]; omega) | (simp only [List.length_append, List.length_cons, List.length_nil]; omega) | (rw [List.length_set]; omega) | (rw [List.length_replicate]; omega) | (simp; omega))) rfl ?_; intro v72 h_r72 r72
  refine sq_v rfl (v_nilCheck rfl) rfl ?_
  refine sq_v rfl (v_fieldAddr fd_189_1 ty_128 (by decide) rfl) rfl ?_
  refine sq_m 8 rfl rfl (m_store1 8 ty_128 rfl rfl r72.toR.sl.one rfl (Nat.le_of_ble_eq_true rfl)) rfl ?_; rintro _ _ ⟨rfl, rfl⟩
  refine sq_end ?_
  refine qs_n ?_
  refine wp_sc ?_
  refine wp_sq ?_
  refine sq_v rfl (v_move rfl) rfl ?_
  have hdj : dimsIn ((joinI t18.l t26.l).map f) := (map_dims (fun z hz => by rw [l18, l26] at hz; exact (mem_joinI.1 hz).elim (hfit _ z) (hfit _ z)))
  refine sq_u rfl (x_callv rfl en_120 (fun w s => ct_s_l05Product _ _ _ w (rj2.mono (s.get 5 rfl)) (by first | assumption | omega) (by first | assumption | omega))) rfl ?_
  refine sq_v rfl (v_min rfl rfl) rfl ?_
  refine sq_v rfl (v_assign rfl) rfl ?_
  refine sq_end ?_
  refine qs_n ?_
  refine wp_rt ?_
  refine qs_s [hs, restP w h, h41, box bb _ _, h_r63, h_r72] (fun _ s => Sat.part (a := hs) (b := restP w h) hdr (s.pick [7, 3, 8, 9, 10] (by decide) rfl)) ?_
  refine qs_close [restP w h, box bb _ _, h_r63, h_r72] [hs, h41] (fun _ s => s.pick [1, 3, 4, 5, 0, 2] (by decide) rfl) (fun md1 => ?_)
  refine qs_dj 0 1 rfl rfl rfl (fun hdq => ?_)
  have hdq' : PDj (joinP [hs, h41]) q := (hdq.symm.mono hq).symm
  refine qs_close [restP w h] [box bb _ _, h_r63, h_r72, joinP [hs, h41]] (fun _ s => s.pick [1, 2, 3, 4, 0] (by decide) rfl) (fun md2 => ?_)
  have hxy' : (x.toNat : Int) = x ∧ (y.toNat : Int) = y := by omega
  have hk := res_keep (op := op) (s := sh) (a := x.toNat) (b := y.toNat)
  rw [hxy'.1, hxy'.2] at hk
  rw [l18, l26, hk] at rk1
  rw [l18, l26, selP_map, hk] at rk2
  have lk := (mdk.le g1 (by simp)).trans ((md1.le h41 (by simp)).trans (PLe.un_l _ q))
  have lk2 := (mdk.le g2 (by simp)).trans ((md1.le h41 (by simp)).trans (PLe.un_l _ q))
  have hnew := (rt.mono (PUn.mono_l (md1.le hs (by simp)) hdq')).snoc (t := ⟨sh.res op x.toNat y.toNat, (sh.res op x.toNat y.toNat).map f, []⟩) (rk1.toR.mono lk) (rk2.toR.mono lk2) (IntsR.nil _)
  rw [← step_tens] at hnew
  have hsl2 : (sh.step op x.toNat y.toNat).all.length = sh.all.length + 1 := by simp [Sh.step]
  exact qs_ret1 rfl rfl (fin_m (i := 1) 0 rfl rfl rfl ⟨by rw [costL, l18, l26]; congr 1; omega, Sh.step_ok hok _ _, v63, v72, _, _, _, _, by rw [hsl2]; exact r63, r72, hnew, md2⟩)
end Go.Proofs.Ytikeobneipjfnaa
namespace Go.Proofs.Ytikeobneipjfnaa
set_option maxRecDepth 100000
open Go.RowKit
/-- The world's heap once more. -/
theorem Sat.whole {w0 w : World} {HS : List PH} {q : PH} (lq : PLe q (hp w0)) (s : Sat w0 (q :: restP w0 q :: HS) w) : Sat w0 (HS ++ [hp w0]) w := by
  have l : PLe (hp w0) (PUn q (restP w0 q)) := fun k o e => by
    unfold PUn restP
    cases hq : q k with
    | none => simp [hq, e]
    | some o' => have := lq k o' hq; rw [e] at this; simp [this]
  have s1 := Sat.less (i := 0) s.merge rfl l
  exact Sat.comm (A := [hp w0]) (B := HS) s1
/-- The first i tensors' shapes. -/
def tenTo (ts : List Ten) (i : Nat) : List Ten := (ts.take i).map fun t => ⟨t.l, t.d, []⟩
theorem tenTo_step {ts : List Ten} {i : Nat} {t : Ten} (h : ts[i]? = some t) : tenTo ts (i + 1) = tenTo ts i ++ [⟨t.l, t.d, []⟩] := by
  rw [tenTo, take_ten h, List.map_append]; rfl
theorem tenTo_sh {f : Int → Int} {ts : List Ten} (h : ∀ t ∈ ts, t.d = t.l.map f) : tenTo ts ts.length = shTens f (sh0 ts) := by
  simp only [tenTo, List.take_length, shTens, sh0, List.map_map]
  exact List.map_congr_left fun t ht => by simp [h t ht]
set_option maxHeartbeats 2000000 in
theorem ct_s_l17New (f : Int → Int) (k p n : Int) (ts : List Ten) (vt vo : Value) (w : World) (q : PH) (lq : PLe q (hp w)) (r : TensR ts vt q) (hd : ∀ t ∈ ts, t.d = t.l.map f) (hts : ts.length ≤ 1000) :
    Calls Try.prog 197 [netV k p n vt vo].toArray w (Ret w emp (fun u h => ∃ bb, u = ptrV bb ∧ SpO f (sh0 ts) bb h q)) := by
  refine calls_in Try.func197 rfl Try.ntmps197 rfl (Sat.start2 lq) ?_
  have hle0 := r.le
  obtain ⟨cs_r, rr_r, hc_r⟩ := r.at
  refine wp_sc ?_
  refine wp_sq ?_
  refine sq_x rfl (x_box rfl rfl) rfl ?_; rintro _ _ ⟨b1, rfl, rfl⟩
  refine sq_v rfl (v_assign rfl) rfl ?_
  refine sq_end ?_
  refine qs_n ?_
  refine wp_sc ?_
  refine wp_sq ?_
  refine sq_v rfl (v_build [.slice none 0 0, .slice none 0 0] rfl (by kernel_rfl)) rfl ?_
  refine sq_x rfl (x_box rfl rfl) rfl ?_; rintro _ _ ⟨b7, rfl, rfl⟩
  refine sq_v rfl (v_assign rfl) rfl ?_
  refine sq_end ?_
  refine qs_n ?_
  refine wp_sc ?_
  refine wp_sc ?_
  refine wp_sq ?_
  refine sq_v rfl (v_fieldAddr fd_48_1 ty_46 (by decide) rfl) rfl ?_
  refine sq_v rfl (v_loadB 1 ty_46 rfl rfl rfl) rfl ?_
  refine sq_v rfl (v_len Try.underlying46 rfl r.sl) rfl ?_
  refine sq_v rfl (v_move rfl) rfl ?_
  refine sq_end ?_
  refine qs_n ?_
  refine wp_bl ?_
  refine wp_lp (σ := Nat × Value × PH × (List Value) × Value × PH) (fun z_ => [(2, .pointer none), (3, .pointer (some ⟨b7, 0, none⟩)), (9, vt), (10, num ts.length), (11, num z_.1)]) (fun z_ => [z_.2.2.1, z_.2.2.2.2.2, box b7 [z_.2.1, z_.2.2.2.2.1] 189, box b1 [num k, num p, num n, vt, vo] 48, q, (restP w q)]) (fun z_ => z_.1 ≤ ts.length ∧ TensL (tenTo ts z_.1) z_.2.2.2.1 q ∧ RowO (28) z_.2.2.2.1 z_.1 3 z_.2.1 z_.2.2.1 ∧ BoolsO (List.replicate z_.1 false) z_.2.2.2.2.1 z_.2.2.2.2.2) (fun z_ => ts.length - z_.1) (0, .slice none 0 0, emp, [], .slice none 0 0, emp) (⟨by (try dsimp only); omega, TensL.nil _, RowO.nil, BoolsO.nil⟩) ⟨rfl, rfl, rfl, rfl, (by first | rfl | exact ksub rfl (by first | omega | (simp; done) | (simp; omega))), trivial⟩ (fun _ s => (emp_sat (emp_sat s))) ?_
  rintro ⟨i, va, ha, cs, vg, hg⟩ ⟨hi, hlv, rr, qg⟩
  dsimp only at hi hlv rr qg ⊢
  have hle_qg := qg.toR.le
  have hrl : (List.replicate i false).length = i := List.length_replicate
  refine wp_sc ?_
  refine wp_sq ?_
  refine sq_v rfl (v_lss rfl rfl) rfl ?_
  refine sq_end ?_
  refine qs_n ?_
  refine wp_sc ?_
  refine wp_cd rfl (fun c12 => ?_) (fun c12 => ?_)
  · refine wp_sk ?_
    refine qs_n ?_
    refine wp_sc ?_
    refine wp_bl ?_
    refine wp_sc ?_
    refine wp_sq ?_
    obtain ⟨t13, a13, b13, c13, ht13, hcs13, rl13, rd13, rx13⟩ := hc_r (i) (by first | omega | (rw [List.length_set]; omega))
    refine sq_v rfl (v_indexAddr Try.underlying46 ty_28 rfl rfl rr_r (by decide) (by omega) (by omega)) rfl ?_
    refine sq_v rfl (v_loadNE 4 ty_28 rfl rfl rr_r (by have := rr_r.1; omega) rfl hcs13) rfl ?_
    refine sq_x rfl (x_alloc ty_28 rfl) rfl ?_; rintro _ _ ⟨b5, rfl, rfl⟩
    refine sq_m 0 rfl rfl (m_store 0 ty_28 rfl rfl rfl rfl (by simp [rl13.sl.one, rd13.sl.one, rx13.sl.one]) rfl (Nat.le_of_ble_eq_true rfl)) rfl ?_; rintro _ _ ⟨rfl, rfl⟩
    refine sq_end ?_
    refine qs_n ?_
    refine wp_sc ?_
    refine wp_rk [false, true, false, false, false, false, false] 12 [(0, true), (1, true), (2, true), (3, true), (4, true), (5, true), (6, true), (7, true), (8, true), (9, true), (10, false), (11, false), (12, false), (13, false), (14, false)] mixed_ok (by kernel_rfl) ?_
    refine rk_v rfl rfl (v_move rfl) rfl ?_
    refine rk_v rfl rfl (v_move rfl) rfl ?_
    refine rk_v rfl rfl (v_nilCheck rfl) rfl ?_
    refine rk_v rfl rfl (v_fieldAddr fd_189_0 ty_46 (by decide) rfl) rfl ?_
    refine rk_v rfl rfl (v_loadB 3 ty_46 rfl rfl rfl) rfl ?_
    refine rk_v rfl rfl (v_fieldAddr fd_28_0 ty_24 (by decide) rfl) rfl ?_
    refine rk_v rfl rfl (v_loadB 0 ty_24 rfl rfl rfl) rfl ?_
    refine rk_v rfl rfl (v_fieldAddr fd_28_1 ty_24 (by decide) rfl) rfl ?_
    refine rk_v rfl rfl (v_loadB 0 ty_24 rfl rfl rfl) rfl ?_
    refine rk_v rfl rfl (v_build [a13, b13, .slice none 0 0] rfl (by obtain ⟨_, _, rfl⟩ := rl13.sl; obtain ⟨_, _, rfl⟩ := rd13.sl; kernel_rfl)) rfl ?_
    refine rk_x rfl rfl (x_buildS [.agg [a13, b13, .slice none 0 0].toArray] Try.underlying46 ty_28 (by decide) rfl rfl rfl (by decide) (by decide) (by intro v hv; simp at hv; subst hv; rfl)) rfl ?_; intro v25 h25 (r25 : RowO 28 [a13, b13, .slice none 0 0] 1 3 v25 h25)
    refine rk_m 2 rfl rfl rfl rfl (m_append 2 0 Try.underlying46 ty_28 rfl rfl (by decide) rfl rfl rfl rr rfl r25.toR (by simp [one_sl, rl13.sl.one, rd13.sl.one]) (by unfold maxLen; omega) (by omega)) rfl ?_; intro v26 h_r26 (r26 : RowO 28 (cs ++ [a13, b13, .slice none 0 0]) (i + 1) 3 v26 h_r26)
    refine rk_fv rfl rfl (v_nilCheck rfl) rfl ?_
    refine rk_fv rfl rfl (v_fieldAddr fd_189_0 ty_46 (by decide) rfl) rfl ?_
    refine rk_mt 4 rfl rfl rfl rfl (m_store1 4 ty_46 rfl rfl r26.toR.sl.one rfl (Nat.le_of_ble_eq_true rfl)) rfl ?_; rintro _ _ ⟨rfl, rfl⟩
    refine rk_end ?_
    refine qs_n ?_
    refine wp_sq ?_
    refine sq_v rfl (v_move rfl) rfl ?_
    refine sq_v rfl (v_move rfl) rfl ?_
    refine sq_v rfl (v_nilCheck rfl) rfl ?_
    refine sq_v rfl (v_fieldAddr fd_189_1 ty_128 (by decide) rfl) rfl ?_
    refine sq_v rfl (v_loadB 4 ty_128 rfl rfl rfl) rfl ?_
    refine sq_x rfl (x_buildS [.bool (false)] Try.underlying128 ty_4 (by decide) rfl rfl rfl (by decide) (by decide) (by intro v hv; simp at hv; rcases hv with rfl <;> rfl)) rfl ?_; intro v34 h34 (r34 : BoolsO [false] v34 h34)
    refine sq_m 4 rfl rfl (m_appBl 4 0 Try.underlying128 ty_4 rfl rfl rfl rfl qg rfl r34.toR (by first | omega | (simp only [List.length_cons, List.length_nil]; omega) | (simp only [List.length_append, List.length_cons, List.length_nil]; omega) | (rw [List.length_set]; omega) | (rw [List.length_replicate]; omega) | (simp; omega))) rfl ?_; intro v35 h_r35 r35
    refine sq_v rfl (v_nilCheck rfl) rfl ?_
    refine sq_v rfl (v_fieldAddr fd_189_1 ty_128 (by decide) rfl) rfl ?_
    refine sq_m 5 rfl rfl (m_store1 5 ty_128 rfl rfl r35.toR.sl.one rfl (Nat.le_of_ble_eq_true rfl)) rfl ?_; rintro _ _ ⟨rfl, rfl⟩
    refine sq_end ?_
    refine qs_bn ?_
    refine qs_n ?_
    refine wp_sq ?_
    refine sq_v rfl (v_add rfl rfl ((by unfold I64; omega))) rfl ?_
    refine sq_v rfl (v_move rfl) rfl ?_
    refine sq_end ?_
    exact qs_bk (i + 1, v26, h_r26, cs ++ [a13, b13, .slice none 0 0], v35, h_r35) ⟨by (try dsimp only); omega, by (try dsimp only); rw [tenTo_step ht13]; exact hlv.snoc rl13 rd13 (IntsR.nil _), r26, by (try dsimp only); rw [List.replicate_succ']; exact r35⟩ (by simp only; omega) ⟨rfl, rfl, rfl, rfl, (by first | rfl | exact ksub rfl (by first | omega | (simp; done) | (simp; omega))), trivial⟩ (fun _ s => s.pick [3, 4, 5, 6, 7, 8] (by decide) rfl)
  · refine wp_ex ?_
    refine qs_x ?_
    refine qs_x ?_
    refine qs_bx ?_
    refine qs_n ?_
    refine wp_sc ?_
    refine wp_sq ?_
    refine sq_v rfl (v_move rfl) rfl ?_
    refine sq_v rfl (v_assign rfl) rfl ?_
    refine sq_end ?_
    refine qs_n ?_
    refine wp_rt ?_
    refine qs_close [hp w] [box b7 _ _, ha, hg, emp] (fun _ s => Sat.pick (HS := emp :: ha :: hg :: box b7 _ _ :: box b1 _ _ :: hp w :: []) (emp_sat (Sat.whole lq (HS := [ha, hg, box b7 _ _, box b1 _ _]) (s.pick [4, 5, 0, 1, 2, 3] (by decide) rfl))) [5, 3, 1, 2, 0] (by decide) rfl) (fun md => ?_)
    have ei : i = ts.length := by omega
    subst ei
    rw [tenTo_sh hd] at hlv
    have el : (sh0 ts).all.length = ts.length := by simp [sh0]
    exact qs_ret1 rfl rfl (fin_t 0 (i := 1) rfl rfl rfl ⟨b7, rfl, sh0_ok ts, va, vg, ha, hg, emp, cs, by rw [el]; exact rr, qg, hlv.mono (fun k o e => by simpa [PUn, emp] using e), md⟩)
noncomputable def costsL (f : Int → Int) (op : List Int) : Sh → List Stp → List Int
  | _, [] => []
  | s, x :: r => costL f s x.a.toNat x.b.toNat :: costsL f op (s.step op x.a.toNat x.b.toNat) r
theorem costsL_append (f : Int → Int) (op : List Int) : ∀ (s : Sh) (a b : List Stp), costsL f op s (a ++ b) = costsL f op s a ++ costsL f op (shTo op s a) b
  | s, [], b => by simp [costsL, shTo]
  | s, x :: r, b => by
    have := costsL_append f op (s.step op x.a.toNat x.b.toNat) r b
    simp only [List.cons_append, costsL, this]
    rfl
theorem costsL_len (f : Int → Int) (op : List Int) : ∀ (s : Sh) (ss : List Stp), (costsL f op s ss).length = ss.length
  | _, [] => rfl
  | s, x :: r => by simp [costsL, costsL_len f op (s.step op x.a.toNat x.b.toNat) r]
theorem costsL_step {f : Int → Int} {op : List Int} {s : Sh} {ss : List Stp} {i : Nat} {x : Stp} (h : ss[i]? = some x) : costsL f op s (ss.take (i + 1)) = costsL f op s (ss.take i) ++ [costL f (shTo op s (ss.take i)) x.a.toNat x.b.toNat] := by
  obtain ⟨hi, e⟩ := List.getElem?_eq_some_iff.1 h
  rw [List.take_succ_eq_append_getElem hi, e, costsL_append]; rfl
theorem costsL_at {f : Int → Int} {op : List Int} : ∀ {s : Sh} {ss : List Stp} {i : Nat} {x : Stp}, ss[i]? = some x → (costsL f op s ss).getD i 0 = costL f (shTo op s (ss.take i)) x.a.toNat x.b.toNat
  | s, [], i, x, h => by simp at h
  | s, y :: r, 0, x, h => by cases h; rfl
  | s, y :: r, i + 1, x, h => by
    have := costsL_at (f := f) (op := op) (s := s.step op y.a.toNat y.b.toNat) (ss := r) (i := i) (x := x) (by simpa using h)
    show (costsL f op (s.step op y.a.toNat y.b.toNat) r).getD i 0 = _
    rw [this]; rfl
theorem costL_in {f : Int → Int} {s : Sh} {a b : Nat} (h : ∀ i, ∀ l ∈ s.lab i, 1 ≤ f l ∧ f l ≤ 8) : 1 ≤ costL f s a b ∧ costL f s a b ≤ 1000000000 := by
  have := prodI_one (ds := (joinI (s.lab a) (s.lab b)).map f) (fun d hd => by
    simp only [List.mem_map] at hd
    obtain ⟨x, hx, rfl⟩ := hd
    exact ((mem_joinI.1 hx).elim (h _ x) (h _ x)).1)
  unfold costL
  omega
theorem fit_step {f : Int → Int} {op : List Int} {s : Sh} {a b : Nat} (h : ∀ i, ∀ l ∈ s.lab i, 1 ≤ f l ∧ f l ≤ 8) : ∀ i, ∀ l ∈ (s.step op a b).lab i, 1 ≤ f l ∧ f l ≤ 8 := fun i l hl => by
  rcases Nat.lt_trichotomy i s.all.length with hi | hi | hi
  · rw [step_lab hi] at hl; exact h i l hl
  · subst hi
    rw [step_lab_new] at hl
    exact (res_mem hl).elim (h _ l) (h _ l)
  · have : (s.step op a b).lab i = [] := by simp only [Sh.lab, Sh.step, List.getD]; rw [List.getElem?_eq_none (by simp; omega)]; rfl
    rw [this] at hl; simp at hl
theorem fit_to {f : Int → Int} {op : List Int} : ∀ {s : Sh} (_ : ∀ i, ∀ l ∈ s.lab i, 1 ≤ f l ∧ f l ≤ 8) (ss : List Stp), ∀ i, ∀ l ∈ (shTo op s ss).lab i, 1 ≤ f l ∧ f l ≤ 8
  | _, h, [] => h
  | _, h, x :: r => fit_to (fit_step (op := op) (a := x.a.toNat) (b := x.b.toNat) h) r
theorem net_dmap {k p n : Int} {ts : List Ten} {op : List Int} (h : netL k p n ts op) : ∀ t ∈ ts, t.d = t.l.map (dimOf ts) := fun t ht => by
  have hax := net_axes h t ht
  refine ext_getD (by rw [List.length_map, hax.2.1]) fun j hj => ?_
  have hj' : j < t.l.length := by rw [hax.2.1]; exact hj
  rw [map_getD hj', net_dim h ht (mem_getD hj'), find_at hax hj', Int.toNat_natCast]
theorem net_fit {k p n : Int} {ts : List Ten} {op : List Int} (h : netL k p n ts op) : ∀ i, ∀ l ∈ (sh0 ts).lab i, 1 ≤ dimOf ts l ∧ dimOf ts l ≤ 8 := fun i l hl => by
  by_cases hi : i < ts.length
  · have : (sh0 ts).lab i = ts[i].l := by simp [Sh.lab, sh0, List.getD, hi]
    rw [this] at hl
    have hm := List.getElem_mem hi
    have hax := net_axes h _ hm
    have hg := findI_get hl
    rw [net_dim h hm hl]
    exact (hax.2.2 _ hg.1).2.1
  · have : (sh0 ts).lab i = [] := by simp [Sh.lab, sh0, List.getD, Nat.le_of_not_lt hi]
    rw [this] at hl; simp at hl
set_option maxHeartbeats 2000000 in
theorem ct_s_l17Run (f : Int → Int) (k p n : Int) (ts : List Ten) (op : List Int) (ss : List Stp) (vt vo v : Value) (w : World) (q : PH) (lq : PLe q (hp w)) (r : TensR ts vt q) (r' : IntsR op vo (hp w)) (rv : StepsR ss v (hp w)) (hd : ∀ t ∈ ts, t.d = t.l.map f) (hts : ts.length ≤ 500) (hss : ss.length ≤ 500)
    (hfi : (sh0 ts).fine) (hfit : ∀ i, ∀ l ∈ (sh0 ts).lab i, 1 ≤ f l ∧ f l ≤ 8) (hok : okSteps op (sh0 ts) ss) (hop : op.length ≤ 1048576) :
    Calls Try.prog 106 [netV k p n vt vo, v].toArray w (Ret w emp (fun u h => ∃ bb vc g1 g2, u = .tuple [ptrV bb, vc].toArray ∧ SpO f (shTo op (sh0 ts) ss) bb g1 q ∧ IntsO (costsL f op (sh0 ts) ss) vc g2 ∧ Made h [g1, g2])) := by
  refine calls_in Try.func106 rfl Try.ntmps106 rfl (Sat.start w) ?_
  have hle0 := r'.le
  have hle1 := rv.le
  obtain ⟨cs_rv, rr_rv, hc_rv⟩ := rv.at
  refine wp_sc ?_
  refine wp_sq ?_
  refine sq_x rfl (x_box rfl rfl) rfl ?_; rintro _ _ ⟨b2, rfl, rfl⟩
  refine sq_v rfl (v_assign rfl) rfl ?_
  refine sq_v rfl (v_assign rfl) rfl ?_
  refine sq_end ?_
  refine qs_n ?_
  refine wp_sc ?_
  refine wp_sq ?_
  refine sq_v rfl (v_loadNB 0 ty_48 rfl rfl rfl rfl) rfl ?_
  refine sq_x rfl (x_call rfl en_197 (fun w s => ct_s_l17New f _ _ _ _ _ _ w q (lq.trans (s.get 1 rfl)) r hd (by first | assumption | omega))) rfl ?_; rintro _ h11 ⟨bb, rfl, rsp⟩
  refine sq_v rfl (v_assign rfl) rfl ?_
  refine sq_end ?_
  refine qs_n ?_
  refine wp_sc ?_
  refine wp_sq ?_
  refine sq_x rfl (x_build0 Try.underlying24 ty_3) rfl ?_; intro v12 h12 (r12 : IntsO [] v12 h12)
  refine sq_v rfl (v_assign rfl) rfl ?_
  refine sq_end ?_
  refine qs_n ?_
  refine wp_sc ?_
  refine wp_sc ?_
  refine wp_sq ?_
  refine sq_v rfl (v_move rfl) rfl ?_
  refine sq_v rfl (v_len Try.underlying43 rfl rv.sl) rfl ?_
  refine sq_v rfl (v_move rfl) rfl ?_
  refine sq_end ?_
  refine qs_n ?_
  refine wp_bl ?_
  refine wp_lp (σ := Nat × PH × Value × PH) (fun z_ => [(2, .pointer (some ⟨b2, 0, none⟩)), (4, .pointer none), (5, .slice none 0 0), (6, ptrV bb), (7, z_.2.2.1), (13, v), (14, num ss.length), (15, num z_.1)]) (fun z_ => [z_.2.1, z_.2.2.2, box b2 [num k, num p, num n, vt, vo] 48, hp w]) (fun z_ => z_.1 ≤ ss.length ∧ SpO f (shTo op (sh0 ts) (ss.take z_.1)) bb z_.2.1 q ∧ IntsO (costsL f op (sh0 ts) (ss.take z_.1)) z_.2.2.1 z_.2.2.2) (fun z_ => ss.length - z_.1) (0, h11, v12, h12) (⟨by (try dsimp only); omega, by (try dsimp only); simpa [shTo] using rsp, by (try dsimp only); simpa [costsL] using r12⟩) ⟨rfl, rfl, rfl, rfl, (by first | rfl | exact ksub rfl (by first | omega | (simp; done) | (simp; omega))), rfl, rfl, (by first | rfl | exact ksub rfl (by first | omega | (simp; done) | (simp; omega))), trivial⟩ (fun _ s => s.pick [1, 0, 2, 3] (by decide) rfl) ?_
  rintro ⟨i, g, vc, hc⟩ ⟨hi, hsp, qc⟩
  dsimp only at hi hsp qc ⊢
  have hle_qc := qc.toR.le
  have hcl := costsL_len f op (sh0 ts) (ss.take i)
  rw [List.length_take] at hcl
  have hfs := shTo_fine (op := op) hfi (ss.take i)
  have hft := fit_to (op := op) hfit (ss.take i)
  have hal := shTo_all (op := op) (s := sh0 ts) (ss := ss.take i)
  rw [show (sh0 ts).all.length = ts.length by simp [sh0], List.length_take] at hal
  refine wp_sc ?_
  refine wp_sq ?_
  refine sq_v rfl (v_lss rfl rfl) rfl ?_
  refine sq_end ?_
  refine qs_n ?_
  refine wp_sc ?_
  refine wp_cd rfl (fun c16 => ?_) (fun c16 => ?_)
  · refine wp_sk ?_
    refine qs_n ?_
    refine wp_sc ?_
    refine wp_bl ?_
    refine wp_sc ?_
    refine wp_sq ?_
    obtain ⟨x17, hx17, hcs17⟩ := hc_rv (i) (by first | omega | (rw [List.length_set]; omega))
    refine sq_v rfl (v_indexAddr Try.underlying43 ty_114 rfl rfl rr_rv (by decide) (by omega) (by first | omega | (rw [List.length_set]; omega))) rfl ?_
    refine sq_v rfl (v_loadNE 3 ty_114 rfl rfl rr_rv (by have := rr_rv.1; omega) rfl hcs17) rfl ?_
    refine sq_x rfl (x_alloc ty_114 rfl) rfl ?_; rintro _ _ ⟨b9, rfl, rfl⟩
    refine sq_m 0 rfl rfl (m_store 0 ty_114 rfl rfl rfl rfl (by simp [Value.oneCell']) rfl (Nat.le_of_ble_eq_true rfl)) rfl ?_; rintro _ _ ⟨rfl, rfl⟩
    refine sq_end ?_
    refine qs_n ?_
    refine wp_sq ?_
    refine sq_v rfl (v_move rfl) rfl ?_
    refine sq_v rfl (v_move rfl) rfl ?_
    refine sq_v rfl (v_fieldAddr fd_48_2 ty_24 (by decide) rfl) rfl ?_
    refine sq_v rfl (v_loadB 3 ty_24 rfl rfl rfl) rfl ?_
    refine sq_v rfl (v_loadNB 0 ty_114 rfl rfl rfl rfl) rfl ?_
    refine sq_m 1 rfl rfl (x_call rfl en_146 (fun w s => ct_s_l17Step f _ op _ bb _ _ w _ q (s.get 1 rfl) (lq.trans (s.getR 1 4 rfl rfl (by decide))) hsp (r'.mono (s.getR 1 4 rfl rfl (by decide))) hfs hft (hok i (by omega) x17 hx17) (by omega) hop)) rfl ?_; rintro _ h24 ⟨rfl, hsp'⟩
    refine sq_x rfl (x_buildS [num (costL f (shTo op (sh0 ts) (ss.take i)) x17.a.toNat x17.b.toNat)] Try.underlying24 ty_3 (by decide) rfl rfl rfl (by decide) (by decide) (by intro v hv; simp at hv; rcases hv with rfl <;> rfl)) rfl ?_; intro v25 h25 (r25 : IntsO [costL f (shTo op (sh0 ts) (ss.take i)) x17.a.toNat x17.b.toNat] v25 h25)
    refine sq_m 3 rfl rfl (m_appI 3 0 Try.underlying24 ty_3 rfl rfl rfl rfl qc rfl r25.toR (by first | omega | (simp only [List.length_cons, List.length_nil]; omega) | (simp only [List.length_append, List.length_cons, List.length_nil]; omega) | (rw [List.length_set]; omega) | (rw [List.length_replicate]; omega) | (simp; omega))) rfl ?_; intro v26 h_r26 r26
    refine sq_v rfl (v_assign rfl) rfl ?_
    refine sq_end ?_
    refine qs_bn ?_
    refine qs_n ?_
    refine wp_sq ?_
    refine sq_v rfl (v_add rfl rfl ((by unfold I64; omega))) rfl ?_
    refine sq_v rfl (v_move rfl) rfl ?_
    refine sq_end ?_
    exact qs_bk (i + 1, h24, v26, h_r26) ⟨by (try dsimp only); omega, by (try dsimp only); rw [shTo_step hx17]; exact hsp', by (try dsimp only); rw [costsL_step hx17]; exact r26⟩ (by simp only; omega) ⟨rfl, rfl, rfl, rfl, (by first | rfl | exact ksub rfl (by first | omega | (simp; done) | (simp; omega))), rfl, rfl, (by first | rfl | exact ksub rfl (by first | omega | (simp; done) | (simp; omega))), trivial⟩ (fun _ s => s.pick [2, 3, 4, 5] (by decide) rfl)
  · refine wp_ex ?_
    refine qs_x ?_
    refine qs_x ?_
    refine qs_bx ?_
    refine qs_n ?_
    refine wp_sc ?_
    refine wp_sq ?_
    refine sq_v rfl (v_move rfl) rfl ?_
    refine sq_v rfl (v_move rfl) rfl ?_
    refine sq_v rfl (v_assign rfl) rfl ?_
    refine sq_v rfl (v_assign rfl) rfl ?_
    refine sq_end ?_
    refine qs_n ?_
    refine wp_rt ?_
    refine qs_close [hp w] [g, hc] (fun _ s => s.pick [3, 0, 1] (by decide) rfl) (fun md => ?_)
    rw [List.take_of_length_le (by omega)] at qc hsp
    exact qs_ret2 rfl rfl rfl (fin_t 0 (i := 1) rfl rfl rfl ⟨bb, vc, g, hc, rfl, hsp, qc, md⟩)
end Go.Proofs.Ytikeobneipjfnaa
namespace Go.Proofs.Ytikeobneipjfnaa
set_option maxRecDepth 100000
open Go.RowKit
theorem ct_i_cappedProduct (ds : List Int) (L : Int) (v : Value) (w : World) (r : IntsR ds v (hp w)) (hd : dimsIn ds) (hL : 1 ≤ L ∧ L ≤ 1000000000000) : Calls Try.prog 132 [v, num L].toArray w (RetV w (num (min (prodI ds) L))) := by
  refine calls_in Try.func132 rfl Try.ntmps132 rfl (Sat.start w) ?_
  have hle0 := r.le
  refine wp_sc ?_
  refine wp_sq ?_
  refine sq_v rfl (v_assign rfl) rfl ?_
  refine sq_end ?_
  refine qs_n ?_
  refine wp_sc ?_
  refine wp_sq ?_
  refine sq_v rfl (v_assign rfl) rfl ?_
  refine sq_end ?_
  refine qs_n ?_
  refine wp_sc ?_
  refine wp_sc ?_
  refine wp_sq ?_
  refine sq_v rfl (v_move rfl) rfl ?_
  refine sq_v rfl (v_len Try.underlying24 rfl r.sl) rfl ?_
  refine sq_v rfl (v_move rfl) rfl ?_
  refine sq_end ?_
  refine qs_n ?_
  refine wp_bl ?_
  refine wp_lp (σ := Nat × Int) (fun z_ => [(1, num L), (4, num 0), (5, num z_.2), (8, v), (9, num ds.length), (10, num z_.1)]) (fun z_ => [hp w]) (fun z_ => z_.1 ≤ ds.length ∧ z_.2 = min (prodI (ds.take z_.1)) L) (fun z_ => ds.length - z_.1) (0, 1) (⟨by (try dsimp only); omega, by (try dsimp only); simp [prodI]; omega⟩) ⟨rfl, rfl, (by first | rfl | exact ksub rfl (by first | omega | (simp; done) | (simp; omega))), rfl, rfl, (by first | rfl | exact ksub rfl (by first | omega | (simp; done) | (simp; omega))), trivial⟩ (fun _ s => s) ?_
  rintro ⟨i, q⟩ ⟨hi, hq⟩
  dsimp only at hi hq ⊢
  have hpp := prodI_pos (fun j hj => (hd j hj).1) i hi
  refine wp_sc ?_
  refine wp_sq ?_
  refine sq_v rfl (v_lss rfl rfl) rfl ?_
  refine sq_end ?_
  refine qs_n ?_
  refine wp_sc ?_
  refine wp_cd rfl (fun c11 => ?_) (fun c11 => ?_)
  · refine wp_sk ?_
    refine qs_n ?_
    refine wp_sc ?_
    refine wp_bl ?_
    refine wp_sc ?_
    refine wp_sq ?_
    refine sq_v rfl (v_idxI Try.underlying24 ty_3 rfl rfl r (by first | omega | (simp only [List.length_cons, List.length_nil]; omega) | (simp only [List.length_append, List.length_cons, List.length_nil]; omega) | (rw [List.length_set]; omega) | (rw [List.length_replicate]; omega) | (simp; omega)) (by first | omega | (simp only [List.length_cons, List.length_nil]; omega) | (simp only [List.length_append, List.length_cons, List.length_nil]; omega) | (rw [List.length_set]; omega) | (rw [List.length_replicate]; omega) | (simp; omega))) rfl ?_
    refine sq_v rfl (v_loadI (k := i) 0 ty_3 rfl rfl r (by first | omega | (simp only [List.length_cons, List.length_nil]; omega) | (simp only [List.length_append, List.length_cons, List.length_nil]; omega) | (rw [List.length_set]; omega) | (rw [List.length_replicate]; omega) | (simp; omega))) rfl ?_
    refine sq_v rfl (v_assign rfl) rfl ?_
    refine sq_end ?_
    refine qs_n ?_
    refine wp_sq ?_
    refine sq_v rfl (v_move rfl) rfl ?_
    refine sq_v rfl (v_move rfl) rfl ?_
    have hdi := hd i (by omega); have hqd := mul_in (a := q) (b := ds.getD i 0) (t := 1000000000000) (u := 8) ⟨by omega, by omega⟩ ⟨by omega, by omega⟩; have hms := min_step hpp hdi.1 (show 0 ≤ L - 1 by omega); rw [show L - 1 + 1 = L by omega] at hms
    refine sq_v rfl (v_mul rfl rfl ((by unfold I64; omega))) rfl ?_
    refine sq_v rfl (v_move rfl) rfl ?_
    refine sq_v rfl (v_min rfl rfl) rfl ?_
    refine sq_v rfl (v_assign rfl) rfl ?_
    refine sq_end ?_
    refine qs_bn ?_
    refine qs_n ?_
    refine wp_sq ?_
    refine sq_v rfl (v_add rfl rfl ((by unfold I64; omega))) rfl ?_
    refine sq_v rfl (v_move rfl) rfl ?_
    refine sq_end ?_
    exact qs_bk (i + 1, min (q * ds.getD i 0) L) ⟨by (try dsimp only); omega, by (try dsimp only); rw [hq, hms, prodI_step (by omega)]⟩ (by simp only; omega) ⟨rfl, rfl, (by first | rfl | exact ksub rfl (by first | omega | (simp; done) | (simp; omega))), rfl, rfl, (by first | rfl | exact ksub rfl (by first | omega | (simp; done) | (simp; omega))), trivial⟩ (fun _ s => s)
  · refine wp_ex ?_
    refine qs_x ?_
    refine qs_x ?_
    refine qs_bx ?_
    refine qs_n ?_
    refine wp_sc ?_
    refine wp_sq ?_
    refine sq_v rfl (v_move rfl) rfl ?_
    refine sq_v rfl (v_assign rfl) rfl ?_
    refine sq_end ?_
    refine qs_n ?_
    refine wp_rt ?_
    exact qs_ret1 rfl rfl (fin_q (i := 0) rfl (by rw [hq, List.take_of_length_le (by omega)]))
theorem ct_i_size (arr xs : List Int) (vo lvv v : Value) (sh : Sh) (bb : Nat) (w : World) (r : StR arr vo lvv sh bb (hp w)) (rx : IntsR xs v (hp w)) (hx : ∀ x ∈ xs, 0 ≤ x ∧ x ≤ 99) (hd : dimsIn (arrOf arr xs)) (hs : xs.length ≤ 1048576) :
    Calls Try.prog 200 [.pointer (some ⟨bb, 0, none⟩), v].toArray w (RetV w (num (min (prodI (arrOf arr xs)) 1000000000))) := by
  refine calls_in Try.func200 rfl Try.ntmps200 rfl (Sat.start w) ?_
  have hle0 := rx.le
  refine wp_sc ?_
  refine wp_sq ?_
  refine sq_v rfl (v_assign rfl) rfl ?_
  refine sq_end ?_
  refine qs_n ?_
  refine wp_sc ?_
  refine wp_sq ?_
  refine sq_v rfl (v_move rfl) rfl ?_
  refine sq_v rfl (v_nilCheck rfl) rfl ?_
  refine sq_v rfl (v_fieldAddr fd_216_0 ty_155 (by decide) rfl) rfl ?_
  refine sq_v rfl (v_loadNP 0 ty_155 rfl rfl r.arr) rfl ?_
  refine sq_v rfl (v_move rfl) rfl ?_
  refine sq_x rfl (x_call rfl en_130 (fun w s => ct_i_axesOf _ _ _ w (rx.mono (s.get 0 rfl)) r.len hx (by first | assumption | omega))) rfl ?_; rintro _ h10 ⟨u1, u2, rfl, ru1, ru2⟩
  refine sq_v rfl (v_field1 fd_28_1 ty_24 rfl rfl) rfl ?_
  refine sq_u rfl (x_callv rfl en_132 (fun w s => ct_i_cappedProduct _ _ _ w (ru2.mono (s.get 0 rfl)) (by first | assumption | omega) (by first | assumption | omega))) rfl ?_
  refine sq_v rfl (v_assign rfl) rfl ?_
  refine sq_end ?_
  refine qs_n ?_
  refine wp_rt ?_
  exact qs_ret1 rfl rfl (fin_q (i := 1) rfl (by rfl))
/-- The costs of an order that is in order. -/
noncomputable def ordCosts (k p n : Int) (ts : List Ten) (op : List Int) (ss : List Stp) : List Int := @ite _ (orderL k p n ts op ss) (Classical.propDecidable _) (costsL (dimOf ts) op (sh0 ts) ss) []
theorem SpO.toR {f : Int → Int} {s : Sh} {bb : Nat} {h q H : PH} (r : SpO f s bb h q) (l : PLe h H) (lq : PLe q H) : ∃ va vg, SpR f s va vg bb H := by
  obtain ⟨hok, va, vg, ha, hg, hs, cs, ra, rg, rt, md⟩ := r
  exact ⟨va, vg, SpR.of hok ((md.le _ (by simp)).trans l) ra ((md.le ha (by simp)).trans l) rt (PUn.le ((md.le hs (by simp)).trans l) lq) rg ((md.le hg (by simp)).trans l)⟩
theorem stepOk_at {op : List Int} {s : Sh} {ss : List Stp} (h : okSteps op s ss) {i : Nat} {x : Stp} (hx : ss[i]? = some x) : stepOk (shTo op s (ss.take i)) x := h i (List.getElem?_eq_some_iff.1 hx).1 x hx
theorem lv_place {s : Sh} {a : Int} (h : s.live a) {x : Lv} (hx : s.lv[(s.place a).toNat]? = some x) : x.l = s.lab a.toNat := by
  obtain ⟨i, hi, e⟩ := lv_get hx
  rw [(place_at h).1] at hi
  cases hi
  rw [e]
set_option maxHeartbeats 1000000 in
theorem ct_i_OrderCosts (k p n : Int) (ts : List Ten) (op : List Int) (ss : List Stp) (vt vo v : Value) (w : World) (r : TensR ts vt (hp w)) (r' : IntsR op vo (hp w)) (rv : StepsR ss v (hp w)) (hs : op.length ≤ 1048576) :
    Calls Try.prog 110 [netV k p n vt vo, v].toArray w (Ret w emp (IntsO (ordCosts k p n ts op ss))) := by
  refine calls_in Try.func110 rfl Try.ntmps110 rfl (Sat.start w) ?_
  have hle0 := r.le
  obtain ⟨cs_r, rr_r, hc_r⟩ := r.at
  have hle1 := r'.le
  have hle2 := rv.le
  obtain ⟨cs_rv, rr_rv, hc_rv⟩ := rv.at
  refine wp_sc ?_
  refine wp_sq ?_
  refine sq_x rfl (x_box rfl rfl) rfl ?_; rintro _ _ ⟨b2, rfl, rfl⟩
  refine sq_v rfl (v_assign rfl) rfl ?_
  refine sq_end ?_
  refine qs_n ?_
  refine wp_sc ?_
  refine wp_sc ?_
  refine wp_sq ?_
  refine sq_v rfl (v_loadNB 0 ty_48 rfl rfl rfl rfl) rfl ?_
  refine sq_v rfl (v_move rfl) rfl ?_
  refine sq_u rfl (x_callv rfl en_109 (fun w s => ct_i_OrderOk _ _ _ _ _ _ _ _ _ w (r.mono (s.get 1 rfl)) (r'.mono (s.get 1 rfl)) (rv.mono (s.get 1 rfl)) (by first | assumption | omega))) rfl ?_
  refine sq_v rfl (v_not rfl) rfl ?_
  refine sq_end ?_
  refine qs_n ?_
  refine wp_cn _ rfl (fun c14 => ?_) (fun c14 => ?_)
  · refine wp_sc ?_
    refine wp_sq ?_
    refine sq_v rfl (v_assign rfl) rfl ?_
    refine sq_end ?_
    refine qs_n ?_
    refine wp_rt ?_
    refine qs_r ?_
    exact qs_ret1 rfl rfl (fin_e (i := 1) rfl (by rw [ordCosts, if_neg (orderB_false.1 c14)]; exact IntsO.nil))
  · refine wp_sk ?_
    refine qs_n ?_
    refine wp_sc ?_
    refine wp_sq ?_
    refine sq_v rfl (v_assign rfl) rfl ?_
    refine sq_end ?_
    refine qs_n ?_
    refine wp_sc ?_
    refine wp_sq ?_
    refine sq_v rfl (v_loadNB 0 ty_48 rfl rfl rfl rfl) rfl ?_
    have hord := orderB_true.1 c14; have hnet := hord.1; have h12 := hnet.2.1; have hsl := hord.2.1; have hax := net_axes hnet; have hfi := sh0_fine hax; have hfit := net_fit hnet
    refine sq_x rfl (x_call rfl en_150 (fun w s => ct_i_startState _ _ _ _ _ _ _ w (r.mono (s.get 1 rfl)) (r'.mono (s.get 1 rfl)) hax h12)) rfl ?_; rintro _ h16 ⟨bb, arr, rfl, rst, hinv⟩
    refine sq_v rfl (v_assign rfl) rfl ?_
    refine sq_end ?_
    refine qs_n ?_
    refine wp_sc ?_
    refine wp_sc ?_
    refine wp_sq ?_
    refine sq_v rfl (v_move rfl) rfl ?_
    refine sq_v rfl (v_len Try.underlying43 rfl rv.sl) rfl ?_
    refine sq_v rfl (v_move rfl) rfl ?_
    refine sq_end ?_
    refine qs_n ?_
    refine wp_bl ?_
    refine wp_lp (σ := Nat × PH × Value × PH) (fun z_ => [(4, .slice none 0 0), (5, z_.2.2.1), (6, ptrV bb), (17, v), (18, num ss.length), (19, num z_.1)]) (fun z_ => [z_.2.2.2, z_.2.1, box b2 [num k, num p, num n, vt, vo] 48, hp w]) (fun z_ => z_.1 ≤ ss.length ∧ StO arr vo (shTo op (sh0 ts) (ss.take z_.1)) bb z_.2.1 ∧ IntsO (costsL (dimOf ts) op (sh0 ts) (ss.take z_.1)) z_.2.2.1 z_.2.2.2) (fun z_ => ss.length - z_.1) (0, h16, .slice none 0 0, emp) (⟨by (try dsimp only); omega, rst, IntsO.nil⟩) ⟨rfl, (by first | rfl | exact ksub rfl (by first | omega | (simp; done) | (simp; omega))), rfl, rfl, rfl, (by first | rfl | exact ksub rfl (by first | omega | (simp; done) | (simp; omega))), trivial⟩ (fun _ s => (emp_sat s)) ?_
    rintro ⟨i, g, cv, ch⟩ ⟨hi, rst, q⟩
    dsimp only at hi rst q ⊢
    have hle_q := q.toR.le
    have hcl := costsL_len (dimOf ts) op (sh0 ts) (ss.take i)
    rw [List.length_take] at hcl
    have hfs := shTo_fine (op := op) hfi (ss.take i)
    have hft := fit_to (op := op) hfit (ss.take i)
    have hal := shTo_all (op := op) (s := sh0 ts) (ss := ss.take i)
    rw [show (sh0 ts).all.length = ts.length by simp [sh0], List.length_take] at hal
    obtain ⟨lvv, rr⟩ := rst.toR
    have rlv := rr.live
    have hll := lv_len (shTo op (sh0 ts) (ss.take i))
    ; obtain ⟨cs_rlv, rr_rlv, hc_rlv⟩ := rlv.at
    refine wp_sc ?_
    refine wp_sq ?_
    refine sq_v rfl (v_lss rfl rfl) rfl ?_
    refine sq_end ?_
    refine qs_n ?_
    refine wp_sc ?_
    refine wp_cd rfl (fun c20 => ?_) (fun c20 => ?_)
    · refine wp_sk ?_
      refine qs_n ?_
      refine wp_sc ?_
      refine wp_bl ?_
      refine wp_sc ?_
      refine wp_sq ?_
      obtain ⟨x21, hx21, hcs21⟩ := hc_rv (i) (by first | omega | (rw [List.length_set]; omega))
      refine sq_v rfl (v_indexAddr Try.underlying43 ty_114 rfl rfl rr_rv (by decide) (by omega) (by first | omega | (rw [List.length_set]; omega))) rfl ?_
      refine sq_v rfl (v_loadNE 3 ty_114 rfl rfl rr_rv (by have := rr_rv.1; omega) rfl hcs21) rfl ?_
      refine sq_x rfl (x_alloc ty_114 rfl) rfl ?_; rintro _ _ ⟨b8, rfl, rfl⟩
      refine sq_m 0 rfl rfl (m_store 0 ty_114 rfl rfl rfl rfl (by simp [Value.oneCell']) rfl (Nat.le_of_ble_eq_true rfl)) rfl ?_; rintro _ _ ⟨rfl, rfl⟩
      refine sq_end ?_
      have hst := stepOk_at hord.2.2 hx21
      have px := place_at hst.1
      have py := place_at hst.2.1
      have px0 := place_ge.2 hst.1
      have py0 := place_ge.2 hst.2.1
      refine qs_n ?_
      refine wp_sc ?_
      refine wp_rj 10 [(0, true), (1, true), (2, true), (4, true), (5, true), (6, true), (3, false), (7, false), (8, true), (9, true)] mixed_ok (by kernel_rfl) ?_
      refine rj_v rfl rfl (v_move rfl) rfl ?_
      refine rj_v rfl rfl (v_fieldAddr fd_114_0 ty_3 (by decide) rfl) rfl ?_
      refine rj_v rfl rfl (v_loadB 0 ty_3 rfl rfl rfl) rfl ?_
      refine rj_v rfl rfl (v_move rfl) rfl ?_
      refine rj_v rfl rfl (v_fieldAddr fd_114_1 ty_3 (by decide) rfl) rfl ?_
      refine rj_v rfl rfl (v_loadB 0 ty_3 rfl rfl rfl) rfl ?_
      refine rj_u rfl rfl (x_callv rfl en_199 (fun w s => ct_i_place _ _ _ (shTo op (sh0 ts) (ss.take i)) _ _ w (rr.mono (s.get 2 rfl)))) rfl ?_
      refine rj_u rfl rfl (x_callv rfl en_199 (fun w s => ct_i_place _ _ _ (shTo op (sh0 ts) (ss.take i)) _ _ w (rr.mono (s.get 2 rfl)))) rfl ?_
      refine rj_v rfl rfl (v_assign rfl) rfl ?_
      refine rj_v rfl rfl (v_assign rfl) rfl ?_
      refine rj_end ?_
      refine qs_n ?_
      refine wp_sc ?_
      refine wp_rj 21 [(0, true), (1, true), (2, true), (3, true), (4, true), (5, true), (6, true), (7, true), (8, true), (9, true), (10, true), (11, true), (12, true), (13, true), (14, true), (15, true), (16, true), (17, true), (18, false), (19, false), (20, false), (21, false), (22, false)] mixed_ok (by kernel_rfl) ?_
      refine rj_v rfl rfl (v_move rfl) rfl ?_
      refine rj_v rfl rfl (v_move rfl) rfl ?_
      refine rj_v rfl rfl (v_move rfl) rfl ?_
      refine rj_v rfl rfl (v_nilCheck rfl) rfl ?_
      refine rj_v rfl rfl (v_fieldAddr fd_216_2 ty_214 (by decide) rfl) rfl ?_
      refine rj_v rfl rfl (v_load 2 ty_214 rfl rfl rr.c101) rfl ?_
      refine rj_v rfl rfl (v_move rfl) rfl ?_
      obtain ⟨x38, a38, hx38, hcs38, rl38⟩ := hc_rlv (((shTo op (sh0 ts) (ss.take i)).place x21.a : Int).toNat) (by first | omega | (rw [List.length_set]; omega))
      refine rj_v rfl rfl (v_indexAddr Try.underlying214 ty_213 rfl rfl rr_rlv (by decide) (by omega) (by omega)) rfl ?_
      refine rj_v rfl rfl (v_fieldAddrE fd_213_1 ty_24 (by decide) rfl rr_rlv (by have := rr_rlv.1; first | omega | (simp only [Int.toNat_natCast]; omega) | (rw [stepCells_len, List.length_set]; omega))) rfl ?_
      refine rj_v rfl rfl (v_loadE 2 ty_24 rfl rfl rr_rlv (sub_get hcs38 (j := 1) rfl)) rfl ?_
      refine rj_v rfl rfl (v_move rfl) rfl ?_
      refine rj_v rfl rfl (v_nilCheck rfl) rfl ?_
      refine rj_v rfl rfl (v_fieldAddr fd_216_2 ty_214 (by decide) rfl) rfl ?_
      refine rj_v rfl rfl (v_load 2 ty_214 rfl rfl rr.c101) rfl ?_
      refine rj_v rfl rfl (v_move rfl) rfl ?_
      obtain ⟨x46, a46, hx46, hcs46, rl46⟩ := hc_rlv (((shTo op (sh0 ts) (ss.take i)).place x21.b : Int).toNat) (by first | omega | (rw [List.length_set]; omega))
      refine rj_v rfl rfl (v_indexAddr Try.underlying214 ty_213 rfl rfl rr_rlv (by decide) (by omega) (by omega)) rfl ?_
      refine rj_v rfl rfl (v_fieldAddrE fd_213_1 ty_24 (by decide) rfl rr_rlv (by have := rr_rlv.1; first | omega | (simp only [Int.toNat_natCast]; omega) | (rw [stepCells_len, List.length_set]; omega))) rfl ?_
      refine rj_v rfl rfl (v_loadE 2 ty_24 rfl rfl rr_rlv (sub_get hcs46 (j := 1) rfl)) rfl ?_
      have l38 := lv_place hst.1 hx38; have l46 := lv_place hst.2.1 hx46; have hf38 := hfs.few x21.a.toNat; have hf46 := hfs.few x21.b.toNat; have hjm : ∀ z ∈ joinI x38.l x46.l, (0 ≤ z ∧ z ≤ 99) ∧ (1 ≤ dimOf ts z ∧ dimOf ts z ≤ 8) := (fun z hz => by rw [l38, l46] at hz; exact (mem_joinI.1 hz).elim (fun h => ⟨(hfs.2 _).2 z h, hft _ z h⟩) (fun h => ⟨(hfs.2 _).2 z h, hft _ z h⟩)); have hao := arrOf_eq (hinv hnet.2.2.2.1) (fun z hz => (hjm z hz).1); have hjl := joinI_len x38.l x46.l; rw [l38, l46] at hjl
      refine rj_x rfl rfl (x_call rfl en_183 (fun w s => ct_i_joinLabels _ _ _ _ w (rl38.mono (s.get 2 rfl)) (rl46.mono (s.get 2 rfl)) (by rw [l38, l46]; omega))) rfl ?_; rintro v49 h49 r49
      refine rj_u rfl rfl (x_callv rfl en_200 (fun w s => ct_i_size arr (joinI x38.l x46.l) _ _ _ _ _ w (rr.mono (s.get 3 rfl)) (r49.toR.mono (s.get 0 rfl)) (fun z hz => (hjm z hz).1) (by rw [hao]; exact map_dims (fun z hz => (hjm z hz).2)) (by rw [l38, l46]; omega))) rfl ?_
      refine rj_x rfl rfl (x_buildS [num (min (prodI (arrOf arr (joinI x38.l x46.l))) 1000000000)] Try.underlying24 ty_3 (by decide) rfl rfl rfl (by decide) (by decide) (by intro v hv; simp at hv; rcases hv with rfl <;> rfl)) rfl ?_; intro v51 h51 (r51 : IntsO [min (prodI (arrOf arr (joinI x38.l x46.l))) 1000000000] v51 h51)
      refine rj_m 3 rfl rfl rfl rfl (m_appI 3 0 Try.underlying24 ty_3 rfl rfl rfl rfl q rfl r51.toR (by first | omega | (simp only [List.length_cons, List.length_nil]; omega) | (simp only [List.length_append, List.length_cons, List.length_nil]; omega) | (rw [List.length_set]; omega) | (rw [List.length_replicate]; omega) | (simp; omega))) rfl ?_; intro v52 h_r52 r52
      refine rj_fv rfl rfl (v_assign rfl) rfl ?_
      refine rj_end ?_
      refine qs_n ?_
      refine wp_sq ?_
      refine sq_v rfl (v_move rfl) rfl ?_
      refine sq_v rfl (v_move rfl) rfl ?_
      refine sq_v rfl (v_move rfl) rfl ?_
      refine sq_m 4 rfl rfl (x_call rfl en_201 (fun w s => ct_i_contract arr op vo _ bb _ _ x21.a.toNat x21.b.toNat w _ (s.get 4 rfl) rst (r'.mono (s.getR 4 6 rfl rfl (by decide))) px0 py0 px.1 py.1 (by omega) (by omega))) rfl ?_; rintro _ h56 ⟨rfl, rst'⟩
      refine sq_end ?_
      refine qs_bn ?_
      refine qs_n ?_
      refine wp_sq ?_
      refine sq_v rfl (v_add rfl rfl ((by unfold I64; omega))) rfl ?_
      refine sq_v rfl (v_move rfl) rfl ?_
      refine sq_end ?_
      exact qs_bk (i + 1, h56, v52, h_r52) ⟨by (try dsimp only); omega, by (try dsimp only); rw [shTo_step hx21]; exact rst', by (try dsimp only); rw [costsL_step hx21, costL, ← l38, ← l46, Int.min_comm, show (joinI x38.l x46.l).map (dimOf ts) = arrOf arr (joinI x38.l x46.l) from hao.symm]; exact r52⟩ (by simp only; omega) ⟨rfl, (by first | rfl | exact ksub rfl (by first | omega | (simp; done) | (simp; omega))), rfl, rfl, rfl, (by first | rfl | exact ksub rfl (by first | omega | (simp; done) | (simp; omega))), trivial⟩ (fun _ s => s.pick [3, 4, 5, 6] (by decide) rfl)
    · refine wp_ex ?_
      refine qs_x ?_
      refine qs_x ?_
      refine qs_bx ?_
      refine qs_n ?_
      refine wp_sc ?_
      refine wp_sq ?_
      refine sq_v rfl (v_move rfl) rfl ?_
      refine sq_v rfl (v_assign rfl) rfl ?_
      refine sq_end ?_
      refine qs_n ?_
      refine wp_rt ?_
      exact qs_ret1 rfl rfl (fin_t 0 (i := 3) rfl rfl rfl (by rw [ordCosts, if_pos hord]; rw [List.take_of_length_le (by omega)] at q; exact q))
theorem stepCells_take : ∀ (ss : List Stp) (n : Nat), stepCells (ss.take n) = (stepCells ss).take (n * 2)
  | [], n => by simp [stepCells]
  | s :: r, 0 => by simp [stepCells]
  | s :: r, n + 1 => by
    have := stepCells_take r n
    rw [List.take_succ_cons, show (n + 1) * 2 = n * 2 + 1 + 1 by omega]
    show [num s.a, num s.b] ++ stepCells (r.take n) = ([num s.a, num s.b] ++ stepCells r).take (n * 2 + 1 + 1)
    rw [this]; rfl
theorem StepsR.subH {ss : List Stp} {v : Value} {h : PH} (r : StepsR ss v h) {hi : Nat} (h2 : hi ≤ ss.length) : StepsR (ss.take hi) (subV v 0 hi 2) h := by
  have := RowR.sub r (Nat.zero_le hi) h2
  unfold StepsR
  rw [stepCells_take, List.length_take, Nat.min_eq_left h2]
  simpa using this
theorem okSteps_take {op : List Int} {s : Sh} {ss : List Stp} (h : okSteps op s ss) (j : Nat) : okSteps op s (ss.take j) := fun i hi x hx => by
  rw [List.length_take] at hi
  rw [List.getElem?_take, if_pos (by omega)] at hx
  have := h i (by omega) x hx
  rwa [List.take_take, Nat.min_eq_left (by omega)]
end Go.Proofs.Ytikeobneipjfnaa
namespace Go.Proofs.Ytikeobneipjfnaa
set_option maxRecDepth 100000
open Go.RowKit
theorem StepsR.atS {ss : List Stp} {v : Value} {h : PH} (_ : StepsR ss v h) : ∀ i, i < ss.length → ∃ x, ss[i]? = some x ∧ ((stepCells ss).drop (i * 2)).take 2 = [num x.a, num x.b] :=
  fun _ hi => ⟨_, List.getElem?_eq_getElem hi, stepCells_at (List.getElem?_eq_getElem hi)⟩
theorem stepCells_mid {A B : List Stp} {x : Stp} {i : Nat} (h : A.length = i) : stepCells (A ++ x :: B) = stepCells A ++ [num x.a] ++ ([num x.b] ++ stepCells B) ∧ (stepCells A).length = i * 2 := by
  refine ⟨?_, by rw [stepCells_len, h]⟩
  rw [stepCells_append]
  simp [stepCells]
theorem stp_split {ss : List Stp} {i : Nat} (h : i < ss.length) : ss = ss.take i ++ ss.getD i ⟨0, 0⟩ :: ss.drop (i + 1) ∧ (ss.take i).length = i := by
  refine ⟨?_, by simp; omega⟩
  conv => lhs; rw [← List.take_append_drop i ss, List.drop_eq_getElem_cons h]
  simp [List.getD, h]
theorem stp_set {ss : List Stp} {i : Nat} (h : i < ss.length) (y : Stp) : ss.set i y = ss.take i ++ y :: ss.drop (i + 1) := by
  rw [List.set_eq_take_append_cons_drop, if_pos h]
theorem cells_setA {ss : List Stp} {i : Nat} (h : i < ss.length) (a : Int) : (stepCells ss).take (i * 2) ++ [num a] ++ (stepCells ss).drop (i * 2 + 1) = stepCells (ss.set i ⟨a, (ss.getD i ⟨0, 0⟩).b⟩) := by
  obtain ⟨e, hl⟩ := stp_split h
  rw [stp_set h]
  obtain ⟨e1, h1⟩ := stepCells_mid (B := ss.drop (i + 1)) (x := ss.getD i ⟨0, 0⟩) hl
  obtain ⟨e2, h2⟩ := stepCells_mid (B := ss.drop (i + 1)) (x := (⟨a, (ss.getD i ⟨0, 0⟩).b⟩ : Stp)) hl
  rw [e2]
  conv => lhs; rw [e]
  rw [e1, ← h1, List.append_assoc (stepCells (ss.take i)), List.take_left, ← List.append_assoc (stepCells (ss.take i)) [num _], List.drop_append]
  simp [List.drop_of_length_le]
theorem cells_setB {ss : List Stp} {i : Nat} (h : i < ss.length) (b : Int) : (stepCells ss).take (i * 2 + 1) ++ [num b] ++ (stepCells ss).drop (i * 2 + 2) = stepCells (ss.set i ⟨(ss.getD i ⟨0, 0⟩).a, b⟩) := by
  obtain ⟨e, hl⟩ := stp_split h
  rw [stp_set h]
  obtain ⟨e1, h1⟩ := stepCells_mid (B := ss.drop (i + 1)) (x := ss.getD i ⟨0, 0⟩) hl
  obtain ⟨e2, h2⟩ := stepCells_mid (B := ss.drop (i + 1)) (x := (⟨(ss.getD i ⟨0, 0⟩).a, b⟩ : Stp)) hl
  rw [e2]
  conv => lhs; rw [e]
  have hA : (stepCells (ss.take i) ++ [num (ss.getD i ⟨0, 0⟩).a]).length = i * 2 + 1 := by simp [h1]
  rw [e1, ← hA, List.take_left]
  have : (stepCells (ss.take i) ++ [num (ss.getD i ⟨0, 0⟩).a] ++ ([num (ss.getD i ⟨0, 0⟩).b] ++ stepCells (ss.drop (i + 1)))).drop (i * 2 + 2) = stepCells (ss.drop (i + 1)) := by
    rw [← List.append_assoc, ← show ((stepCells (ss.take i) ++ [num (ss.getD i ⟨0, 0⟩).a]) ++ [num (ss.getD i ⟨0, 0⟩).b]).length = i * 2 + 2 by simp [h1], List.drop_left]
  rw [this]
  simp
theorem cells_setS {ss : List Stp} {i : Nat} (h : i < ss.length) (a b : Int) : (stepCells ss).take (i * 2) ++ [num a, num b] ++ (stepCells ss).drop (i * 2 + 2) = stepCells (ss.set i ⟨a, b⟩) := by
  obtain ⟨e, hl⟩ := stp_split h
  rw [stp_set h]
  obtain ⟨e1, h1⟩ := stepCells_mid (B := ss.drop (i + 1)) (x := ss.getD i ⟨0, 0⟩) hl
  obtain ⟨e2, _⟩ := stepCells_mid (B := ss.drop (i + 1)) (x := (⟨a, b⟩ : Stp)) hl
  rw [e2]
  conv => lhs; rw [e]
  have : (stepCells (ss.take i) ++ [num (ss.getD i ⟨0, 0⟩).a] ++ ([num (ss.getD i ⟨0, 0⟩).b] ++ stepCells (ss.drop (i + 1)))).drop (i * 2 + 2) = stepCells (ss.drop (i + 1)) := by
    rw [← List.append_assoc, ← show ((stepCells (ss.take i) ++ [num (ss.getD i ⟨0, 0⟩).a]) ++ [num (ss.getD i ⟨0, 0⟩).b]).length = i * 2 + 2 by simp [h1], List.drop_left]
  rw [e1, this, ← h1, List.append_assoc (stepCells (ss.take i)), List.take_left]
  simp
section
variable {P : Program} {n : Nat} {w0 : World} {K : Env} {HS : List PH} {d : Option Tmp} {ty : TypeId} {ps : String} {af : Array Edge} {g : Option (Nat × Bool)}
theorem m_storeS {t : TypeId} {x y : Operand} {z : Value} {bytes i : Nat} {sv : Value} {a b : Int} {ss : List Stp} {h : PH} (p : Nat) (ht : TyF P t z 2 bytes true) (hx : ev K x = some (eltP sv (i * 2))) (hy : ev K y = some (stepV a b))
    (hp' : HS[p]? = some h) (r : StepsO ss sv h) (hi : i < ss.length) :
    StepX P n w0 K HS ⟨d, .store t x y, ty, ps, af, g⟩ h (fun v' h' => v' = undef ∧ StepsO (ss.set i ⟨a, b⟩) sv h') := by
  have := m_storeE (P := P) (n := n) (w0 := w0) (d := d) (ty := ty) (ps := ps) (af := af) (g := g) p ht hx hy (us := [num a, num b]) rfl rfl (by simp [Value.oneCell']) hp' r (by decide) (by rw [stepCells_len]; omega)
  rw [cells_setS hi] at this
  unfold StepsO
  rw [List.length_set]
  exact this
theorem m_storeSa {t : TypeId} {x y : Operand} {z : Value} {bytes i : Nat} {sv : Value} {a : Int} {ss : List Stp} {h : PH} (p : Nat) (ht : TyF P t z 1 bytes false) (hx : ev K x = some (eltP sv (i * 2 + 0))) (hy : ev K y = some (num a))
    (hp' : HS[p]? = some h) (r : StepsO ss sv h) (hi : i < ss.length) :
    StepX P n w0 K HS ⟨d, .store t x y, ty, ps, af, g⟩ h (fun v' h' => v' = undef ∧ StepsO (ss.set i ⟨a, (ss.getD i ⟨0, 0⟩).b⟩) sv h') := by
  have := m_storeE (P := P) (n := n) (w0 := w0) (d := d) (ty := ty) (ps := ps) (af := af) (g := g) p ht hx hy (us := [num a]) rfl rfl (by simp [Value.oneCell']) hp' r (by decide) (by rw [stepCells_len]; omega)
  rw [Nat.add_zero, cells_setA hi] at this
  unfold StepsO
  rw [List.length_set]
  exact this
theorem m_storeSb {t : TypeId} {x y : Operand} {z : Value} {bytes i : Nat} {sv : Value} {b : Int} {ss : List Stp} {h : PH} (p : Nat) (ht : TyF P t z 1 bytes false) (hx : ev K x = some (eltP sv (i * 2 + 1))) (hy : ev K y = some (num b))
    (hp' : HS[p]? = some h) (r : StepsO ss sv h) (hi : i < ss.length) :
    StepX P n w0 K HS ⟨d, .store t x y, ty, ps, af, g⟩ h (fun v' h' => v' = undef ∧ StepsO (ss.set i ⟨(ss.getD i ⟨0, 0⟩).a, b⟩) sv h') := by
  have := m_storeE (P := P) (n := n) (w0 := w0) (d := d) (ty := ty) (ps := ps) (af := af) (g := g) p ht hx hy (us := [num b]) rfl rfl (by simp [Value.oneCell']) hp' r (by decide) (by rw [stepCells_len]; omega)
  rw [show i * 2 + 1 + 1 = i * 2 + 2 by omega, cells_setB hi] at this
  unfold StepsO
  rw [List.length_set]
  exact this
end
theorem ct_l_szStepS (ss : List Stp) (v : Value) (left : Int) (w : World) (r : StepsR ss v (hp w)) (hl : 0 ≤ left ∧ left ≤ 1048576) :
    Calls Try.prog 44 [v, num left].toArray w (RetV w (num (szV left ss.length))) := by
  refine calls_in Try.func44 rfl Try.ntmps44 rfl (Sat.start w) ?_
  have hle0 := r.le
  obtain ⟨cs_r, rr_r, hc_r⟩ := r.at
  refine wp_sc ?_
  refine wp_sq ?_
  refine sq_v rfl (v_assign rfl) rfl ?_
  refine sq_end ?_
  refine qs_n ?_
  refine wp_sc ?_
  refine wp_sq ?_
  refine sq_v rfl (v_move rfl) rfl ?_
  refine sq_v rfl (v_move rfl) rfl ?_
  refine sq_v rfl (v_len Try.underlying73 rfl r.sl) rfl ?_
  refine sq_v rfl (v_sub rfl rfl ((by unfold I64; omega))) rfl ?_
  refine sq_v rfl (v_assign rfl) rfl ?_
  refine sq_end ?_
  refine qs_n ?_
  refine wp_sc ?_
  refine wp_sc ?_
  refine wp_sq ?_
  refine sq_v rfl (v_move rfl) rfl ?_
  refine sq_v rfl (v_lss rfl rfl) rfl ?_
  refine sq_end ?_
  refine qs_n ?_
  refine wp_cd rfl (fun c10 => ?_) (fun c10 => ?_)
  · refine wp_sc ?_
    refine wp_sq ?_
    refine sq_v rfl (v_assign rfl) rfl ?_
    refine sq_end ?_
    refine qs_n ?_
    refine wp_rt ?_
    refine qs_r ?_
    exact qs_ret1 rfl rfl (fin_q (i := 0) rfl (by rw [szV, if_pos c10]))
  · refine wp_sk ?_
    refine qs_n ?_
    refine wp_sc ?_
    refine wp_sq ?_
    refine sq_v rfl (v_move rfl) rfl ?_
    refine sq_v rfl (v_assign rfl) rfl ?_
    refine sq_end ?_
    refine qs_n ?_
    refine wp_rt ?_
    exact qs_ret1 rfl rfl (fin_q (i := 0) rfl (by rw [szV, if_neg c10]))
theorem ct_l_toStep (a b : Int) (w : World) : Calls Try.prog 108 [stepV a b].toArray w (RetV w (stepV a b)) := by
  refine calls_in Try.func108 rfl Try.ntmps108 rfl (Sat.start w) ?_
  refine wp_sc ?_
  refine wp_sq ?_
  refine sq_x rfl (x_box rfl rfl) rfl ?_; rintro _ _ ⟨b1, rfl, rfl⟩
  refine sq_x rfl (x_alloc ty_114 rfl) rfl ?_; rintro _ _ ⟨b2, rfl, rfl⟩
  refine sq_end ?_
  refine qs_n ?_
  refine wp_sc ?_
  refine wp_sq ?_
  refine sq_x rfl (x_alloc ty_114 rfl) rfl ?_; rintro _ _ ⟨b3, rfl, rfl⟩
  refine sq_end ?_
  refine qs_n ?_
  refine wp_sc ?_
  refine wp_sq ?_
  refine sq_v rfl (v_fieldAddr fd_143_0 ty_3 (by decide) rfl) rfl ?_
  refine sq_v rfl (v_loadB 2 ty_3 rfl rfl rfl) rfl ?_
  refine sq_v rfl (v_fieldAddr fd_114_0 ty_3 (by decide) rfl) rfl ?_
  refine sq_m 0 rfl rfl (m_store1 0 ty_3 rfl rfl rfl rfl (Nat.le_of_ble_eq_true rfl)) rfl ?_; rintro _ _ ⟨rfl, rfl⟩
  refine sq_end ?_
  refine qs_n ?_
  refine wp_sc ?_
  refine wp_sq ?_
  refine sq_v rfl (v_fieldAddr fd_143_1 ty_3 (by decide) rfl) rfl ?_
  refine sq_v rfl (v_loadB 2 ty_3 rfl rfl rfl) rfl ?_
  refine sq_v rfl (v_fieldAddr fd_114_1 ty_3 (by decide) rfl) rfl ?_
  refine sq_m 0 rfl rfl (m_store1 0 ty_3 rfl rfl rfl rfl (Nat.le_of_ble_eq_true rfl)) rfl ?_; rintro _ _ ⟨rfl, rfl⟩
  refine sq_end ?_
  refine qs_n ?_
  refine wp_sc ?_
  refine wp_sq ?_
  refine sq_v rfl (v_loadNB 0 ty_114 rfl rfl rfl rfl) rfl ?_
  refine sq_m 1 rfl rfl (m_store 1 ty_114 rfl rfl rfl rfl (by simp [Value.oneCell']) rfl (Nat.le_of_ble_eq_true rfl)) rfl ?_; rintro _ _ ⟨rfl, rfl⟩
  refine sq_end ?_
  refine qs_n ?_
  refine wp_rt ?_
  exact qs_retc 1 rfl ty_114 rfl rfl rfl (fin_v (i := 3) rfl)
theorem steps_zero (m : Nat) : (List.replicate m [num 0, num 0]).flatten = stepCells (List.replicate m ⟨0, 0⟩) := by
  induction m with
  | zero => rfl
  | succ m ih => rw [List.replicate_succ, List.replicate_succ, List.flatten_cons, ih]; rfl
theorem set_prefixG {α : Type} {xs : List α} {i : Nat} {x z : α} (h : xs[i]? = some x) : (xs.take i ++ List.replicate (xs.length - i) z).set i x = xs.take (i + 1) ++ List.replicate (xs.length - (i + 1)) z := by
  obtain ⟨hi, e⟩ := List.getElem?_eq_some_iff.1 h
  have hl : (xs.take i).length = i := by simp; omega
  obtain ⟨m, hm⟩ : ∃ m, xs.length - i = m + 1 := ⟨xs.length - i - 1, by omega⟩
  rw [List.set_append_right _ _ (by omega), hl, Nat.sub_self, hm, List.replicate_succ, List.set_cons_zero, List.take_succ_eq_append_getElem hi, e, show xs.length - (i + 1) = m by omega, List.append_assoc]
  rfl
theorem ct_l_toStepS (ss : List Stp) (v : Value) (w : World) (r : StepsR ss v (hp w)) (hs : ss.length ≤ 1048576) :
    Calls Try.prog 46 [v].toArray w (Ret w emp (StepsO ss)) := by
  refine calls_in Try.func46 rfl Try.ntmps46 rfl (Sat.start w) ?_
  have hle0 := r.le
  obtain ⟨cs_r, rr_r, hc_r⟩ := r.at
  refine wp_sc ?_
  refine wp_sq ?_
  refine sq_v rfl (v_assign rfl) rfl ?_
  refine sq_end ?_
  refine qs_n ?_
  refine wp_sc ?_
  refine wp_sq ?_
  refine sq_v rfl (v_move rfl) rfl ?_
  refine sq_v rfl (v_len Try.underlying73 rfl r.sl) rfl ?_
  refine sq_x rfl (x_make Try.underlying43 ty_114 rfl rfl rfl rfl (by omega) (by omega) (by omega)) rfl ?_; intro v7 h7 r7
  refine sq_v rfl (v_assign rfl) rfl ?_
  refine sq_end ?_
  have r7' : StepsO (List.replicate ss.length ⟨0, 0⟩) v7 h7 := by unfold StepsO; rw [List.length_replicate, ← steps_zero]; simpa using r7
  refine qs_n ?_
  refine wp_sc ?_
  refine wp_sc ?_
  refine wp_sq ?_
  refine sq_v rfl (v_assign rfl) rfl ?_
  refine sq_end ?_
  refine qs_n ?_
  refine wp_bl ?_
  refine wp_lp (σ := Nat × PH) (fun z_ => [(0, v), (2, .slice none 0 0), (3, v7), (4, num z_.1)]) (fun z_ => [z_.2, hp w]) (fun z_ => z_.1 ≤ ss.length ∧ StepsO (ss.take z_.1 ++ List.replicate (ss.length - z_.1) ⟨0, 0⟩) v7 z_.2) (fun z_ => ss.length - z_.1) (0, h7) (⟨by (try dsimp only); omega, by (try dsimp only); simpa using r7'⟩) ⟨rfl, rfl, rfl, (by first | rfl | exact ksub rfl (by first | omega | (simp; done) | (simp; omega))), trivial⟩ (fun _ s => s) ?_
  rintro ⟨i, g⟩ ⟨hi, q⟩
  dsimp only at hi q ⊢
  obtain ⟨cs_q, rr_q, hc_q⟩ := q.toR.at
  have hle_q := q.toR.le
  have hl : (ss.take i ++ List.replicate (ss.length - i) (⟨0, 0⟩ : Stp)).length = ss.length := by simp; omega
  refine wp_sc ?_
  refine wp_sc ?_
  refine wp_sq ?_
  refine sq_v rfl (v_move rfl) rfl ?_
  refine sq_v rfl (v_move rfl) rfl ?_
  refine sq_v rfl (v_len Try.underlying73 rfl r.sl) rfl ?_
  refine sq_v rfl (v_lss rfl rfl) rfl ?_
  refine sq_end ?_
  refine qs_n ?_
  refine wp_cd rfl (fun c11 => ?_) (fun c11 => ?_)
  · refine wp_sk ?_
    refine qs_n ?_
    refine wp_sc ?_
    refine wp_bl ?_
    refine wp_sq ?_
    refine sq_v rfl (v_move rfl) rfl ?_
    refine sq_v rfl (v_move rfl) rfl ?_
    refine sq_v rfl (v_move rfl) rfl ?_
    refine sq_v rfl (v_move rfl) rfl ?_
    obtain ⟨x18, hx18, hcs18⟩ := hc_r (i) (by first | omega | (rw [List.length_set]; omega))
    refine sq_v rfl (v_indexAddr Try.underlying73 ty_143 rfl rfl rr_r (by decide) (by omega) (by first | omega | (rw [List.length_set]; omega))) rfl ?_
    refine sq_v rfl (v_loadNE 1 ty_143 rfl rfl rr_r (by have := rr_r.1; omega) rfl hcs18) rfl ?_
    refine sq_u rfl (x_callv rfl en_108 (fun w s => ct_l_toStep _ _ w)) rfl ?_
    obtain ⟨x21, hx21, hcs21⟩ := hc_q (i) (by first | omega | (rw [List.length_set]; omega))
    refine sq_v rfl (v_indexAddr Try.underlying43 ty_114 rfl rfl rr_q (by decide) (by omega) (by first | omega | (rw [List.length_set]; omega))) rfl ?_
    refine sq_m 0 rfl rfl (m_storeS 0 ty_114 rfl rfl rfl q (by first | omega | (simp only [List.length_cons, List.length_nil]; omega) | (simp only [List.length_append, List.length_cons, List.length_nil]; omega) | (rw [List.length_set]; omega) | (rw [List.length_replicate]; omega) | (simp; omega))) rfl ?_; rintro _ h_q5_8 ⟨rfl, q5_8⟩; have hc_q5_8 := q5_8.toR.atS
    refine sq_end ?_
    refine qs_bn ?_
    refine qs_n ?_
    refine wp_sq ?_
    refine sq_v rfl (v_move rfl) rfl ?_
    refine sq_v rfl (v_add rfl rfl ((by unfold I64; omega))) rfl ?_
    refine sq_v rfl (v_assign rfl) rfl ?_
    refine sq_end ?_
    exact qs_bk (i + 1, h_q5_8) ⟨by (try dsimp only); omega, by (try dsimp only); rw [← set_prefixG hx18]; exact q5_8⟩ (by simp only; omega) ⟨rfl, rfl, rfl, (by first | rfl | exact ksub rfl (by first | omega | (simp; done) | (simp; omega))), trivial⟩ (fun _ s => s)
  · refine wp_ex ?_
    refine qs_x ?_
    refine qs_x ?_
    refine qs_bx ?_
    refine qs_n ?_
    refine wp_sc ?_
    refine wp_sq ?_
    refine sq_v rfl (v_move rfl) rfl ?_
    refine sq_v rfl (v_assign rfl) rfl ?_
    refine sq_end ?_
    refine qs_n ?_
    refine wp_rt ?_
    exact qs_ret1 rfl rfl (fin_t 0 (i := 1) rfl rfl rfl (by rw [List.take_of_length_le (by omega), show ss.length - i = 0 by omega, List.replicate_zero, List.append_nil] at q; exact q))
theorem ct_l_eqStep (a b : Int) (w : World) : Calls Try.prog 82 [stepV a b, stepV a b].toArray w (RetV w (.bool true)) := by
  refine calls_in Try.func82 rfl Try.ntmps82 rfl (Sat.start w) ?_
  refine wp_sc ?_
  refine wp_sq ?_
  refine sq_x rfl (x_box rfl rfl) rfl ?_; rintro _ _ ⟨b2, rfl, rfl⟩
  refine sq_x rfl (x_box rfl rfl) rfl ?_; rintro _ _ ⟨b3, rfl, rfl⟩
  refine sq_v rfl (v_assign rfl) rfl ?_
  refine sq_end ?_
  refine qs_n ?_
  refine wp_sc ?_
  refine wp_sc ?_
  refine wp_sq ?_
  refine sq_v rfl (v_fieldAddr fd_114_0 ty_3 (by decide) rfl) rfl ?_
  refine sq_v rfl (v_loadB 1 ty_3 rfl rfl rfl) rfl ?_
  refine sq_v rfl (v_fieldAddr fd_114_0 ty_3 (by decide) rfl) rfl ?_
  refine sq_v rfl (v_loadB 0 ty_3 rfl rfl rfl) rfl ?_
  refine sq_v rfl (v_neqs rfl rfl) rfl ?_
  refine sq_end ?_
  refine qs_n ?_
  refine wp_cf rfl ?_
  refine wp_sk ?_
  refine qs_n ?_
  refine wp_sc ?_
  refine wp_sc ?_
  refine wp_sq ?_
  refine sq_v rfl (v_fieldAddr fd_114_1 ty_3 (by decide) rfl) rfl ?_
  refine sq_v rfl (v_loadB 1 ty_3 rfl rfl rfl) rfl ?_
  refine sq_v rfl (v_fieldAddr fd_114_1 ty_3 (by decide) rfl) rfl ?_
  refine sq_v rfl (v_loadB 0 ty_3 rfl rfl rfl) rfl ?_
  refine sq_v rfl (v_neqs rfl rfl) rfl ?_
  refine sq_end ?_
  refine qs_n ?_
  refine wp_cf rfl ?_
  refine wp_sk ?_
  refine qs_n ?_
  refine wp_sc ?_
  refine wp_sq ?_
  refine sq_v rfl (v_assign rfl) rfl ?_
  refine sq_end ?_
  refine qs_n ?_
  refine wp_rt ?_
  exact qs_ret1 rfl rfl (fin_v (i := 2) rfl)
theorem ct_l_eqStepS (ss : List Stp) (v u : Value) (w : World) (r : StepsR ss v (hp w)) (r' : StepsR ss u (hp w)) : Calls Try.prog 30 [v, u].toArray w (RetV w (.bool true)) := by
  refine calls_in Try.func30 rfl Try.ntmps30 rfl (Sat.start w) ?_
  have hle0 := r.le
  obtain ⟨cs_r, rr_r, hc_r⟩ := r.at
  have hle1 := r'.le
  obtain ⟨cs_r_, rr_r_, hc_r_⟩ := r'.at
  refine wp_sc ?_
  refine wp_sq ?_
  refine sq_v rfl (v_assign rfl) rfl ?_
  refine sq_end ?_
  refine qs_n ?_
  refine wp_sc ?_
  refine wp_sc ?_
  refine wp_sq ?_
  refine sq_v rfl (v_move rfl) rfl ?_
  refine sq_v rfl (v_len Try.underlying43 rfl r.sl) rfl ?_
  refine sq_v rfl (v_move rfl) rfl ?_
  refine sq_v rfl (v_len Try.underlying43 rfl r'.sl) rfl ?_
  refine sq_v rfl (v_neqs rfl rfl) rfl ?_
  refine sq_end ?_
  refine qs_n ?_
  refine wp_cf rfl ?_
  refine wp_sk ?_
  refine qs_n ?_
  refine wp_sc ?_
  refine wp_sc ?_
  refine wp_sq ?_
  refine sq_v rfl (v_assign rfl) rfl ?_
  refine sq_end ?_
  refine qs_n ?_
  refine wp_bl ?_
  refine wp_lp (σ := Nat) (fun z_ => [(0, v), (1, u), (4, .bool false), (5, num z_)]) (fun z_ => [hp w]) (fun z_ => z_ ≤ ss.length) (fun z_ => ss.length - z_) 0 (by omega) ⟨rfl, rfl, rfl, (by first | rfl | exact ksub rfl (by first | omega | (simp; done) | (simp; omega))), trivial⟩ (fun _ s => s) ?_
  rintro i hi
  refine wp_sc ?_
  refine wp_sc ?_
  refine wp_sq ?_
  refine sq_v rfl (v_move rfl) rfl ?_
  refine sq_v rfl (v_move rfl) rfl ?_
  refine sq_v rfl (v_len Try.underlying43 rfl r.sl) rfl ?_
  refine sq_v rfl (v_lss rfl rfl) rfl ?_
  refine sq_end ?_
  refine qs_n ?_
  refine wp_cd rfl (fun c14 => ?_) (fun c14 => ?_)
  · refine wp_sk ?_
    refine qs_n ?_
    refine wp_sc ?_
    refine wp_bl ?_
    refine wp_sc ?_
    refine wp_rj 10 [(0, true), (1, true), (2, true), (3, true), (4, true), (5, true), (6, true), (7, true), (8, false), (9, true)] mixed_ok (by kernel_rfl) ?_
    refine rj_v rfl rfl (v_move rfl) rfl ?_
    refine rj_v rfl rfl (v_move rfl) rfl ?_
    obtain ⟨x19, hx19, hcs19⟩ := hc_r (i) (by first | omega | (rw [List.length_set]; omega))
    refine rj_v rfl rfl (v_indexAddr Try.underlying43 ty_114 rfl rfl rr_r (by decide) (by omega) (by first | omega | (rw [List.length_set]; omega))) rfl ?_
    refine rj_v rfl rfl (v_loadNE 0 ty_114 rfl rfl rr_r (by have := rr_r.1; omega) rfl hcs19) rfl ?_
    refine rj_v rfl rfl (v_move rfl) rfl ?_
    refine rj_v rfl rfl (v_move rfl) rfl ?_
    obtain ⟨x23, hx23, hcs23⟩ := hc_r_ (i) (by first | omega | (rw [List.length_set]; omega))
    refine rj_v rfl rfl (v_indexAddr Try.underlying43 ty_114 rfl rfl rr_r_ (by decide) (by omega) (by first | omega | (rw [List.length_set]; omega))) rfl ?_
    refine rj_v rfl rfl (v_loadNE 0 ty_114 rfl rfl rr_r_ (by have := rr_r_.1; omega) rfl hcs23) rfl ?_
    obtain rfl : x19 = x23 := (by rw [hx19] at hx23; exact Option.some.inj hx23)
    refine rj_u rfl rfl (x_callv rfl en_82 (fun w s => ct_l_eqStep _ _ w)) rfl ?_
    refine rj_v rfl rfl (v_not rfl) rfl ?_
    refine rj_end ?_
    refine qs_n ?_
    refine wp_cf rfl ?_
    refine wp_sk ?_
    refine qs_bn ?_
    refine qs_n ?_
    refine wp_sq ?_
    refine sq_v rfl (v_move rfl) rfl ?_
    refine sq_v rfl (v_add rfl rfl ((by unfold I64; omega))) rfl ?_
    refine sq_v rfl (v_assign rfl) rfl ?_
    refine sq_end ?_
    exact qs_bk (i + 1) (by omega) (by omega) ⟨rfl, rfl, rfl, (by first | rfl | exact ksub rfl (by first | omega | (simp; done) | (simp; omega))), trivial⟩ (fun _ s => s)
  · refine wp_ex ?_
    refine qs_x ?_
    refine qs_x ?_
    refine qs_bx ?_
    refine qs_n ?_
    refine wp_sc ?_
    refine wp_sq ?_
    refine sq_v rfl (v_assign rfl) rfl ?_
    refine sq_end ?_
    refine qs_n ?_
    refine wp_rt ?_
    exact qs_ret1 rfl rfl (fin_v (i := 0) rfl)
def marksS (k : Int) (m : Nat) : List Stp := (List.range m).map fun (i : Nat) => ⟨k + 2 * i, k + 2 * i + 1⟩
theorem marksS_len (k : Int) (m : Nat) : (marksS k m).length = m := by simp [marksS]
theorem marksS_step (k : Int) (m : Nat) : marksS k (m + 1) = marksS k m ++ [⟨k + 2 * m, k + 2 * m + 1⟩] := by simp [marksS, List.range_succ]
theorem marks_set {k : Int} {ss : List Stp} {i : Nat} {b : Int} (h : i < ss.length) : ((marksS k i ++ ss.drop i).set i ⟨k + 2 * i, b⟩).set i ⟨(((marksS k i ++ ss.drop i).set i ⟨k + 2 * i, b⟩).getD i ⟨0, 0⟩).a, k + 2 * i + 1⟩ = marksS k (i + 1) ++ ss.drop (i + 1) := by
  have hl : i < (marksS k i ++ ss.drop i).length := by rw [List.length_append, marksS_len, List.length_drop]; omega
  have e : (((marksS k i ++ ss.drop i).set i ⟨k + 2 * i, b⟩).getD i ⟨0, 0⟩).a = k + 2 * i := by simp only [List.getD]; rw [List.getElem?_set_self hl]; rfl
  rw [e, List.set_set, List.set_append_right _ _ (by rw [marksS_len]; exact Nat.le_refl _), marksS_len, Nat.sub_self, marksS_step, List.drop_eq_getElem_cons h, List.append_assoc]
  rfl
theorem ct_l_markStepS (ss : List Stp) (v : Value) (k : Int) (w : World) (h : PH) (hle : PLe h (hp w)) (r : StepsO ss v h) (hk : 0 ≤ k ∧ k + 2 * ss.length ≤ 4611686018427387904) :
    Calls Try.prog 33 [v, num k].toArray w (Ret w h (fun u h' => u = num (k + 2 * ss.length) ∧ StepsO (marksS k ss.length) v h')) := by
  refine calls_in Try.func33 rfl Try.ntmps33 rfl (Sat.start2 hle) ?_
  have hle0 := r.toR.le
  obtain ⟨cs_r, rr_r, hc_r⟩ := r.toR.at
  refine wp_sc ?_
  refine wp_sq ?_
  refine sq_v rfl (v_assign rfl) rfl ?_
  refine sq_end ?_
  refine qs_n ?_
  refine wp_sc ?_
  refine wp_sc ?_
  refine wp_sq ?_
  refine sq_v rfl (v_assign rfl) rfl ?_
  refine sq_end ?_
  refine qs_n ?_
  refine wp_bl ?_
  refine wp_lp (σ := Nat × PH) (fun z_ => [(0, v), (1, num (k + 2 * z_.1)), (4, num 0), (5, num z_.1)]) (fun z_ => [z_.2, (restP w h)]) (fun z_ => z_.1 ≤ ss.length ∧ StepsO (marksS k z_.1 ++ ss.drop z_.1) v z_.2) (fun z_ => ss.length - z_.1) (0, h) (⟨by (try dsimp only); omega, by (try dsimp only); simpa [marksS] using r⟩) ⟨rfl, (by first | rfl | exact ksub rfl (by first | omega | (simp; done) | (simp; omega))), rfl, (by first | rfl | exact ksub rfl (by first | omega | (simp; done) | (simp; omega))), trivial⟩ (fun _ s => s) ?_
  rintro ⟨i, g⟩ ⟨hi, q⟩
  dsimp only at hi q ⊢
  obtain ⟨cs_q, rr_q, hc_q⟩ := q.toR.at
  have hle_q := q.toR.le
  have hl : (marksS k i ++ ss.drop i).length = ss.length := by rw [List.length_append, marksS_len, List.length_drop]; omega
  refine wp_sc ?_
  refine wp_sc ?_
  refine wp_sq ?_
  refine sq_v rfl (v_move rfl) rfl ?_
  refine sq_v rfl (v_move rfl) rfl ?_
  refine sq_v rfl (v_len Try.underlying43 rfl q.toR.sl) rfl ?_
  refine sq_v rfl (v_lss rfl rfl) rfl ?_
  refine sq_end ?_
  refine qs_n ?_
  refine wp_cd rfl (fun c9 => ?_) (fun c9 => ?_)
  · refine wp_sk ?_
    refine qs_n ?_
    refine wp_sc ?_
    refine wp_bl ?_
    refine wp_sc ?_
    refine wp_sq ?_
    refine sq_v rfl (v_move rfl) rfl ?_
    refine sq_v rfl (v_move rfl) rfl ?_
    refine sq_v rfl (v_move rfl) rfl ?_
    obtain ⟨x15, hx15, hcs15⟩ := hc_q (i) (by first | omega | (rw [List.length_set]; omega))
    refine sq_v rfl (v_indexAddr Try.underlying43 ty_114 rfl rfl rr_q (by decide) (by omega) (by first | omega | (rw [List.length_set]; omega))) rfl ?_
    refine sq_v rfl (v_fieldAddrE fd_114_0 ty_3 (by decide) rfl rr_q (by have := rr_q.1; first | omega | (simp only [Int.toNat_natCast]; omega) | (rw [stepCells_len, List.length_set]; omega))) rfl ?_
    refine sq_m 0 rfl rfl (m_storeSa 0 ty_3 rfl rfl rfl q (by first | omega | (simp only [List.length_cons, List.length_nil]; omega) | (simp only [List.length_append, List.length_cons, List.length_nil]; omega) | (rw [List.length_set]; omega) | (rw [List.length_replicate]; omega) | (simp; omega))) rfl ?_; rintro _ h_q4_5 ⟨rfl, q4_5⟩; have hc_q4_5 := q4_5.toR.atS
    refine sq_end ?_
    refine qs_n ?_
    refine wp_sc ?_
    refine wp_sq ?_
    refine sq_v rfl (v_move rfl) rfl ?_
    refine sq_v rfl (v_add rfl rfl ((by unfold I64; omega))) rfl ?_
    refine sq_v rfl (v_assign rfl) rfl ?_
    refine sq_end ?_
    refine qs_n ?_
    refine wp_sc ?_
    refine wp_sq ?_
    refine sq_v rfl (v_move rfl) rfl ?_
    refine sq_v rfl (v_move rfl) rfl ?_
    refine sq_v rfl (v_move rfl) rfl ?_
    obtain ⟨x22, hx22, hcs22⟩ := hc_q4_5 (i) (by first | omega | (rw [List.length_set]; omega))
    refine sq_v rfl (v_indexAddr Try.underlying43 ty_114 rfl rfl q4_5.toR (by decide) (by omega) (by first | omega | (rw [List.length_set]; omega))) rfl ?_
    refine sq_v rfl (v_fieldAddrE fd_114_1 ty_3 (by decide) rfl q4_5.toR (by have := q4_5.toR.1; first | omega | (simp only [Int.toNat_natCast]; omega) | (rw [stepCells_len, List.length_set]; omega))) rfl ?_
    refine sq_m 0 rfl rfl (m_storeSb 0 ty_3 rfl rfl rfl q4_5 (by first | omega | (simp only [List.length_cons, List.length_nil]; omega) | (simp only [List.length_append, List.length_cons, List.length_nil]; omega) | (rw [List.length_set]; omega) | (rw [List.length_replicate]; omega) | (simp; omega))) rfl ?_; rintro _ h_q6_5 ⟨rfl, q6_5⟩; have hc_q6_5 := q6_5.toR.atS
    refine sq_end ?_
    refine qs_n ?_
    refine wp_sq ?_
    refine sq_v rfl (v_move rfl) rfl ?_
    refine sq_v rfl (v_add rfl rfl ((by unfold I64; omega))) rfl ?_
    refine sq_v rfl (v_assign rfl) rfl ?_
    refine sq_end ?_
    refine qs_bn ?_
    refine qs_n ?_
    refine wp_sq ?_
    refine sq_v rfl (v_move rfl) rfl ?_
    refine sq_v rfl (v_add rfl rfl ((by unfold I64; omega))) rfl ?_
    refine sq_v rfl (v_assign rfl) rfl ?_
    refine sq_end ?_
    exact qs_bk (i + 1, h_q6_5) ⟨by (try dsimp only); omega, by (try dsimp only); simp only [Int.toNat_natCast] at q6_5; rw [marks_set (by omega)] at q6_5; exact q6_5⟩ (by simp only; omega) ⟨rfl, (by first | rfl | exact ksub rfl (by first | omega | (simp; done) | (simp; omega))), rfl, (by first | rfl | exact ksub rfl (by first | omega | (simp; done) | (simp; omega))), trivial⟩ (fun _ s => s)
  · refine wp_ex ?_
    refine qs_x ?_
    refine qs_x ?_
    refine qs_bx ?_
    refine qs_n ?_
    refine wp_sc ?_
    refine wp_sq ?_
    refine sq_v rfl (v_move rfl) rfl ?_
    refine sq_v rfl (v_assign rfl) rfl ?_
    refine sq_end ?_
    refine qs_n ?_
    refine wp_rt ?_
    exact qs_ret1 rfl rfl (fin_m 0 (i := 1) rfl rfl rfl (by rw [show i = ss.length by omega] at q ⊢; rw [List.drop_length, List.append_nil] at q; exact ⟨rfl, q⟩))
theorem ct_l_heldStepS (m : Nat) (v : Value) (k : Int) (w : World) (r : StepsR (marksS k m) v (hp w)) (hk : 0 ≤ k ∧ k + 2 * m ≤ 4611686018427387904) :
    Calls Try.prog 34 [v, num k].toArray w (RetV w (num (k + 2 * m))) := by
  have hml := marksS_len k m
  have hmg : ∀ (i : Nat) (x : Stp), (marksS k m)[i]? = some x → x = ⟨k + 2 * i, k + 2 * i + 1⟩ := fun i x h => by
    simp only [marksS, List.getElem?_map, Option.map_eq_some_iff] at h
    obtain ⟨j, h1, h2⟩ := h
    have := List.getElem?_eq_some_iff.1 h1
    obtain ⟨_, e⟩ := this
    simp at e
    rw [← h2, e]
  refine calls_in Try.func34 rfl Try.ntmps34 rfl (Sat.start w) ?_
  have hle0 := r.le
  obtain ⟨cs_r, rr_r, hc_r⟩ := r.at
  refine wp_sc ?_
  refine wp_sq ?_
  refine sq_v rfl (v_assign rfl) rfl ?_
  refine sq_end ?_
  refine qs_n ?_
  refine wp_sc ?_
  refine wp_sc ?_
  refine wp_sq ?_
  refine sq_v rfl (v_assign rfl) rfl ?_
  refine sq_end ?_
  refine qs_n ?_
  refine wp_bl ?_
  refine wp_lp (σ := Nat) (fun z_ => [(0, v), (1, num (k + 2 * z_)), (4, num 0), (5, num z_)]) (fun z_ => [hp w]) (fun z_ => z_ ≤ (marksS k m).length) (fun z_ => (marksS k m).length - z_) 0 (by omega) ⟨rfl, (by first | rfl | exact ksub rfl (by first | omega | (simp; done) | (simp; omega))), rfl, (by first | rfl | exact ksub rfl (by first | omega | (simp; done) | (simp; omega))), trivial⟩ (fun _ s => s) ?_
  rintro i hi
  refine wp_sc ?_
  refine wp_sc ?_
  refine wp_sq ?_
  refine sq_v rfl (v_move rfl) rfl ?_
  refine sq_v rfl (v_move rfl) rfl ?_
  refine sq_v rfl (v_len Try.underlying43 rfl r.sl) rfl ?_
  refine sq_v rfl (v_lss rfl rfl) rfl ?_
  refine sq_end ?_
  refine qs_n ?_
  refine wp_cd rfl (fun c9 => ?_) (fun c9 => ?_)
  · refine wp_sk ?_
    refine qs_n ?_
    refine wp_sc ?_
    refine wp_bl ?_
    refine wp_sc ?_
    refine wp_sc ?_
    refine wp_sq ?_
    refine sq_v rfl (v_move rfl) rfl ?_
    refine sq_v rfl (v_move rfl) rfl ?_
    obtain ⟨x14, hx14, hcs14⟩ := hc_r (i) (by first | omega | (rw [List.length_set]; omega))
    refine sq_v rfl (v_indexAddr Try.underlying43 ty_114 rfl rfl rr_r (by decide) (by omega) (by first | omega | (rw [List.length_set]; omega))) rfl ?_
    refine sq_v rfl (v_fieldAddrE fd_114_0 ty_3 (by decide) rfl rr_r (by have := rr_r.1; first | omega | (simp only [Int.toNat_natCast]; omega) | (rw [stepCells_len, List.length_set]; omega))) rfl ?_
    refine sq_v rfl (v_loadE 0 ty_3 rfl rfl rr_r (sub_get hcs14 (j := 0) rfl)) rfl ?_
    refine sq_v rfl (v_move rfl) rfl ?_
    refine sq_v rfl (v_neq rfl rfl) rfl ?_
    refine sq_end ?_
    refine qs_n ?_
    refine wp_cd rfl (fun c18 => ?_) (fun c18 => ?_)
    · refine wp_sc ?_
      refine wp_sq ?_
      refine sq_v rfl (v_assign rfl) rfl ?_
      refine sq_end ?_
      refine qs_n ?_
      refine wp_rt ?_
      refine qs_r ?_
      refine qs_br ?_
      refine qs_r ?_
      refine qs_r ?_
      refine qs_br ?_
      refine qs_r ?_
      exact absurd (by rw [hmg i _ hx14]) c18
    · refine wp_sk ?_
      refine qs_n ?_
      refine wp_sc ?_
      refine wp_sq ?_
      refine sq_v rfl (v_move rfl) rfl ?_
      refine sq_v rfl (v_add rfl rfl ((by unfold I64; omega))) rfl ?_
      refine sq_v rfl (v_assign rfl) rfl ?_
      refine sq_end ?_
      refine qs_n ?_
      refine wp_sc ?_
      refine wp_sc ?_
      refine wp_sq ?_
      refine sq_v rfl (v_move rfl) rfl ?_
      refine sq_v rfl (v_move rfl) rfl ?_
      obtain ⟨x23, hx23, hcs23⟩ := hc_r (i) (by first | omega | (rw [List.length_set]; omega))
      refine sq_v rfl (v_indexAddr Try.underlying43 ty_114 rfl rfl rr_r (by decide) (by omega) (by first | omega | (rw [List.length_set]; omega))) rfl ?_
      refine sq_v rfl (v_fieldAddrE fd_114_1 ty_3 (by decide) rfl rr_r (by have := rr_r.1; first | omega | (simp only [Int.toNat_natCast]; omega) | (rw [stepCells_len, List.length_set]; omega))) rfl ?_
      refine sq_v rfl (v_loadE 0 ty_3 rfl rfl rr_r (sub_get hcs23 (j := 1) rfl)) rfl ?_
      refine sq_v rfl (v_move rfl) rfl ?_
      refine sq_v rfl (v_neq rfl rfl) rfl ?_
      refine sq_end ?_
      refine qs_n ?_
      refine wp_cd rfl (fun c27 => ?_) (fun c27 => ?_)
      · refine wp_sc ?_
        refine wp_sq ?_
        refine sq_v rfl (v_assign rfl) rfl ?_
        refine sq_end ?_
        refine qs_n ?_
        refine wp_rt ?_
        refine qs_r ?_
        refine qs_br ?_
        refine qs_r ?_
        refine qs_r ?_
        refine qs_br ?_
        refine qs_r ?_
        exact absurd (by rw [hmg i _ hx23]) c27
      · refine wp_sk ?_
        refine qs_n ?_
        refine wp_sq ?_
        refine sq_v rfl (v_move rfl) rfl ?_
        refine sq_v rfl (v_add rfl rfl ((by unfold I64; omega))) rfl ?_
        refine sq_v rfl (v_assign rfl) rfl ?_
        refine sq_end ?_
        refine qs_bn ?_
        refine qs_n ?_
        refine wp_sq ?_
        refine sq_v rfl (v_move rfl) rfl ?_
        refine sq_v rfl (v_add rfl rfl ((by unfold I64; omega))) rfl ?_
        refine sq_v rfl (v_assign rfl) rfl ?_
        refine sq_end ?_
        exact qs_bk (i + 1) (by omega) (by omega) ⟨rfl, (by first | rfl | exact ksub rfl (by first | omega | (simp; done) | (simp; omega))), rfl, (by first | rfl | exact ksub rfl (by first | omega | (simp; done) | (simp; omega))), trivial⟩ (fun _ s => s)
  · refine wp_ex ?_
    refine qs_x ?_
    refine qs_x ?_
    refine qs_bx ?_
    refine qs_n ?_
    refine wp_sc ?_
    refine wp_sq ?_
    refine sq_v rfl (v_move rfl) rfl ?_
    refine sq_v rfl (v_assign rfl) rfl ?_
    refine sq_end ?_
    refine qs_n ?_
    refine wp_rt ?_
    exact qs_ret1 rfl rfl (fin_q (i := 0) rfl (by congr 1; omega))
end Go.Proofs.Ytikeobneipjfnaa
namespace Go.Proofs.Ytikeobneipjfnaa
set_option maxRecDepth 100000
open Go.ChangeShapes Go.WideShapes Go.ChangeAt Go.RowKit
section
variable {H : Type} {enc : TypeId × Value → H} {w : World} {base : Nat} {sp : Nat → Bool} {hd : Bool}
theorem rd_ring {fuel : Nat} {cs : List Value} {x : DataW H × List MemPlace} (h : DataW.trod enc Try.prog w base sp hd fuel 23 cs = some x) : ∃ k m p, cs = [num k, num m, num p] ∧ I64 k ∧ I64 m ∧ I64 p := by
  obtain ⟨hl, hf⟩ := rd_field Try.underlying23 h
  rw [cellsOf_ty ty_23] at hl
  obtain ⟨n0, y0, h0⟩ := hf 0 _ _ fd_23_0
  obtain ⟨n1, y1, h1⟩ := hf 1 _ _ fd_23_1
  obtain ⟨n2, y2, h2⟩ := hf 2 _ _ fd_23_2
  rw [cellsOf_ty ty_3] at h0 h1 h2
  obtain ⟨k, e0, i0⟩ := rd_int Try.underlying3 h0
  obtain ⟨m, e1, i1⟩ := rd_int Try.underlying3 h1
  obtain ⟨p, e2, i2⟩ := rd_int Try.underlying3 h2
  match cs, hl with
  | [a, b, c], _ =>
    simp at e0 e1 e2
    subst e0 e1 e2
    exact ⟨k, m, p, rfl, i0, i1, i2⟩
end
end Go.Proofs.Ytikeobneipjfnaa
namespace Go.Proofs.Ytikeobneipjfnaa
set_option maxRecDepth 100000
open Go.ChangeShapes Go.WideShapes Go.ChangeAt Go.RowKit
section
variable {H : Type} {enc : TypeId × Value → H} {w : World} {base : Nat} {sp : Nat → Bool} {hd : Bool}
theorem rd_ten {fuel : Nat} {cs : List Value} {x : DataW H × List MemPlace} (h : DataW.trod enc Try.prog w base sp hd fuel 26 cs = some x) : ∃ t, TenR t cs (hp w) := by
  obtain ⟨hl, hf⟩ := rd_field Try.underlying26 h
  rw [cellsOf_ty ty_26] at hl
  obtain ⟨n0, y0, h0⟩ := hf 0 _ _ fd_26_0
  obtain ⟨n1, y1, h1⟩ := hf 1 _ _ fd_26_1
  obtain ⟨n2, y2, h2⟩ := hf 2 _ _ fd_26_2
  rw [cellsOf_ty ty_24] at h0 h1 h2
  obtain ⟨a, l, e0, r0, _⟩ := rd_ints Try.underlying24 Try.underlying3 (cellsOf_ty ty_3) h0
  obtain ⟨b, d, e1, r1, _⟩ := rd_ints Try.underlying24 Try.underlying3 (cellsOf_ty ty_3) h1
  obtain ⟨c, xs, e2, r2, _⟩ := rd_ints Try.underlying24 Try.underlying3 (cellsOf_ty ty_3) h2
  match cs, hl with
  | [a', b', c'], _ =>
    simp at e0 e1 e2
    subst e0 e1 e2
    exact ⟨⟨l, d, xs⟩, _, _, _, rfl, r0, r1, r2⟩
theorem arg_network {v : Value} {d : DataW H} {p : List MemPlace} {r : Reach} {b : Nat} (hv : Value.okWide Try.prog w r b 41 v) (h : DataW.Trod enc Try.prog w base sp hd 41 v d p) : ∃ k m q ts op vt vo, v = netV k m q vt vo ∧ TensR ts vt (hp w) ∧ IntsR op vo (hp w) := by
  obtain ⟨cs, rfl, _⟩ := okWide_struct Try.underlying41 hv
  obtain ⟨f, hf⟩ := h
  obtain ⟨hl, hf⟩ := rd_field Try.underlying41 hf
  rw [cellsOf_ty ty_41] at hl
  obtain ⟨n0, y0, h0⟩ := hf 0 _ _ fd_41_0
  obtain ⟨n1, y1, h1⟩ := hf 1 _ _ fd_41_1
  obtain ⟨n2, y2, h2⟩ := hf 2 _ _ fd_41_2
  rw [cellsOf_ty ty_23] at h0
  rw [cellsOf_ty ty_39] at h1
  rw [cellsOf_ty ty_24] at h2
  obtain ⟨k, m, q, e0, _⟩ := rd_ring h0
  obtain ⟨vt, ts, e1, rt⟩ := rd_rows (R := TenR) Try.underlying39 (cellsOf_ty ty_26) (by decide) (fun h => rd_ten h) h1
  obtain ⟨vo, op, e2, ro, _⟩ := rd_ints Try.underlying24 Try.underlying3 (cellsOf_ty ty_3) h2
  obtain ⟨l⟩ := cs
  simp only [Value.cells] at hl e0 e1 e2
  match l, hl with
  | [a1, a2, a3, a4, a5], _ =>
    simp at e0 e1 e2
    obtain ⟨rfl, rfl, rfl⟩ := e0
    subst e1 e2
    exact ⟨k, m, q, ts, op, _, _, rfl, rt, ro⟩
end
end Go.Proofs.Ytikeobneipjfnaa
namespace Go.Proofs.Ytikeobneipjfnaa
set_option maxRecDepth 100000
open Go.ChangeShapes Go.WideShapes Go.ChangeAt Go.RowKit
theorem stepCells_ext : ∀ (xs : List Stp) (cells : List Value), cells.length = xs.length * 2 → (∀ (i : Nat) (x : Stp), xs[i]? = some x → (cells.drop (i * 2)).take 2 = [num x.a, num x.b]) → cells = stepCells xs
  | [], cells, hl, _ => List.eq_nil_of_length_eq_zero (by simpa using hl)
  | x :: r, cells, hl, h => by
    have h0 := h 0 x rfl
    simp only [Nat.zero_mul, List.drop_zero] at h0
    have ih := stepCells_ext r (cells.drop 2) (by simp only [List.length_drop, List.length_cons] at *; omega) (fun i y hy => by
      rw [List.drop_drop, show 2 + i * 2 = (i + 1) * 2 by omega]
      exact h (i + 1) y (by simpa using hy))
    have e : cells = cells.take 2 ++ cells.drop 2 := (List.take_append_drop 2 cells).symm
    rw [e, h0, ih]
    rfl
theorem rows_steps {xs : List Stp} {v : Value} {h : PH} (r : RowsR 2 (fun (x : Stp) cs _ => cs = [num x.a, num x.b]) xs v h) : StepsR xs v h := by
  obtain ⟨cells, rr, hc⟩ := r
  rw [stepCells_ext xs cells rr.1 hc] at rr
  exact rr
section
variable {H : Type} {enc : TypeId × Value → H} {w : World} {base : Nat} {sp : Nat → Bool} {hd : Bool}
theorem rd_step {fuel : Nat} {cs : List Value} {x : DataW H × List MemPlace} (h : DataW.trod enc Try.prog w base sp hd fuel 143 cs = some x) : ∃ s : Stp, cs = [num s.a, num s.b] := by
  obtain ⟨hl, hf⟩ := rd_field Try.underlying143 h
  rw [cellsOf_ty ty_143] at hl
  obtain ⟨n0, y0, h0⟩ := hf 0 _ _ fd_143_0
  obtain ⟨n1, y1, h1⟩ := hf 1 _ _ fd_143_1
  rw [cellsOf_ty ty_3] at h0 h1
  obtain ⟨a, e0, _⟩ := rd_int Try.underlying3 h0
  obtain ⟨b, e1, _⟩ := rd_int Try.underlying3 h1
  match cs, hl with
  | [a', b'], _ =>
    simp at e0 e1
    subst e0 e1
    exact ⟨⟨a, b⟩, rfl⟩
theorem arg_steps {v : Value} {d : DataW H} {p : List MemPlace} {r : Reach} {b : Nat} (hv : Value.okWide Try.prog w r b 73 v) (h : DataW.Trod enc Try.prog w base sp hd 73 v d p) : ∃ ss, StepsR ss v (hp w) := by
  obtain ⟨a, len, cap, rfl⟩ := okWide_slice Try.underlying73 hv
  obtain ⟨f, hf⟩ := h
  obtain ⟨v', ss, e, hx⟩ := rd_rows (R := fun (x : Stp) cs _ => cs = [num x.a, num x.b]) Try.underlying73 (cellsOf_ty ty_143) (by decide) (fun h => rd_step h) hf
  simp [Value.cells] at e
  subst e
  exact ⟨ss, rows_steps hx⟩
end
end Go.Proofs.Ytikeobneipjfnaa
namespace Go.Proofs.Ytikeobneipjfnaa
set_option maxRecDepth 100000
open Go.RowKit
def pairsL : List Nat → List (Nat × Nat)
  | [] => []
  | a :: r => r.map (fun b => (a, b)) ++ pairsL r
theorem mem_pairs : ∀ {l : List Nat} {x : Nat × Nat}, x ∈ pairsL l → x.1 ∈ l ∧ x.2 ∈ l
  | [], _, h => by simp [pairsL] at h
  | a :: r, x, h => by
    rcases List.mem_append.1 h with h | h
    · obtain ⟨b, hb, rfl⟩ := List.mem_map.1 h
      exact ⟨by simp, by simp [hb]⟩
    · have := mem_pairs h
      exact ⟨by simp [this.1], by simp [this.2]⟩
theorem pairs_lt : ∀ {l : List Nat} (_ : l.Pairwise (· < ·)) {x : Nat × Nat}, x ∈ pairsL l → x.1 < x.2
  | [], _, _, h => by simp [pairsL] at h
  | a :: r, hp, x, h => by
    have hp' := List.pairwise_cons.1 hp
    rcases List.mem_append.1 h with h | h
    · obtain ⟨b, hb, rfl⟩ := List.mem_map.1 h
      exact hp'.1 b hb
    · exact pairs_lt hp'.2 h
theorem pairs_filter (p : Nat → Bool) : ∀ l : List Nat, pairsL (l.filter p) = (pairsL l).filter fun x => p x.1 && p x.2
  | [] => rfl
  | a :: r => by
    have ih := pairs_filter p r
    rw [pairsL, List.filter_append, ← ih]
    cases h : p a with
    | true =>
      rw [List.filter_cons_of_pos (by simp [h]), pairsL]
      congr 1
      rw [List.filter_map]
      congr 1
      apply List.filter_congr
      intro b _
      simp [h]
    | false =>
      rw [List.filter_cons_of_neg (by simp [h])]
      have : (r.map fun b => (a, b)).filter (fun x => p x.1 && p x.2) = [] := by
        rw [List.filter_eq_nil_iff]
        intro x hx
        obtain ⟨b, _, rfl⟩ := List.mem_map.1 hx
        simp [h]
      rw [this, List.nil_append]
theorem pairs_nil {l : List Nat} : pairsL l = [] ↔ l.length ≤ 1 := by
  match l with
  | [] => simp [pairsL]
  | [a] => simp [pairsL]
  | a :: b :: r => simp [pairsL]
/-- The pairs of the first i with all that stand behind them. -/
def pairsTo (l : List Nat) : Nat → List (Nat × Nat)
  | 0 => []
  | i + 1 => pairsTo l i ++ (l.drop (i + 1)).map fun b => (l.getD i 0, b)
theorem pairsTo_cons (a : Nat) (r : List Nat) : ∀ i, pairsTo (a :: r) (i + 1) = (r.map fun b => (a, b)) ++ pairsTo r i
  | 0 => by simp [pairsTo]
  | i + 1 => by
    have ih := pairsTo_cons a r i
    rw [pairsTo, ih, pairsTo, List.append_assoc]
    simp
theorem pairsTo_end : ∀ l : List Nat, pairsTo l l.length = pairsL l
  | [] => rfl
  | a :: r => by rw [List.length_cons, pairsTo_cons, pairsTo_end r]; rfl
def bestP {α : Type} (g : α → Int) (l : List α) : Option α := l.foldl (fun o x => match o with | none => some x | some y => if g x < g y then some x else some y) none
theorem bestP_snoc {α : Type} (g : α → Int) (l : List α) (x : α) : bestP g (l ++ [x]) = match bestP g l with | none => some x | some y => if g x < g y then some x else some y := by simp [bestP]
theorem ixs_sorted (s : Sh) : s.ixs.Pairwise (· < ·) := List.Pairwise.filter _ List.pairwise_lt_range
noncomputable def gainP (f : Int → Int) (op : List Int) (s : Sh) (x : Nat × Nat) : Int :=
  min (prodI ((s.res op x.1 x.2).map f)) 1000000000 - min (prodI ((s.lab x.1).map f)) 1000000000 - min (prodI ((s.lab x.2).map f)) 1000000000
noncomputable def pickP (f : Int → Int) (op : List Int) (s : Sh) : Nat × Nat := (bestP (gainP f op s) (pairsL s.ixs)).getD (0, 0)
theorem two_off : ∀ {l : List Nat} (_ : l.Nodup) {a b : Nat}, a ∈ l → b ∈ l → a ≠ b → (l.filter fun i => decide (i ≠ a ∧ i ≠ b)).length + 2 = l.length := by
  intro l hn a b ha hb hab
  have hp := List.perm_cons_erase ha
  have hb' : b ∈ l.erase a := (List.mem_erase_of_ne (Ne.symm hab)).2 hb
  have hp2 := List.perm_cons_erase hb'
  have hn2 : (l.erase a).Nodup := hn.erase a
  have e : l.filter (fun i => decide (i ≠ a ∧ i ≠ b)) = (l.erase a).erase b := by
    rw [List.Nodup.erase_eq_filter hn a, List.Nodup.erase_eq_filter (List.Pairwise.filter _ hn) b, List.filter_filter]
    apply List.filter_congr
    intro i _
    rw [Bool.eq_iff_iff]
    simp [and_comm]
  have h1 := hp.length_eq
  have h2 := hp2.length_eq
  simp only [List.length_cons] at h1 h2
  rw [e]
  omega
theorem step_count {op : List Int} {s : Sh} (h : s.ok) {a b : Nat} (ha : a ∈ s.ixs) (hb : b ∈ s.ixs) (hab : a ≠ b) : (s.step op a b).ixs.length + 1 = s.ixs.length := by
  have := two_off (ixs_nodup s) ha hb hab
  rw [step_ixs h, List.length_append, List.length_singleton]
  omega
theorem steps_count {op : List Int} {s : Sh} (h : s.fine) {ss : List Stp} (hok : okSteps op s ss) : ∀ i, i ≤ ss.length → (shTo op s (ss.take i)).ixs.length + i = s.ixs.length
  | 0, _ => by simp [shTo]
  | i + 1, hi => by
    have ih := steps_count h hok i (by omega)
    have hx : ss[i]? = some ss[i] := List.getElem?_eq_getElem (by omega)
    have hst := stepOk_at hok hx
    have h1 := live_ixs.1 hst.1
    have h2 := live_ixs.1 hst.2.1
    rw [shTo_step hx]
    have := step_count (op := op) (shTo_fine h (ss.take i)).1 h1.2 h2.2 (by have := hst.2.2; omega)
    omega
theorem few_steps {op : List Int} {ts : List Ten} (h : ∀ t ∈ ts, axesL t.l t.d) {ss : List Stp} (hok : okSteps op (sh0 ts) ss) : ss.length ≤ ts.length - 1 := by
  have h0 : (sh0 ts).ixs.length = ts.length := by rw [sh0_ixs]; simp
  by_cases e : ss.length = 0
  · omega
  · have hc := steps_count (sh0_fine h) hok (ss.length - 1) (by omega)
    have hx : ss[ss.length - 1]? = some ss[ss.length - 1] := List.getElem?_eq_getElem (by omega)
    have hst := stepOk_at hok hx
    have h1 := live_ixs.1 hst.1
    have h2 := live_ixs.1 hst.2.1
    have h3 := two_off (ixs_nodup (shTo op (sh0 ts) (ss.take (ss.length - 1)))) h1.2 h2.2 (by have := hst.2.2; omega)
    omega
noncomputable def greedyTo (f : Int → Int) (op : List Int) (s : Sh) : Nat → List Stp
  | 0 => []
  | k + 1 => greedyTo f op s k ++ [⟨(pickP f op (shTo op s (greedyTo f op s k))).1, (pickP f op (shTo op s (greedyTo f op s k))).2⟩]
theorem shTo_snoc (op : List Int) (s : Sh) (ss : List Stp) (x : Stp) : shTo op s (ss ++ [x]) = (shTo op s ss).step op x.a.toNat x.b.toNat := by simp [shTo]
def compP (k p n : Int) (ts : List Ten) (op : List Int) (ss : List Stp) : Prop := netL k p n ts op ∧ okSteps op (sh0 ts) ss
open Classical in
noncomputable def compB (k p n : Int) (ts : List Ten) (op : List Int) (ss : List Stp) : Bool := decide (compP k p n ts op ss)
noncomputable def compS (k p n : Int) (ts : List Ten) (op : List Int) (ss : List Stp) : List Stp :=
  @ite _ (compP k p n ts op ss) (Classical.propDecidable _) (ss ++ greedyTo (dimOf ts) op (shTo op (sh0 ts) ss) (ts.length - 1 - ss.length)) []
end Go.Proofs.Ytikeobneipjfnaa
namespace Go.Proofs.Ytikeobneipjfnaa
set_option maxRecDepth 100000
open Go.RowKit
def stpsOf (l : List (Nat × Nat)) : List Stp := l.map fun x => ⟨x.1, x.2⟩
def rowTo (N i j : Nat) : List (Nat × Nat) := pairsTo (List.range N) i ++ (List.range' (i + 1) (j - (i + 1))).map fun b => (i, b)
theorem rowTo_start (N i : Nat) : rowTo N i (i + 1) = pairsTo (List.range N) i := by simp [rowTo]
theorem rowTo_step {N i j : Nat} (h : i + 1 ≤ j) : rowTo N i (j + 1) = rowTo N i j ++ [(i, j)] := by
  rw [rowTo, show j + 1 - (i + 1) = (j - (i + 1)) + 1 by omega, List.range'_concat, List.map_append, ← List.append_assoc]
  rw [rowTo]
  simp
  omega
theorem rowTo_end {N i : Nat} (h : i < N) : rowTo N i N = pairsTo (List.range N) (i + 1) := by
  rw [pairsTo, rowTo]
  congr 1
  have e1 : (List.range N).drop (i + 1) = List.range' (i + 1) (N - (i + 1)) := by
    apply List.ext_getElem (by simp)
    intro j h1 h2
    simp
  have e2 : (List.range N).getD i 0 = i := by simp [List.getD, h]
  rw [e1, e2]
def liveP (s : Sh) (x : Nat × Nat) : Bool := !s.gone.getD x.1 false && !s.gone.getD x.2 false
theorem pairs_live (s : Sh) : (pairsTo (List.range s.all.length) s.all.length).filter (liveP s) = pairsL s.ixs := by
  have := pairsTo_end (List.range s.all.length)
  rw [List.length_range] at this
  rw [this, Sh.ixs, pairs_filter]
  rfl
theorem row_yes {s : Sh} {N i j : Nat} (h : i + 1 ≤ j) (h1 : s.gone.getD i false = false) (h2 : s.gone.getD j false = false) : stpsOf ((rowTo N i (j + 1)).filter (liveP s)) = stpsOf ((rowTo N i j).filter (liveP s)) ++ [⟨i, j⟩] := by
  rw [rowTo_step h, List.filter_append, List.filter_cons_of_pos (by simp only [liveP, h1, h2]; rfl)]
  simp [stpsOf]
theorem row_no {s : Sh} {N i j : Nat} (h : i + 1 ≤ j) (h1 : ¬ (s.gone.getD i false = false ∧ s.gone.getD j false = false)) : stpsOf ((rowTo N i (j + 1)).filter (liveP s)) = stpsOf ((rowTo N i j).filter (liveP s)) := by
  have : ([(i, j)] : List (Nat × Nat)).filter (liveP s) = [] := by
    rw [List.filter_eq_nil_iff]
    intro x hx
    simp at hx; subst hx
    simp only [liveP]
    revert h1
    cases s.gone.getD i false <;> cases s.gone.getD j false <;> simp
  rw [rowTo_step h, List.filter_append, this, List.append_nil]
theorem stps_len (l : List (Nat × Nat)) : (stpsOf l).length = l.length := List.length_map _
theorem row_few (s : Sh) (N i j : Nat) (hi : i ≤ N) (hj : j ≤ N) (hn : N ≤ 1000) : (stpsOf ((rowTo N i j).filter (liveP s))).length ≤ 1001000 := by
  have hp : ∀ i, i ≤ N → (pairsTo (List.range N) i).length ≤ i * N := by
    intro i
    induction i with
    | zero => intro _; simp [pairsTo]
    | succ i ih =>
      intro hi
      have := ih (by omega)
      rw [pairsTo, List.length_append, List.length_map, List.length_drop, List.length_range, Nat.succ_mul]
      omega
  have h1 := List.length_filter_le (liveP s) (rowTo N i j)
  have h2 := hp i hi
  have h3 : i * N ≤ 1000 * 1000 := Nat.mul_le_mul (by omega) hn
  rw [stps_len]
  have h4 : (rowTo N i j).length ≤ i * N + N := by
    rw [rowTo, List.length_append, List.length_map, List.length_range']
    omega
  omega
set_option maxHeartbeats 1000000 in
theorem ct_s_l19Pairs (f : Int → Int) (sh : Sh) (va vg : Value) (bb : Nat) (w : World) (r : SpR f sh va vg bb (hp w)) (hall : sh.all.length ≤ 1000) :
    Calls Try.prog 145 [.pointer (some ⟨bb, 0, none⟩)].toArray w (Ret w emp (StepsO (stpsOf (pairsL sh.ixs)))) := by
  have ra := r.all
  have rg := r.gone
  have hln := shTens_len f sh
  have hgl : sh.gone.length = sh.all.length := r.ok
  refine calls_in Try.func145 rfl Try.ntmps145 rfl (Sat.start w) ?_
  have hle0 := ra.le
  obtain ⟨cs_ra, rr_ra, hc_ra⟩ := ra.at
  have hle1 := rg.le
  refine wp_sc ?_
  refine wp_sq ?_
  refine sq_v rfl (v_assign rfl) rfl ?_
  refine sq_end ?_
  refine qs_n ?_
  refine wp_sc ?_
  refine wp_sq ?_
  refine sq_x rfl (x_build0 Try.underlying43 ty_114) rfl ?_; intro v6 h6 r6
  refine sq_v rfl (v_assign rfl) rfl ?_
  refine sq_end ?_
  refine qs_n ?_
  refine wp_sc ?_
  refine wp_sc ?_
  refine wp_sq ?_
  refine sq_v rfl (v_move rfl) rfl ?_
  refine sq_v rfl (v_nilCheck rfl) rfl ?_
  refine sq_v rfl (v_fieldAddr fd_189_0 ty_46 (by decide) rfl) rfl ?_
  refine sq_v rfl (v_load 1 ty_46 rfl rfl r.c0) rfl ?_
  refine sq_v rfl (v_len Try.underlying46 rfl ra.sl) rfl ?_
  refine sq_v rfl (v_move rfl) rfl ?_
  refine sq_end ?_
  refine qs_n ?_
  refine wp_bl ?_
  refine wp_lp (σ := Nat × Value × PH) (fun z_ => [(0, .pointer (some ⟨bb, 0, none⟩)), (2, .slice none 0 0), (3, z_.2.1), (11, num (shTens f sh).length), (12, num z_.1)]) (fun z_ => [z_.2.2, hp w]) (fun z_ => z_.1 ≤ sh.all.length ∧ StepsO (stpsOf ((pairsTo (List.range sh.all.length) z_.1).filter (liveP sh))) z_.2.1 z_.2.2) (fun z_ => sh.all.length - z_.1) (0, v6, h6) (⟨by (try dsimp only); omega, r6⟩) ⟨rfl, rfl, (by first | rfl | exact ksub rfl (by first | omega | (simp; done) | (simp; omega))), rfl, (by first | rfl | exact ksub rfl (by first | omega | (simp; done) | (simp; omega))), trivial⟩ (fun _ s => s) ?_
  rintro ⟨i, ov, oh⟩ ⟨hi, q⟩
  dsimp only at hi q ⊢
  obtain ⟨cs_q, rr_q, hc_q⟩ := q.toR.at
  have hle_q := q.toR.le
  refine wp_sc ?_
  refine wp_sq ?_
  refine sq_v rfl (v_lss rfl rfl) rfl ?_
  refine sq_end ?_
  refine qs_n ?_
  refine wp_sc ?_
  refine wp_cd rfl (fun c13 => ?_) (fun c13 => ?_)
  · refine wp_sk ?_
    refine qs_n ?_
    refine wp_sc ?_
    refine wp_bl ?_
    refine wp_sc ?_
    refine wp_sq ?_
    refine sq_v rfl (v_move rfl) rfl ?_
    refine sq_v rfl (v_assign rfl) rfl ?_
    refine sq_end ?_
    refine qs_n ?_
    refine wp_sc ?_
    refine wp_sq ?_
    refine sq_v rfl (v_move rfl) rfl ?_
    refine sq_v rfl (v_add rfl rfl ((by unfold I64; omega))) rfl ?_
    refine sq_v rfl (v_assign rfl) rfl ?_
    refine sq_end ?_
    refine qs_n ?_
    refine wp_bl ?_
    refine wp_lp (σ := Nat × Value × PH) (fun z_ => [(0, .pointer (some ⟨bb, 0, none⟩)), (2, .slice none 0 0), (3, z_.2.1), (4, num i), (5, num z_.1), (11, num (shTens f sh).length), (12, num i), (13, .bool (decide ((i : Int) < (shTens f sh).length))), (14, num i), (15, num i), (16, num (i + 1))]) (fun z_ => [z_.2.2, hp w]) (fun z_ => (i + 1 ≤ z_.1 ∧ z_.1 ≤ sh.all.length) ∧ StepsO (stpsOf ((rowTo sh.all.length i z_.1).filter (liveP sh))) z_.2.1 z_.2.2) (fun z_ => sh.all.length - z_.1) (i + 1, ov, oh) (⟨by (try dsimp only); omega, by (try dsimp only); rw [rowTo_start]; exact q⟩) ⟨rfl, rfl, (by first | rfl | exact ksub rfl (by first | omega | (simp; done) | (simp; omega))), rfl, (by first | rfl | exact ksub rfl (by first | omega | (simp; done) | (simp; omega))), rfl, rfl, rfl, rfl, rfl, rfl, trivial⟩ (fun _ s => s) ?_
    rintro ⟨j, ov2, oh2⟩ ⟨hj, q2⟩
    dsimp only at hj q2 ⊢
    obtain ⟨cs_q2, rr_q2, hc_q2⟩ := q2.toR.at
    have hle_q2 := q2.toR.le
    have hrf := row_few sh sh.all.length i j hi hj.2 hall
    refine wp_sc ?_
    refine wp_sc ?_
    refine wp_sq ?_
    refine sq_v rfl (v_move rfl) rfl ?_
    refine sq_v rfl (v_move rfl) rfl ?_
    refine sq_v rfl (v_nilCheck rfl) rfl ?_
    refine sq_v rfl (v_fieldAddr fd_189_0 ty_46 (by decide) rfl) rfl ?_
    refine sq_v rfl (v_load 1 ty_46 rfl rfl r.c0) rfl ?_
    refine sq_v rfl (v_len Try.underlying46 rfl ra.sl) rfl ?_
    refine sq_v rfl (v_lss rfl rfl) rfl ?_
    refine sq_end ?_
    refine qs_n ?_
    refine wp_cd rfl (fun c23 => ?_) (fun c23 => ?_)
    · refine wp_sk ?_
      refine qs_n ?_
      refine wp_sc ?_
      refine wp_bl ?_
      refine wp_sc ?_
      refine wp_sq ?_
      refine sq_v rfl (v_move rfl) rfl ?_
      refine sq_v rfl (v_nilCheck rfl) rfl ?_
      refine sq_v rfl (v_fieldAddr fd_189_1 ty_128 (by decide) rfl) rfl ?_
      refine sq_v rfl (v_load 1 ty_128 rfl rfl r.c1) rfl ?_
      refine sq_v rfl (v_move rfl) rfl ?_
      refine sq_v rfl (v_idxB Try.underlying128 ty_4 rfl rfl rg (by first | omega | (simp only [List.length_cons, List.length_nil]; omega) | (simp only [List.length_append, List.length_cons, List.length_nil]; omega) | (rw [List.length_set]; omega) | (rw [List.length_replicate]; omega) | (simp; omega)) (by first | omega | (simp only [List.length_cons, List.length_nil]; omega) | (simp only [List.length_append, List.length_cons, List.length_nil]; omega) | (rw [List.length_set]; omega) | (rw [List.length_replicate]; omega) | (simp; omega))) rfl ?_
      refine sq_v rfl (v_loadBl (k := i) 1 ty_4 rfl rfl rg (by first | omega | (simp only [List.length_cons, List.length_nil]; omega) | (simp only [List.length_append, List.length_cons, List.length_nil]; omega) | (rw [List.length_set]; omega) | (rw [List.length_replicate]; omega) | (simp; omega))) rfl ?_
      refine sq_bb 32 rfl (fun c32 => ?_) (fun c32 => ?_)
      · refine sq_v rfl (v_not rfl) rfl ?_
        refine sq_v rfl (v_move rfl) rfl ?_
        refine sq_s rfl rfl ?_
        refine sq_s rfl rfl ?_
        refine sq_s rfl rfl ?_
        refine sq_s rfl rfl ?_
        refine sq_s rfl rfl ?_
        refine sq_s rfl rfl ?_
        refine sq_s rfl rfl ?_
        refine sq_s rfl rfl ?_
        refine sq_v rfl (v_pickf rfl rfl) rfl ?_
        refine sq_end ?_
        refine qs_n ?_
        refine wp_cf rfl ?_
        refine wp_sk ?_
        refine qs_bn ?_
        refine qs_n ?_
        refine wp_sq ?_
        refine sq_v rfl (v_move rfl) rfl ?_
        refine sq_v rfl (v_add rfl rfl ((by unfold I64; omega))) rfl ?_
        refine sq_v rfl (v_assign rfl) rfl ?_
        refine sq_end ?_
        exact qs_bk (j + 1, ov2, oh2) ⟨by (try dsimp only); omega, by (try dsimp only); rw [row_no hj.1 (fun h => by rw [c32] at h; exact absurd h.1 (by decide))]; exact q2⟩ (by simp only; omega) ⟨rfl, rfl, (by first | rfl | exact ksub rfl (by first | omega | (simp; done) | (simp; omega))), rfl, (by first | rfl | exact ksub rfl (by first | omega | (simp; done) | (simp; omega))), rfl, rfl, rfl, rfl, rfl, rfl, trivial⟩ (fun _ s => s)
      · refine sq_v rfl (v_not rfl) rfl ?_
        refine sq_v rfl (v_move rfl) rfl ?_
        refine sq_v rfl (v_move rfl) rfl ?_
        refine sq_v rfl (v_nilCheck rfl) rfl ?_
        refine sq_v rfl (v_fieldAddr fd_189_1 ty_128 (by decide) rfl) rfl ?_
        refine sq_v rfl (v_load 1 ty_128 rfl rfl r.c1) rfl ?_
        refine sq_v rfl (v_move rfl) rfl ?_
        refine sq_v rfl (v_idxB Try.underlying128 ty_4 rfl rfl rg (by first | omega | (simp only [List.length_cons, List.length_nil]; omega) | (simp only [List.length_append, List.length_cons, List.length_nil]; omega) | (rw [List.length_set]; omega) | (rw [List.length_replicate]; omega) | (simp; omega)) (by first | omega | (simp only [List.length_cons, List.length_nil]; omega) | (simp only [List.length_append, List.length_cons, List.length_nil]; omega) | (rw [List.length_set]; omega) | (rw [List.length_replicate]; omega) | (simp; omega))) rfl ?_
        refine sq_v rfl (v_loadBl (k := j) 1 ty_4 rfl rfl rg (by first | omega | (simp only [List.length_cons, List.length_nil]; omega) | (simp only [List.length_append, List.length_cons, List.length_nil]; omega) | (rw [List.length_set]; omega) | (rw [List.length_replicate]; omega) | (simp; omega))) rfl ?_
        refine sq_v rfl (v_not rfl) rfl ?_
        refine sq_v rfl (v_pickt rfl rfl) rfl ?_
        refine sq_end ?_
        refine qs_n ?_
        refine wp_cn _ rfl (fun c43 => ?_) (fun c43 => ?_)
        · refine wp_sq ?_
          refine sq_v rfl (v_move rfl) rfl ?_
          refine sq_v rfl (v_move rfl) rfl ?_
          refine sq_v rfl (v_move rfl) rfl ?_
          refine sq_v rfl (v_build [num i, num j] rfl (by kernel_rfl)) rfl ?_
          refine sq_x rfl (x_buildS [.agg [num i, num j].toArray] Try.underlying43 ty_114 (by decide) rfl rfl rfl (by decide) (by decide) (by intro v hv; simp at hv; subst hv; rfl)) rfl ?_; intro v48 h48 (r48 : RowO 114 [num i, num j] 1 2 v48 h48)
          refine sq_m 1 rfl rfl (m_appS (ss := (stpsOf ((rowTo sh.all.length i j).filter (liveP sh)))) (us := ([⟨(i), (j)⟩] : List Stp)) 1 0 Try.underlying43 ty_114 rfl rfl rfl rfl q2 rfl r48.toR (by first | omega | (simp only [List.length_cons, List.length_nil]; omega) | (simp only [List.length_append, List.length_cons, List.length_nil]; omega) | (rw [List.length_set]; omega) | (rw [List.length_replicate]; omega) | (simp; omega))) rfl ?_; intro v49 h_r49 r49
          obtain ⟨cs_S_49, rr_S_49, hc_S_49⟩ := r49.toR.at
          refine sq_v rfl (v_assign rfl) rfl ?_
          refine sq_end ?_
          refine qs_bn ?_
          refine qs_n ?_
          refine wp_sq ?_
          refine sq_v rfl (v_move rfl) rfl ?_
          refine sq_v rfl (v_add rfl rfl ((by unfold I64; omega))) rfl ?_
          refine sq_v rfl (v_assign rfl) rfl ?_
          refine sq_end ?_
          exact qs_bk (j + 1, v49, h_r49) ⟨by (try dsimp only); omega, by (try dsimp only); rw [row_yes hj.1 c32 c43]; exact r49⟩ (by simp only; omega) ⟨rfl, rfl, (by first | rfl | exact ksub rfl (by first | omega | (simp; done) | (simp; omega))), rfl, (by first | rfl | exact ksub rfl (by first | omega | (simp; done) | (simp; omega))), rfl, rfl, rfl, rfl, rfl, rfl, trivial⟩ (fun _ s => s.pick [1, 2] (by decide) rfl)
        · refine wp_sk ?_
          refine qs_bn ?_
          refine qs_n ?_
          refine wp_sq ?_
          refine sq_v rfl (v_move rfl) rfl ?_
          refine sq_v rfl (v_add rfl rfl ((by unfold I64; omega))) rfl ?_
          refine sq_v rfl (v_assign rfl) rfl ?_
          refine sq_end ?_
          exact qs_bk (j + 1, ov2, oh2) ⟨by (try dsimp only); omega, by (try dsimp only); rw [row_no hj.1 (fun h => by rw [c43] at h; exact absurd h.2 (by decide))]; exact q2⟩ (by simp only; omega) ⟨rfl, rfl, (by first | rfl | exact ksub rfl (by first | omega | (simp; done) | (simp; omega))), rfl, (by first | rfl | exact ksub rfl (by first | omega | (simp; done) | (simp; omega))), rfl, rfl, rfl, rfl, rfl, rfl, trivial⟩ (fun _ s => s)
    · refine wp_ex ?_
      refine qs_x ?_
      refine qs_x ?_
      refine qs_bx ?_
      refine qs_bn ?_
      refine qs_n ?_
      refine wp_sq ?_
      refine sq_v rfl (v_add rfl rfl ((by unfold I64; omega))) rfl ?_
      refine sq_v rfl (v_move rfl) rfl ?_
      refine sq_end ?_
      exact qs_bk (i + 1, ov2, oh2) ⟨by (try dsimp only); omega, by (try dsimp only); rw [← rowTo_end (by omega)]; rw [show rowTo sh.all.length i sh.all.length = rowTo sh.all.length i j by rw [show sh.all.length = j by omega]]; exact q2⟩ (by simp only; omega) ⟨rfl, rfl, (by first | rfl | exact ksub rfl (by first | omega | (simp; done) | (simp; omega))), rfl, (by first | rfl | exact ksub rfl (by first | omega | (simp; done) | (simp; omega))), trivial⟩ (fun _ s => s)
  · refine wp_ex ?_
    refine qs_x ?_
    refine qs_x ?_
    refine qs_bx ?_
    refine qs_n ?_
    refine wp_sc ?_
    refine wp_sq ?_
    refine sq_v rfl (v_move rfl) rfl ?_
    refine sq_v rfl (v_assign rfl) rfl ?_
    refine sq_end ?_
    refine qs_n ?_
    refine wp_rt ?_
    exact qs_ret1 rfl rfl (fin_t 0 (i := 1) rfl rfl rfl (by rw [← pairs_live]; rw [show pairsTo (List.range sh.all.length) sh.all.length = pairsTo (List.range sh.all.length) i by rw [show sh.all.length = i by omega]]; exact q))
theorem SpR.mono {f : Int → Int} {s : Sh} {va vg : Value} {b : Nat} {h h' : PH} (r : SpR f s va vg b h) (l : PLe h h') : SpR f s va vg b h' := ⟨r.ok, cellP.mono l r.c0, cellP.mono l r.c1, r.all.mono l, r.gone.mono l⟩
end Go.Proofs.Ytikeobneipjfnaa
namespace Go.Proofs.Ytikeobneipjfnaa
set_option maxRecDepth 100000
open Go.RowKit
/-- What can be read of a state in its own part. -/
theorem SpO.own {f : Int → Int} {s : Sh} {bb : Nat} {h q : PH} (r : SpO f s bb h q) : ∃ va vg cs, cellP h bb 0 = some va ∧ cellP h bb 1 = some vg ∧ RowR cs s.all.length 3 va h ∧ BoolsR s.gone vg h := by
  obtain ⟨hok, va, vg, ha, hg, hs, cs, ra, rg, rt, md⟩ := r
  have hb := md.le (box bb [va, vg] 189) (by simp)
  exact ⟨va, vg, cs, cellP.mono hb (by rw [cellP_box]; rfl), cellP.mono hb (by rw [cellP_box]; rfl), ra.toR.mono (md.le ha (by simp)), rg.toR.mono (md.le hg (by simp))⟩
def StartR (k p n : Int) (ts : List Ten) (op : List Int) (ss : List Stp) (q : PH) (u : Value) (h : PH) : Prop :=
  ∃ pv b, u = .tuple [pv, .bool b].toArray ∧ (b = true ↔ compP k p n ts op ss) ∧ (b = true → ∃ bb, pv = ptrV bb ∧ SpO (dimOf ts) (shTo op (sh0 ts) ss) bb h q)
theorem StartR.no {k p n : Int} {ts : List Ten} {op : List Int} {ss : List Stp} {q h : PH} {pv : Value} (hn : ¬ compP k p n ts op ss) : StartR k p n ts op ss q (.tuple [pv, .bool false].toArray) h :=
  ⟨pv, false, rfl, ⟨fun e => (by cases e), fun e => absurd e hn⟩, fun e => (by cases e)⟩
theorem okSteps_next {op : List Int} {s : Sh} {ss : List Stp} {i : Nat} {x : Stp} (h : okSteps op s (ss.take i)) (hx : ss[i]? = some x) (hs : stepOk (shTo op s (ss.take i)) x) : okSteps op s (ss.take (i + 1)) := fun j hj y hy => by
  have hi := (List.getElem?_eq_some_iff.1 hx).1
  have hj' : j < i + 1 := by simp at hj; omega
  rw [List.getElem?_take, if_pos hj'] at hy
  rw [List.take_take, Nat.min_eq_left (by omega)]
  by_cases e : j = i
  · subst e; rw [hx] at hy; cases hy; exact hs
  · have := h j (by simp; omega) y (by rw [List.getElem?_take, if_pos (by omega)]; exact hy)
    rwa [List.take_take, Nat.min_eq_left (by omega)] at this
set_option maxHeartbeats 2000000 in
theorem ct_s_l23Start (k p n : Int) (ts : List Ten) (op : List Int) (ss : List Stp) (vt vo v : Value) (w : World) (q : PH) (lq : PLe q (hp w)) (r : TensR ts vt q) (r' : IntsR op vo (hp w)) (rv : StepsR ss v (hp w)) (hop : op.length ≤ 1048576) (hss : ss.length ≤ 1048576) :
    Calls Try.prog 144 [netV k p n vt vo, v].toArray w (Ret w emp (StartR k p n ts op ss q)) := by
  have rn := r.mono lq
  refine calls_in Try.func144 rfl Try.ntmps144 rfl (Sat.start w) ?_
  have hle0 := r'.le
  have hle1 := rv.le
  obtain ⟨cs_rv, rr_rv, hc_rv⟩ := rv.at
  have hle2 := rn.le
  obtain ⟨cs_rn, rr_rn, hc_rn⟩ := rn.at
  refine wp_sc ?_
  refine wp_sq ?_
  refine sq_x rfl (x_box rfl rfl) rfl ?_; rintro _ _ ⟨b2, rfl, rfl⟩
  refine sq_v rfl (v_assign rfl) rfl ?_
  refine sq_v rfl (v_assign rfl) rfl ?_
  refine sq_end ?_
  refine qs_n ?_
  refine wp_sc ?_
  refine wp_sc ?_
  refine wp_sq ?_
  refine sq_v rfl (v_loadNB 0 ty_48 rfl rfl rfl rfl) rfl ?_
  refine sq_u rfl (x_callv rfl en_86 (fun w s => ct_s_NetworkOk _ _ _ _ _ _ _ w (rn.mono (s.get 1 rfl)) (r'.mono (s.get 1 rfl)) (by first | assumption | omega))) rfl ?_
  refine sq_bb 10 rfl (fun c10 => ?_) (fun c10 => ?_)
  · refine sq_v rfl (v_not rfl) rfl ?_
    refine sq_v rfl (v_move rfl) rfl ?_
    refine sq_v rfl (v_move rfl) rfl ?_
    refine sq_v rfl (v_len Try.underlying43 rfl rv.sl) rfl ?_
    refine sq_v rfl (v_fieldAddr fd_48_1 ty_46 (by decide) rfl) rfl ?_
    refine sq_v rfl (v_loadB 0 ty_46 rfl rfl rfl) rfl ?_
    refine sq_v rfl (v_len Try.underlying46 rfl rn.sl) rfl ?_
    refine sq_v rfl (v_sub rfl rfl ((by unfold I64; omega))) rfl ?_
    refine sq_v rfl (v_max rfl rfl) rfl ?_
    refine sq_v rfl (v_gtr rfl rfl) rfl ?_
    refine sq_v rfl (v_pickf rfl rfl) rfl ?_
    refine sq_end ?_
    refine qs_n ?_
    refine wp_cd rfl (fun c21 => ?_) (fun c21 => ?_)
    · refine wp_sc ?_
      refine wp_sq ?_
      refine sq_v rfl (v_assign rfl) rfl ?_
      refine sq_v rfl (v_assign rfl) rfl ?_
      refine sq_end ?_
      refine qs_n ?_
      refine wp_rt ?_
      refine qs_r ?_
      exact qs_ret2 rfl rfl rfl (fin_e (i := 1) rfl (StartR.no (fun h => by first | exact netB_false.1 c10 h.1 | (have := few_steps (net_axes h.1) h.2; omega))))
    · refine wp_sk ?_
      refine qs_n ?_
      refine wp_sc ?_
      refine wp_sq ?_
      refine sq_v rfl (v_loadNB 0 ty_48 rfl rfl rfl rfl) rfl ?_
      have hnet := netB_true.1 c10; have h12 := hnet.2.1; have hfi := sh0_fine (net_axes hnet); have hfit := net_fit hnet
      refine sq_x rfl (x_call rfl en_197 (fun w s => ct_s_l17New (dimOf ts) _ _ _ _ _ _ w q (lq.trans (s.get 1 rfl)) r (net_dmap hnet) (by first | assumption | omega))) rfl ?_; rintro _ h23 ⟨bb, rfl, rsp⟩
      refine sq_v rfl (v_assign rfl) rfl ?_
      refine sq_end ?_
      refine qs_n ?_
      refine wp_sc ?_
      refine wp_sc ?_
      refine wp_sq ?_
      refine sq_v rfl (v_move rfl) rfl ?_
      refine sq_v rfl (v_len Try.underlying43 rfl rv.sl) rfl ?_
      refine sq_v rfl (v_move rfl) rfl ?_
      refine sq_end ?_
      refine qs_n ?_
      refine wp_bl ?_
      refine wp_lp (σ := Nat × PH) (fun z_ => [(2, .pointer (some ⟨b2, 0, none⟩)), (4, .pointer none), (5, .bool false), (6, ptrV bb), (24, v), (25, num ss.length), (26, num z_.1)]) (fun z_ => [z_.2, box b2 [num k, num p, num n, vt, vo] 48, hp w]) (fun z_ => z_.1 ≤ ss.length ∧ okSteps op (sh0 ts) (ss.take z_.1) ∧ SpO (dimOf ts) (shTo op (sh0 ts) (ss.take z_.1)) bb z_.2 q) (fun z_ => ss.length - z_.1) (0, h23) (⟨by (try dsimp only); omega, fun j hj => by simp at hj, by (try dsimp only); simpa [shTo] using rsp⟩) ⟨rfl, rfl, rfl, rfl, rfl, rfl, (by first | rfl | exact ksub rfl (by first | omega | (simp; done) | (simp; omega))), trivial⟩ (fun _ s => s) ?_
      rintro ⟨i, g⟩ ⟨hi, hok, hsp⟩
      dsimp only at hi hok hsp ⊢
      have hfs := shTo_fine (op := op) hfi (ss.take i)
      have hft := fit_to (op := op) hfit (ss.take i)
      have hal := shTo_all (op := op) (s := sh0 ts) (ss := ss.take i)
      rw [show (sh0 ts).all.length = ts.length by simp [sh0], List.length_take] at hal
      obtain ⟨va, vg, cs, hc0, hc1, hra, hrg⟩ := hsp.own
      have hgl : (shTo op (sh0 ts) (ss.take i)).gone.length = (shTo op (sh0 ts) (ss.take i)).all.length := hfs.1
      refine wp_sc ?_
      refine wp_sq ?_
      refine sq_v rfl (v_lss rfl rfl) rfl ?_
      refine sq_end ?_
      refine qs_n ?_
      refine wp_sc ?_
      refine wp_cd rfl (fun c27 => ?_) (fun c27 => ?_)
      · refine wp_sk ?_
        refine qs_n ?_
        refine wp_sc ?_
        refine wp_bl ?_
        refine wp_sc ?_
        refine wp_sq ?_
        obtain ⟨x28, hx28, hcs28⟩ := hc_rv (i) (by first | omega | (rw [List.length_set]; omega))
        refine sq_v rfl (v_indexAddr Try.underlying43 ty_114 rfl rfl rr_rv (by decide) (by omega) (by first | omega | (rw [List.length_set]; omega))) rfl ?_
        refine sq_v rfl (v_loadNE 2 ty_114 rfl rfl rr_rv (by have := rr_rv.1; omega) rfl hcs28) rfl ?_
        refine sq_x rfl (x_alloc ty_114 rfl) rfl ?_; rintro _ _ ⟨b8, rfl, rfl⟩
        refine sq_m 0 rfl rfl (m_store 0 ty_114 rfl rfl rfl rfl (by simp [Value.oneCell']) rfl (Nat.le_of_ble_eq_true rfl)) rfl ?_; rintro _ _ ⟨rfl, rfl⟩
        refine sq_end ?_
        refine qs_n ?_
        refine wp_sc ?_
        refine wp_sc ?_
        refine wp_rj 40 [(0, true), (1, true), (2, true), (3, true), (4, true), (5, true), (6, true), (7, true), (8, true), (9, true), (10, true), (11, true), (12, true), (13, true), (14, true), (15, true), (16, true), (17, true), (18, true), (19, true), (20, true), (21, true), (22, true), (23, true), (24, true), (25, true), (26, true), (27, true), (28, true), (29, true), (30, true), (31, true), (32, true), (33, true), (34, true), (35, true), (36, true), (37, true), (38, true), (39, true)] mixed_ok (by kernel_rfl) ?_
        refine rj_v rfl rfl (v_fieldAddr fd_114_0 ty_3 (by decide) rfl) rfl ?_
        refine rj_v rfl rfl (v_loadB 0 ty_3 rfl rfl rfl) rfl ?_
        refine rj_v rfl rfl (v_lss rfl rfl) rfl ?_
        refine rj_bd 32 rfl (fun c32 => ?_) (fun c32 => ?_)
        · refine rj_v rfl rfl (v_move rfl) rfl ?_
          refine rj_s rfl rfl rfl ?_
          refine rj_s rfl rfl rfl ?_
          refine rj_s rfl rfl rfl ?_
          refine rj_s rfl rfl rfl ?_
          refine rj_s rfl rfl rfl ?_
          refine rj_v rfl rfl (v_pickt rfl rfl) rfl ?_
          refine rj_v rfl rfl (v_move rfl) rfl ?_
          refine rj_s rfl rfl rfl ?_
          refine rj_s rfl rfl rfl ?_
          refine rj_s rfl rfl rfl ?_
          refine rj_s rfl rfl rfl ?_
          refine rj_s rfl rfl rfl ?_
          refine rj_s rfl rfl rfl ?_
          refine rj_s rfl rfl rfl ?_
          refine rj_s rfl rfl rfl ?_
          refine rj_v rfl rfl (v_pickt rfl rfl) rfl ?_
          refine rj_v rfl rfl (v_move rfl) rfl ?_
          refine rj_s rfl rfl rfl ?_
          refine rj_s rfl rfl rfl ?_
          refine rj_s rfl rfl rfl ?_
          refine rj_s rfl rfl rfl ?_
          refine rj_s rfl rfl rfl ?_
          refine rj_s rfl rfl rfl ?_
          refine rj_s rfl rfl rfl ?_
          refine rj_s rfl rfl rfl ?_
          refine rj_v rfl rfl (v_pickt rfl rfl) rfl ?_
          refine rj_v rfl rfl (v_move rfl) rfl ?_
          refine rj_s rfl rfl rfl ?_
          refine rj_s rfl rfl rfl ?_
          refine rj_s rfl rfl rfl ?_
          refine rj_s rfl rfl rfl ?_
          refine rj_s rfl rfl rfl ?_
          refine rj_s rfl rfl rfl ?_
          refine rj_s rfl rfl rfl ?_
          refine rj_s rfl rfl rfl ?_
          refine rj_v rfl rfl (v_pickt rfl rfl) rfl ?_
          refine rj_end ?_
          refine qs_n ?_
          refine wp_ct rfl ?_
          refine wp_sc ?_
          refine wp_sq ?_
          refine sq_v rfl (v_assign rfl) rfl ?_
          refine sq_v rfl (v_assign rfl) rfl ?_
          refine sq_end ?_
          refine qs_n ?_
          refine wp_rt ?_
          refine qs_r ?_
          refine qs_br ?_
          refine qs_r ?_
          refine qs_r ?_
          refine qs_br ?_
          refine qs_r ?_
          exact qs_ret2 rfl rfl rfl (fin_e (i := 3) rfl (StartR.no (fun h => by have hst := stepOk_at h.2 hx28; obtain ⟨⟨a1, a2, a3⟩, ⟨b1, b2, b3⟩, hab⟩ := hst; first | omega | (rw [a3] at c59; exact absurd c59 (by decide)) | (rw [b3] at c69; exact absurd c69 (by decide)))))
        · refine rj_v rfl rfl (v_move rfl) rfl ?_
          refine rj_v rfl rfl (v_fieldAddr fd_114_0 ty_3 (by decide) rfl) rfl ?_
          refine rj_v rfl rfl (v_loadB 0 ty_3 rfl rfl rfl) rfl ?_
          refine rj_v rfl rfl (v_fieldAddr fd_114_1 ty_3 (by decide) rfl) rfl ?_
          refine rj_v rfl rfl (v_loadB 0 ty_3 rfl rfl rfl) rfl ?_
          refine rj_v rfl rfl (v_geq rfl rfl) rfl ?_
          refine rj_v rfl rfl (v_pickf rfl rfl) rfl ?_
          refine rj_bd 39 rfl (fun c39 => ?_) (fun c39 => ?_)
          · refine rj_v rfl rfl (v_move rfl) rfl ?_
            refine rj_s rfl rfl rfl ?_
            refine rj_s rfl rfl rfl ?_
            refine rj_s rfl rfl rfl ?_
            refine rj_s rfl rfl rfl ?_
            refine rj_s rfl rfl rfl ?_
            refine rj_s rfl rfl rfl ?_
            refine rj_s rfl rfl rfl ?_
            refine rj_s rfl rfl rfl ?_
            refine rj_v rfl rfl (v_pickt rfl rfl) rfl ?_
            refine rj_v rfl rfl (v_move rfl) rfl ?_
            refine rj_s rfl rfl rfl ?_
            refine rj_s rfl rfl rfl ?_
            refine rj_s rfl rfl rfl ?_
            refine rj_s rfl rfl rfl ?_
            refine rj_s rfl rfl rfl ?_
            refine rj_s rfl rfl rfl ?_
            refine rj_s rfl rfl rfl ?_
            refine rj_s rfl rfl rfl ?_
            refine rj_v rfl rfl (v_pickt rfl rfl) rfl ?_
            refine rj_v rfl rfl (v_move rfl) rfl ?_
            refine rj_s rfl rfl rfl ?_
            refine rj_s rfl rfl rfl ?_
            refine rj_s rfl rfl rfl ?_
            refine rj_s rfl rfl rfl ?_
            refine rj_s rfl rfl rfl ?_
            refine rj_s rfl rfl rfl ?_
            refine rj_s rfl rfl rfl ?_
            refine rj_s rfl rfl rfl ?_
            refine rj_v rfl rfl (v_pickt rfl rfl) rfl ?_
            refine rj_end ?_
            refine qs_n ?_
            refine wp_ct rfl ?_
            refine wp_sc ?_
            refine wp_sq ?_
            refine sq_v rfl (v_assign rfl) rfl ?_
            refine sq_v rfl (v_assign rfl) rfl ?_
            refine sq_end ?_
            refine qs_n ?_
            refine wp_rt ?_
            refine qs_r ?_
            refine qs_br ?_
            refine qs_r ?_
            refine qs_r ?_
            refine qs_br ?_
            refine qs_r ?_
            exact qs_ret2 rfl rfl rfl (fin_e (i := 3) rfl (StartR.no (fun h => by have hst := stepOk_at h.2 hx28; obtain ⟨⟨a1, a2, a3⟩, ⟨b1, b2, b3⟩, hab⟩ := hst; first | omega | (rw [a3] at c59; exact absurd c59 (by decide)) | (rw [b3] at c69; exact absurd c69 (by decide)))))
          · refine rj_v rfl rfl (v_move rfl) rfl ?_
            refine rj_v rfl rfl (v_fieldAddr fd_114_1 ty_3 (by decide) rfl) rfl ?_
            refine rj_v rfl rfl (v_loadB 0 ty_3 rfl rfl rfl) rfl ?_
            refine rj_v rfl rfl (v_move rfl) rfl ?_
            refine rj_v rfl rfl (v_nilCheck rfl) rfl ?_
            refine rj_v rfl rfl (v_fieldAddr fd_189_0 ty_46 (by decide) rfl) rfl ?_
            refine rj_v rfl rfl (v_load 1 ty_46 rfl rfl hc0) rfl ?_
            refine rj_v rfl rfl (v_len Try.underlying46 rfl hra.sl) rfl ?_
            refine rj_v rfl rfl (v_geq rfl rfl) rfl ?_
            refine rj_v rfl rfl (v_pickf rfl rfl) rfl ?_
            refine rj_bd 49 rfl (fun c49 => ?_) (fun c49 => ?_)
            · refine rj_v rfl rfl (v_move rfl) rfl ?_
              refine rj_s rfl rfl rfl ?_
              refine rj_s rfl rfl rfl ?_
              refine rj_s rfl rfl rfl ?_
              refine rj_s rfl rfl rfl ?_
              refine rj_s rfl rfl rfl ?_
              refine rj_s rfl rfl rfl ?_
              refine rj_s rfl rfl rfl ?_
              refine rj_s rfl rfl rfl ?_
              refine rj_v rfl rfl (v_pickt rfl rfl) rfl ?_
              refine rj_v rfl rfl (v_move rfl) rfl ?_
              refine rj_s rfl rfl rfl ?_
              refine rj_s rfl rfl rfl ?_
              refine rj_s rfl rfl rfl ?_
              refine rj_s rfl rfl rfl ?_
              refine rj_s rfl rfl rfl ?_
              refine rj_s rfl rfl rfl ?_
              refine rj_s rfl rfl rfl ?_
              refine rj_s rfl rfl rfl ?_
              refine rj_v rfl rfl (v_pickt rfl rfl) rfl ?_
              refine rj_end ?_
              refine qs_n ?_
              refine wp_ct rfl ?_
              refine wp_sc ?_
              refine wp_sq ?_
              refine sq_v rfl (v_assign rfl) rfl ?_
              refine sq_v rfl (v_assign rfl) rfl ?_
              refine sq_end ?_
              refine qs_n ?_
              refine wp_rt ?_
              refine qs_r ?_
              refine qs_br ?_
              refine qs_r ?_
              refine qs_r ?_
              refine qs_br ?_
              refine qs_r ?_
              exact qs_ret2 rfl rfl rfl (fin_e (i := 3) rfl (StartR.no (fun h => by have hst := stepOk_at h.2 hx28; obtain ⟨⟨a1, a2, a3⟩, ⟨b1, b2, b3⟩, hab⟩ := hst; first | omega | (rw [a3] at c59; exact absurd c59 (by decide)) | (rw [b3] at c69; exact absurd c69 (by decide)))))
            · refine rj_v rfl rfl (v_move rfl) rfl ?_
              refine rj_v rfl rfl (v_move rfl) rfl ?_
              refine rj_v rfl rfl (v_nilCheck rfl) rfl ?_
              refine rj_v rfl rfl (v_fieldAddr fd_189_1 ty_128 (by decide) rfl) rfl ?_
              refine rj_v rfl rfl (v_load 1 ty_128 rfl rfl hc1) rfl ?_
              refine rj_v rfl rfl (v_fieldAddr fd_114_0 ty_3 (by decide) rfl) rfl ?_
              refine rj_v rfl rfl (v_loadB 0 ty_3 rfl rfl rfl) rfl ?_
              refine rj_v rfl rfl (v_idxB Try.underlying128 ty_4 rfl rfl hrg (by first | omega | (simp only [List.length_cons, List.length_nil]; omega) | (simp only [List.length_append, List.length_cons, List.length_nil]; omega) | (rw [List.length_set]; omega) | (rw [List.length_replicate]; omega) | (simp; omega)) (by first | omega | (simp only [List.length_cons, List.length_nil]; omega) | (simp only [List.length_append, List.length_cons, List.length_nil]; omega) | (rw [List.length_set]; omega) | (rw [List.length_replicate]; omega) | (simp; omega))) rfl ?_
              refine rj_v rfl rfl (v_loadBl  1 ty_4 rfl rfl hrg (by first | omega | (simp only [List.length_cons, List.length_nil]; omega) | (simp only [List.length_append, List.length_cons, List.length_nil]; omega) | (rw [List.length_set]; omega) | (rw [List.length_replicate]; omega) | (simp; omega))) rfl ?_
              refine rj_v rfl rfl (v_pickf rfl rfl) rfl ?_
              refine rj_bb 59 rfl (fun c59 => ?_) (fun c59 => ?_)
              · refine rj_v rfl rfl (v_move rfl) rfl ?_
                refine rj_s rfl rfl rfl ?_
                refine rj_s rfl rfl rfl ?_
                refine rj_s rfl rfl rfl ?_
                refine rj_s rfl rfl rfl ?_
                refine rj_s rfl rfl rfl ?_
                refine rj_s rfl rfl rfl ?_
                refine rj_s rfl rfl rfl ?_
                refine rj_s rfl rfl rfl ?_
                refine rj_v rfl rfl (v_pickt rfl rfl) rfl ?_
                refine rj_end ?_
                refine qs_n ?_
                refine wp_ct rfl ?_
                refine wp_sc ?_
                refine wp_sq ?_
                refine sq_v rfl (v_assign rfl) rfl ?_
                refine sq_v rfl (v_assign rfl) rfl ?_
                refine sq_end ?_
                refine qs_n ?_
                refine wp_rt ?_
                refine qs_r ?_
                refine qs_br ?_
                refine qs_r ?_
                refine qs_r ?_
                refine qs_br ?_
                refine qs_r ?_
                exact qs_ret2 rfl rfl rfl (fin_e (i := 3) rfl (StartR.no (fun h => by have hst := stepOk_at h.2 hx28; obtain ⟨⟨a1, a2, a3⟩, ⟨b1, b2, b3⟩, hab⟩ := hst; first | omega | (rw [a3] at c59; exact absurd c59 (by decide)) | (rw [b3] at c69; exact absurd c69 (by decide)))))
              · refine rj_v rfl rfl (v_move rfl) rfl ?_
                refine rj_v rfl rfl (v_move rfl) rfl ?_
                refine rj_v rfl rfl (v_nilCheck rfl) rfl ?_
                refine rj_v rfl rfl (v_fieldAddr fd_189_1 ty_128 (by decide) rfl) rfl ?_
                refine rj_v rfl rfl (v_load 1 ty_128 rfl rfl hc1) rfl ?_
                refine rj_v rfl rfl (v_fieldAddr fd_114_1 ty_3 (by decide) rfl) rfl ?_
                refine rj_v rfl rfl (v_loadB 0 ty_3 rfl rfl rfl) rfl ?_
                refine rj_v rfl rfl (v_idxB Try.underlying128 ty_4 rfl rfl hrg (by first | omega | (simp only [List.length_cons, List.length_nil]; omega) | (simp only [List.length_append, List.length_cons, List.length_nil]; omega) | (rw [List.length_set]; omega) | (rw [List.length_replicate]; omega) | (simp; omega)) (by first | omega | (simp only [List.length_cons, List.length_nil]; omega) | (simp only [List.length_append, List.length_cons, List.length_nil]; omega) | (rw [List.length_set]; omega) | (rw [List.length_replicate]; omega) | (simp; omega))) rfl ?_
                refine rj_v rfl rfl (v_loadBl  1 ty_4 rfl rfl hrg (by first | omega | (simp only [List.length_cons, List.length_nil]; omega) | (simp only [List.length_append, List.length_cons, List.length_nil]; omega) | (rw [List.length_set]; omega) | (rw [List.length_replicate]; omega) | (simp; omega))) rfl ?_
                refine rj_v rfl rfl (v_pickf rfl rfl) rfl ?_
                refine rj_end ?_
                refine qs_n ?_
                refine wp_cb _ rfl (fun c69 => ?_) (fun c69 => ?_)
                · refine wp_sc ?_
                  refine wp_sq ?_
                  refine sq_v rfl (v_assign rfl) rfl ?_
                  refine sq_v rfl (v_assign rfl) rfl ?_
                  refine sq_end ?_
                  refine qs_n ?_
                  refine wp_rt ?_
                  refine qs_r ?_
                  refine qs_br ?_
                  refine qs_r ?_
                  refine qs_r ?_
                  refine qs_br ?_
                  refine qs_r ?_
                  exact qs_ret2 rfl rfl rfl (fin_e (i := 3) rfl (StartR.no (fun h => by have hst := stepOk_at h.2 hx28; obtain ⟨⟨a1, a2, a3⟩, ⟨b1, b2, b3⟩, hab⟩ := hst; first | omega | (rw [a3] at c59; exact absurd c59 (by decide)) | (rw [b3] at c69; exact absurd c69 (by decide)))))
                · refine wp_sk ?_
                  refine qs_n ?_
                  refine wp_sq ?_
                  refine sq_v rfl (v_move rfl) rfl ?_
                  refine sq_v rfl (v_fieldAddr fd_48_2 ty_24 (by decide) rfl) rfl ?_
                  refine sq_v rfl (v_loadB 2 ty_24 rfl rfl rfl) rfl ?_
                  refine sq_v rfl (v_loadNB 0 ty_114 rfl rfl rfl rfl) rfl ?_
                  have hst : stepOk (shTo op (sh0 ts) (ss.take i)) x28 := ⟨⟨by omega, by omega, c59⟩, ⟨by omega, by omega, c69⟩, by omega⟩
                  refine sq_m 1 rfl rfl (x_call rfl en_146 (fun w s => ct_s_l17Step (dimOf ts) _ op _ bb _ _ w _ q (s.get 1 rfl) (lq.trans (s.getR 1 3 rfl rfl (by decide))) hsp (r'.mono (s.getR 1 3 rfl rfl (by decide))) hfs hft hst (by omega) hop)) rfl ?_; rintro _ h74 ⟨rfl, hsp'⟩
                  refine sq_end ?_
                  refine qs_bn ?_
                  refine qs_n ?_
                  refine wp_sq ?_
                  refine sq_v rfl (v_add rfl rfl ((by unfold I64; omega))) rfl ?_
                  refine sq_v rfl (v_move rfl) rfl ?_
                  refine sq_end ?_
                  exact qs_bk (i + 1, h74) ⟨by (try dsimp only); omega, okSteps_next hok hx28 hst, by (try dsimp only); rw [shTo_step hx28]; exact hsp'⟩ (by simp only; omega) ⟨rfl, rfl, rfl, rfl, rfl, rfl, (by first | rfl | exact ksub rfl (by first | omega | (simp; done) | (simp; omega))), trivial⟩ (fun _ s => s.pick [1, 2, 3] (by decide) rfl)
      · refine wp_ex ?_
        refine qs_x ?_
        refine qs_x ?_
        refine qs_bx ?_
        refine qs_n ?_
        refine wp_sc ?_
        refine wp_sq ?_
        refine sq_v rfl (v_move rfl) rfl ?_
        refine sq_v rfl (v_assign rfl) rfl ?_
        refine sq_v rfl (v_assign rfl) rfl ?_
        refine sq_end ?_
        refine qs_n ?_
        refine wp_rt ?_
        rw [List.take_of_length_le (by omega)] at hok hsp
        exact qs_ret2 rfl rfl rfl (fin_t 0 (i := 2) rfl rfl rfl ⟨ptrV bb, true, rfl, ⟨fun _ => ⟨hnet, hok⟩, fun _ => rfl⟩, fun _ => ⟨bb, rfl, hsp⟩⟩)
  · refine sq_v rfl (v_not rfl) rfl ?_
    refine sq_v rfl (v_move rfl) rfl ?_
    refine sq_s rfl rfl ?_
    refine sq_s rfl rfl ?_
    refine sq_s rfl rfl ?_
    refine sq_s rfl rfl ?_
    refine sq_s rfl rfl ?_
    refine sq_s rfl rfl ?_
    refine sq_s rfl rfl ?_
    refine sq_s rfl rfl ?_
    refine sq_v rfl (v_pickt rfl rfl) rfl ?_
    refine sq_end ?_
    refine qs_n ?_
    refine wp_ct rfl ?_
    refine wp_sc ?_
    refine wp_sq ?_
    refine sq_v rfl (v_assign rfl) rfl ?_
    refine sq_v rfl (v_assign rfl) rfl ?_
    refine sq_end ?_
    refine qs_n ?_
    refine wp_rt ?_
    refine qs_r ?_
    exact qs_ret2 rfl rfl rfl (fin_e (i := 1) rfl (StartR.no (fun h => by first | exact netB_false.1 c10 h.1 | (have := few_steps (net_axes h.1) h.2; omega))))
end Go.Proofs.Ytikeobneipjfnaa
namespace Go.Proofs.Ytikeobneipjfnaa
set_option maxRecDepth 100000
open Go.RowKit
theorem ct_w_l19Pairs (f : Int → Int) (sh : Sh) (bb : Nat) (w : World) (h q : PH) (rs : SpO f sh bb h q) (lh : PLe h (hp w)) (lq : PLe q (hp w)) (hall : sh.all.length ≤ 1000) :
    Calls Try.prog 145 [.pointer (some ⟨bb, 0, none⟩)].toArray w (Ret w emp (StepsO (stpsOf (pairsL sh.ixs)))) := by
  obtain ⟨va, vg, r⟩ := rs.toR lh lq
  exact ct_s_l19Pairs f sh va vg bb w r hall
theorem stps_at {l : List (Nat × Nat)} {i : Nat} {x : Stp} (h : (stpsOf l)[i]? = some x) : ∃ p, l[i]? = some p ∧ x = ⟨p.1, p.2⟩ := by
  simp only [stpsOf, List.getElem?_map, Option.map_eq_some_iff] at h
  obtain ⟨p, h1, h2⟩ := h
  exact ⟨p, h1, h2.symm⟩
def bestAt (g : Nat × Nat → Int) (l : List (Nat × Nat)) (i : Nat) (p : Nat × Nat) : Prop := p ∈ l ∧ (i = 0 → l[0]? = some p) ∧ (0 < i → bestP g (l.take i) = some p)
theorem bestAt.no {g : Nat × Nat → Int} {l : List (Nat × Nat)} {i : Nat} {p x : Nat × Nat} (h : bestAt g l i p) (hx : l[i]? = some x) (hlt : ¬ g x < g p) : bestAt g l (i + 1) p := by
  obtain ⟨hi, e⟩ := List.getElem?_eq_some_iff.1 hx
  refine ⟨h.1, fun e => by omega, fun _ => ?_⟩
  rw [List.take_succ_eq_append_getElem hi, e, bestP_snoc]
  rcases Nat.eq_zero_or_pos i with h0 | h0
  · subst h0
    have := h.2.1 rfl
    rw [hx] at this
    cases this
    simp [bestP]
  · rw [h.2.2 h0]; simp [hlt]
def CompR (k p n : Int) (ts : List Ten) (op : List Int) (ss : List Stp) (u : Value) (h : PH) : Prop :=
  ∃ v, u = .tuple [v, .bool (compB k p n ts op ss)].toArray ∧ StepsO (compS k p n ts op ss) v h
theorem CompR.no {k p n : Int} {ts : List Ten} {op : List Int} {ss : List Stp} (h : ¬ compP k p n ts op ss) : CompR k p n ts op ss (.tuple [.slice none 0 0, .bool false].toArray) emp :=
  ⟨_, by rw [show compB k p n ts op ss = false by simp [compB, h]], by rw [compS, if_neg h]; exact StepsO.nil⟩
end Go.Proofs.Ytikeobneipjfnaa
namespace Go.Proofs.Ytikeobneipjfnaa
set_option maxRecDepth 100000
open Go.RowKit
theorem ct_i_copySteps (ss : List Stp) (v : Value) (w : World) (r : StepsR ss v (hp w)) (hs : ss.length ≤ 1048576) : Calls Try.prog 148 [v].toArray w (Ret w emp (StepsO ss)) := by
  refine calls_in Try.func148 rfl Try.ntmps148 rfl (Sat.start w) ?_
  have hle0 := r.le
  obtain ⟨cs_r, rr_r, hc_r⟩ := r.at
  refine wp_sc ?_
  refine wp_sq ?_
  refine sq_v rfl (v_assign rfl) rfl ?_
  refine sq_end ?_
  refine qs_n ?_
  refine wp_sc ?_
  refine wp_sq ?_
  refine sq_v rfl (v_move rfl) rfl ?_
  refine sq_x rfl (stepx_emp (m_appS (ss := []) (us := ss) 0 (0+1) Try.underlying43 ty_114 rfl rfl rfl rfl StepsO.nil rfl r (by first | omega | (simp only [List.length_cons, List.length_nil]; omega) | (simp only [List.length_append, List.length_cons, List.length_nil]; omega) | (rw [List.length_set]; omega) | (rw [List.length_replicate]; omega) | (simp; omega)))) rfl ?_; intro v4 h4 r4
  obtain ⟨cs_S_4, rr_S_4, hc_S_4⟩ := r4.toR.at
  refine sq_v rfl (v_assign rfl) rfl ?_
  refine sq_end ?_
  refine qs_n ?_
  refine wp_rt ?_
  exact qs_ret1 rfl rfl (fin_t 0 (i := 1) rfl rfl rfl (by simpa using r4))
def bI (g : Nat × Nat → Int) (o : Option (Nat × Nat)) (bi bj bg : Int) : Prop := (o = none → bi = -1) ∧ ∀ x, o = some x → bi = x.1 ∧ bj = x.2 ∧ bg = g x
theorem bI.no {g : Nat × Nat → Int} {l : List (Nat × Nat)} {bi bj bg : Int} {x : Nat × Nat} (h : bI g (bestP g l) bi bj bg) (c1 : ¬ bi < 0) (c2 : ¬ g x < bg) : bI g (bestP g (l ++ [x])) bi bj bg := by
  rw [bestP_snoc]
  cases hb : bestP g l with
  | none => have := h.1 hb; omega
  | some y =>
    have hy := h.2 y hb
    have : ¬ g x < g y := by omega
    simp only [this, if_false]
    exact ⟨fun e => by simp at e, fun z e => by simp at e; subst e; exact hy⟩
end Go.Proofs.Ytikeobneipjfnaa
namespace Go.Proofs.Ytikeobneipjfnaa
set_option maxRecDepth 100000
open Go.RowKit
theorem costs_in {k p n : Int} {ts : List Ten} {op : List Int} {ss : List Stp} (h : orderL k p n ts op ss) (j : Nat) (hj : j < ss.length) : 1 ≤ (costsL (dimOf ts) op (sh0 ts) ss).getD j 0 ∧ (costsL (dimOf ts) op (sh0 ts) ss).getD j 0 ≤ 1000000000 := by
  rw [costsL_at (List.getElem?_eq_getElem hj)]
  exact costL_in (fit_to (op := op) (net_fit h.1) _)
theorem ord_eq {k p n : Int} {ts : List Ten} {op : List Int} {ss : List Stp} (h : orderL k p n ts op ss) : ordCosts k p n ts op ss = costsL (dimOf ts) op (sh0 ts) ss := if_pos h
end Go.Proofs.Ytikeobneipjfnaa
