/-
  The program's state of an order: how it lies in the memory, and its smaller functions.
  Conditions: none.
-/
import Derived.Test.YtikeobneipjfnaaOrd1
namespace Go.Proofs.Ytikeobneipjfnaa
set_option maxRecDepth 100000
open Go.RowKit
/-! ### a literal that holds an array -/
def bplaces (P : Program) (t : TypeId) : Option (Array Value × List (Nat × Nat)) :=
  match P.info? t, P.underlying t with
  | some it, some (.struct fields) =>
    match it.zero, fields.toList.mapM (fun f => (P.info? f.type).map fun i => (f.offset, i.size)) with
    | some z, some places => some (z.cells, places)
    | _, _ => none
  | _, _ => none
theorem built_of {P : Program} {t : TypeId} {z : Array Value} {places : List (Nat × Nat)} (h : bplaces P t = some (z, places)) (parts : List (Nat × Value)) : P.built t parts = Instr.fill (places.toArray[·]?) z parts := by
  unfold bplaces at h
  unfold Program.built
  cases hi : P.info? t with
  | none => simp [hi] at h
  | some it =>
    cases hu : P.underlying t with
    | none => simp [hi, hu] at h
    | some d =>
      cases d <;> simp only [hi, hu] at h ⊢ <;> try (cases h; done)
      split at h
      · rename_i z' places' e1 e2
        simp only [Option.some.injEq, Prod.mk.injEq] at h
        obtain ⟨rfl, rfl⟩ := h
        simp only [e1, e2]
      · cases h
theorem fill_at {place : Nat → Option (Nat × Nat)} {A us B cs : List Value} {i off sz : Nat} {v : Value} {rest : List (Nat × Value)} (hp : place i = some (off, sz)) (hv : v.cells = us.toArray) (hu : us.length = sz) (ha : A.length = off) (hc : cs.length = sz) :
    Instr.fill place (A ++ cs ++ B).toArray ((i, v) :: rest) = Instr.fill place (A ++ us ++ B).toArray rest := by
  simp only [Instr.fill, hp, hv]
  rw [if_neg (by simp; omega)]
  congr 1
  have hs := Great.foldl_set off us 0 (A ++ cs ++ B).toArray
  rw [← Array.foldl_toList, Array.toList_zipIdx]
  apply Array.ext_getElem?
  intro k
  rw [hs.2 k]
  simp only [Nat.add_zero, List.size_toArray, List.getElem?_toArray, List.length_append]
  subst ha
  by_cases h1 : k < A.length
  · rw [if_neg (by omega), List.append_assoc, List.append_assoc, List.getElem?_append_left h1, List.getElem?_append_left h1]
  · by_cases h2 : k < A.length + us.length
    · rw [if_pos (by omega), List.append_assoc, List.getElem?_append_right (by omega), List.getElem?_append_left (by omega)]
    · rw [if_neg (by omega), List.append_assoc, List.append_assoc, List.getElem?_append_right (by omega), List.getElem?_append_right (by omega), List.getElem?_append_right (by omega), List.getElem?_append_right (by omega)]
      congr 1
      omega
/-! ### the state in the memory -/
abbrev stCells (arr : List Int) (vo lvv : Value) (nx : Int) : List Value := ints arr ++ [vo, lvv, num nx]
theorem pre_get {xs : List Int} {cs : List Value} {u : Value} (h : xs.length = 100) (j : Nat) (hj : cs[j]? = some u) : (ints xs ++ cs)[100 + j]? = some u := by
  rw [List.getElem?_append_right (by rw [ints_length]; omega), ints_length, h, Nat.add_sub_cancel_left]; exact hj
theorem pre_arr {xs : List Int} {cs : List Value} {j : Nat} (h : j < xs.length) : (ints xs ++ cs)[j]? = some (num (xs.getD j 0)) := by
  rw [List.getElem?_append_left (by rw [ints_length]; exact h)]; exact ints_get h
theorem pre_set {xs : List Int} {cs : List Value} {u : Value} (h : xs.length = 100) (j : Nat) : (ints xs ++ cs).set (100 + j) u = ints xs ++ cs.set j u := by
  rw [List.set_append_right _ _ (by rw [ints_length]; omega), ints_length, h, Nat.add_sub_cancel_left]
section
variable {P : Program} {n : Nat} {w0 : World} {K : Env} {HS : List PH} {d : Option Tmp} {ty : TypeId} {ps : String} {af : Array Edge} {g : Option (Nat × Bool)}
/-- A struct or an array as a whole, of memory that is read. -/
theorem v_loadNP {t : TypeId} {x : Operand} {z : Value} {sz bytes b o : Nat} {us : List Value} {h : PH} (p : Nat) (ht : TyF P t z sz bytes true) (hx : ev K x = some (.pointer (some ⟨b, o, none⟩))) (hp : HS[p]? = some h) (hl : us.length = sz ∧ ∀ (j : Nat) (u : Value), us[j]? = some u → cellP h b (o + j) = some u) :
    StepV P n w0 K HS ⟨d, .load t x, ty, ps, af, g⟩ (.agg us.toArray) := fun a w e s => by
  simp [execOp, e.ev hx, run_loadN ht hl.1 (fun j v hv => cell_of (s.get p hp) (hl.2 j v hv))]
end
abbrev ptrV (b : Nat) : Value := .pointer (some ⟨b, 0, none⟩)
/-- The state as it is read. -/
structure StR (arr : List Int) (vo lvv : Value) (s : Sh) (b : Nat) (h : PH) : Prop where
  len : arr.length = 100
  ok : s.ok
  cells : ∀ (j : Nat) (u : Value), (stCells arr vo lvv s.all.length)[j]? = some u → cellP h b j = some u
  live : LiveR s.lv lvv h
theorem StR.mono {arr : List Int} {vo lvv : Value} {s : Sh} {b : Nat} {h h' : PH} (r : StR arr vo lvv s b h) (l : PLe h h') : StR arr vo lvv s b h' := ⟨r.len, r.ok, fun j u e => cellP.mono l (r.cells j u e), r.live.mono l⟩
theorem StR.c100 {arr : List Int} {vo lvv : Value} {s : Sh} {b : Nat} {h : PH} (r : StR arr vo lvv s b h) : cellP h b 100 = some vo := r.cells 100 _ (pre_get r.len 0 rfl)
theorem StR.c101 {arr : List Int} {vo lvv : Value} {s : Sh} {b : Nat} {h : PH} (r : StR arr vo lvv s b h) : cellP h b 101 = some lvv := r.cells 101 _ (pre_get r.len 1 rfl)
theorem StR.c102 {arr : List Int} {vo lvv : Value} {s : Sh} {b : Nat} {h : PH} (r : StR arr vo lvv s b h) : cellP h b 102 = some (num s.all.length) := r.cells 102 _ (pre_get r.len 2 rfl)
theorem StR.arr {arr : List Int} {vo lvv : Value} {s : Sh} {b : Nat} {h : PH} (r : StR arr vo lvv s b h) : (ints arr).length = 100 ∧ ∀ (j : Nat) (u : Value), (ints arr)[j]? = some u → cellP h b (0 + 0 + j) = some u :=
  ⟨by rw [ints_length]; exact r.len, fun j u e => by
    rw [show 0 + 0 + j = j by omega]
    refine r.cells j u ?_
    rw [List.getElem?_append_left (List.getElem?_eq_some_iff.1 e).1]; exact e⟩
/-- The state that a call has for its own; 'hs' is what its slices lie in. -/
def StO (arr : List Int) (vo : Value) (s : Sh) (b : Nat) (h : PH) : Prop := arr.length = 100 ∧ s.ok ∧ ∃ lvv hs, LiveR s.lv lvv hs ∧ Made h [box b (stCells arr vo lvv s.all.length) 216, hs]
theorem StR.box {arr : List Int} {vo lvv : Value} {s : Sh} {b : Nat} {h : PH} (hl : arr.length = 100) (hok : s.ok) (hb : PLe (box b (stCells arr vo lvv s.all.length) 216) h) (r : LiveR s.lv lvv h) : StR arr vo lvv s b h :=
  ⟨hl, hok, fun j u e => cellP.mono hb (by rw [cellP_box]; exact e), r⟩
theorem StO.toR {arr : List Int} {vo : Value} {s : Sh} {b : Nat} {h : PH} (r : StO arr vo s b h) : ∃ lvv, StR arr vo lvv s b h := by
  obtain ⟨h1, h2, lvv, hs, h3, md⟩ := r
  exact ⟨lvv, StR.box h1 h2 (md.le _ (by simp)) (h3.mono (md.le hs (by simp)))⟩
theorem ct_i_place (arr : List Int) (vo lvv : Value) (s : Sh) (b : Nat) (n : Int) (w : World) (r : StR arr vo lvv s b (hp w)) :
    Calls Try.prog 199 [.pointer (some ⟨b, 0, none⟩), num n].toArray w (RetV w (num (s.place n))) := by
  have rl := r.live
  refine calls_in Try.func199 rfl Try.ntmps199 rfl (Sat.start w) ?_
  have hle0 := rl.le
  obtain ⟨cs_rl, rr_rl, hc_rl⟩ := rl.at
  refine wp_sc ?_
  refine wp_sq ?_
  refine sq_v rfl (v_assign rfl) rfl ?_
  refine sq_end ?_
  refine qs_n ?_
  refine wp_sc ?_
  refine wp_sc ?_
  refine wp_sq ?_
  refine sq_v rfl (v_move rfl) rfl ?_
  refine sq_v rfl (v_nilCheck rfl) rfl ?_
  refine sq_v rfl (v_fieldAddr fd_216_2 ty_214 (by decide) rfl) rfl ?_
  refine sq_v rfl (v_load 0 ty_214 rfl rfl r.c101) rfl ?_
  refine sq_v rfl (v_len Try.underlying214 rfl rl.sl) rfl ?_
  refine sq_v rfl (v_move rfl) rfl ?_
  refine sq_end ?_
  refine qs_n ?_
  refine wp_bl ?_
  refine wp_lp (σ := Nat) (fun z_ => [(1, num n), (4, num 0), (10, lvv), (11, num s.lv.length), (12, num z_)]) (fun z_ => [hp w]) (fun z_ => z_ ≤ s.lv.length ∧ (∀ j, j < z_ → (s.ixs.map Int.ofNat).getD j 0 ≠ n)) (fun z_ => s.lv.length - z_) 0 (⟨by omega, fun j hj => by omega⟩) ⟨rfl, rfl, rfl, rfl, (by first | rfl | exact ksub rfl (by first | omega | (simp; done) | (simp; omega))), trivial⟩ (fun _ s => s) ?_
  rintro i ⟨hi, hn⟩
  have hll := lv_len s
  refine wp_sc ?_
  refine wp_sq ?_
  refine sq_v rfl (v_lss rfl rfl) rfl ?_
  refine sq_end ?_
  refine qs_n ?_
  refine wp_sc ?_
  refine wp_cd rfl (fun c13 => ?_) (fun c13 => ?_)
  · refine wp_sk ?_
    refine qs_n ?_
    refine wp_sc ?_
    refine wp_bl ?_
    refine wp_sc ?_
    refine wp_sq ?_
    refine sq_v rfl (v_move rfl) rfl ?_
    obtain ⟨x15, a15, hx15, hcs15, rl15⟩ := hc_rl (i) (by first | omega | (rw [List.length_set]; omega))
    refine sq_v rfl (v_indexAddr Try.underlying214 ty_213 rfl rfl rr_rl (by decide) (by omega) (by omega)) rfl ?_
    refine sq_v rfl (v_loadNE 0 ty_213 rfl rfl rr_rl (by have := rr_rl.1; omega) rfl hcs15) rfl ?_
    refine sq_x rfl (x_alloc ty_213 rfl) rfl ?_; rintro _ _ ⟨b6, rfl, rfl⟩
    refine sq_v rfl (v_assign rfl) rfl ?_
    refine sq_m 0 rfl rfl (m_store 0 ty_213 rfl rfl rfl rfl (by simp [one_int, rl15.sl.one]) rfl (Nat.le_of_ble_eq_true rfl)) rfl ?_; rintro _ _ ⟨rfl, rfl⟩
    refine sq_end ?_
    obtain ⟨ix, hix, ex⟩ := lv_get hx15
    subst ex
    have hmg : (s.ixs.map Int.ofNat).getD i 0 = ix := by simp [List.getD, hix]
    refine qs_n ?_
    refine wp_sc ?_
    refine wp_sq ?_
    refine sq_v rfl (v_fieldAddr fd_213_0 ty_3 (by decide) rfl) rfl ?_
    refine sq_v rfl (v_loadB 0 ty_3 rfl rfl rfl) rfl ?_
    refine sq_v rfl (v_move rfl) rfl ?_
    refine sq_v rfl (v_eql rfl rfl) rfl ?_
    refine sq_end ?_
    refine qs_n ?_
    refine wp_cd rfl (fun c20 => ?_) (fun c20 => ?_)
    · refine wp_sc ?_
      refine wp_sq ?_
      refine sq_v rfl (v_move rfl) rfl ?_
      refine sq_v rfl (v_assign rfl) rfl ?_
      refine sq_end ?_
      refine qs_n ?_
      refine wp_rt ?_
      refine qs_br ?_
      refine qs_r ?_
      refine qs_r ?_
      refine qs_br ?_
      refine qs_r ?_
      exact qs_ret1 rfl rfl (fin_q (i := 1) rfl (by rw [Sh.place, idx_first hn (by rw [List.length_map]; omega) (by rw [hmg]; exact c20)]))
    · refine wp_sk ?_
      refine qs_bn ?_
      refine qs_n ?_
      refine wp_sq ?_
      refine sq_v rfl (v_add rfl rfl ((by unfold I64; omega))) rfl ?_
      refine sq_v rfl (v_move rfl) rfl ?_
      refine sq_end ?_
      exact qs_bk (i + 1) ⟨by omega, step_all hn (by rw [hmg]; exact c20)⟩ (by omega) ⟨rfl, rfl, rfl, rfl, (by first | rfl | exact ksub rfl (by first | omega | (simp; done) | (simp; omega))), trivial⟩ (fun _ s => s.pick [1] (by decide) rfl)
  · refine wp_ex ?_
    refine qs_x ?_
    refine qs_x ?_
    refine qs_bx ?_
    refine qs_n ?_
    refine wp_sc ?_
    refine wp_sq ?_
    refine sq_v rfl (v_assign rfl) rfl ?_
    refine sq_end ?_
    refine qs_n ?_
    refine wp_rt ?_
    exact qs_ret1 rfl rfl (fin_q (i := 0) rfl (by rw [Sh.place, findI_none (not_mem_of (fun j hj => hn j (by rw [List.length_map] at hj; omega)))]))
end Go.Proofs.Ytikeobneipjfnaa
