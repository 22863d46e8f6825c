/-
  At every network and job the program's FormatJob returns the text that the reference's returns.
  Conditions: none.
-/
import Derived.Test.YtiefkcaplhnnmaaGreatDoorQFormatJob4
namespace Go.Proofs.YtiefkcaplhnnmaaGreatDoor
set_option maxRecDepth 100000
open Go.Shelf Go.RowKit Go.Sort
def shp_lays156_ren : Go.Shelf.Ren := ⟨fun | 156 => 78 | 165 => 107 | 166 => 108 | 169 => 109 | 240 => 125 | 241 => 126 | 276 => 141 | 277 => 142 | n => n, fun | 31 => 70 | 9 => 9 | 3 => 3 | 4 => 4 | 0 => 0 | 20 => 20 | 72 => 126 | 76 => 114 | 70 => 124 | 37 => 93 | 75 => 113 | 127 => 141 | 164 => 158 | 5 => 5 | 80 => 128 | n => n, fun | n => n⟩
theorem shp_lays156 : Go.Proofs.Lays.n156 Tryz.prog shp_lays156_ren := {
  mixed := by kernel_rfl
  f156 := Tryz.func78.trans (congrArg some (by kernel_rfl))
  f165 := Tryz.func107.trans (congrArg some (by kernel_rfl))
  f166 := Tryz.func108.trans (congrArg some (by kernel_rfl))
  f169 := Tryz.func109.trans (congrArg some (by kernel_rfl))
  f240 := Tryz.func125.trans (congrArg some (by kernel_rfl))
  f241 := Tryz.func126.trans (congrArg some (by kernel_rfl))
  f276 := Tryz.func141.trans (congrArg some (by kernel_rfl))
  f277 := Tryz.func142.trans (congrArg some (by kernel_rfl))
  t0 := Tryz.underlying0
  a0 := Tryz.isAgg0
  z0 := Tryz.sizeOf0
  v0 := Tryz.zeroValue0
  t3 := Tryz.underlying3
  a3 := Tryz.isAgg3
  z3 := Tryz.sizeOf3
  v3 := Tryz.zeroValue3
  t4 := Tryz.underlying4
  a4 := Tryz.isAgg4
  z4 := Tryz.sizeOf4
  v4 := Tryz.zeroValue4
  t9 := Tryz.underlying9
  a9 := Tryz.isAgg9
  z9 := Tryz.sizeOf9
  v9 := Tryz.zeroValue9
  t20 := Tryz.underlying20
  a20 := Tryz.isAgg20
  z20 := Tryz.sizeOf20
  v20 := Tryz.zeroValue20
  t31 := Tryz.underlying70
  a31 := Tryz.isAgg70
  z31 := Tryz.sizeOf70
  v31 := Tryz.zeroValue70
  t37 := Tryz.underlying93
  a37 := Tryz.isAgg93
  z37 := Tryz.sizeOf93
  v37 := Tryz.zeroValue93
  t70 := Tryz.underlying124
  a70 := Tryz.isAgg124
  z70 := Tryz.sizeOf124
  v70 := Tryz.zeroValue124
  t72 := Tryz.underlying126
  a72 := Tryz.isAgg126
  z72 := Tryz.sizeOf126
  v72 := Tryz.zeroValue126
  t75 := Tryz.underlying113
  a75 := Tryz.isAgg113
  z75 := Tryz.sizeOf113
  v75 := Tryz.zeroValue113
  t76 := Tryz.underlying114
  a76 := Tryz.isAgg114
  z76 := Tryz.sizeOf114
  v76 := Tryz.zeroValue114
  t127 := Tryz.underlying141
  a127 := Tryz.isAgg141
  z127 := Tryz.sizeOf141
  v127 := Tryz.zeroValue141
  t164 := Tryz.underlying158
  a164 := Tryz.isAgg158
  z164 := Tryz.sizeOf158
  v164 := Tryz.zeroValue158 }
theorem shp_Builder_Extra_156 : Builder.Extra Tryz.prog shp_lays156_ren := {
  sizeBuilder := by kernel_rfl
  liesBuilder := by kernel_rfl
  t5 := Tryz.underlying5
  a5 := Tryz.isAgg5
  z5 := Tryz.sizeOf5
  v5 := Tryz.zeroValue5
  infoByte := by kernel_rfl
  cellsByte := by kernel_rfl
  sizeByte := by kernel_rfl
  neB5 := by decide }
theorem shp_strings_Join (bk o c : Nat) (xs : List ByteArray) (sep : ByteArray) (w : World) (hcells : ∀ (j : Nat) x, xs[j]? = some x → w.cell? ⟨bk, o + j, none⟩ = some (.string x)) (hbk : bk < w.heap.size) (hN : xs.length ≤ 140737488355328) (hcap : xs.length ≤ c) (hlen : (Lib.join (xs.map (·.data.toList)) sep.data.toList).length ≤ 140737488355328) :
    Calls Tryz.prog 78 #[.slice (some ⟨bk, o, none⟩) xs.length c, .string sep] w fun e w' => e = .returned (.string ⟨(Lib.join (xs.map (·.data.toList)) sep.data.toList).toArray⟩) ∧ Below w.heap.size w w' := Any.strings_Join shp_lays156 shp_Builder_Extra_156 bk o c xs sep w hcells hbk hN hcap hlen
theorem shp_strings_Join_none (a : Option Addr) (c : Nat) (sep : ByteArray) (w : World) :
    Calls Tryz.prog 78 #[.slice a 0 c, .string sep] w fun e w' => e = .returned (.string ⟨#[]⟩) ∧ w' = w := Any.strings_Join_none shp_lays156 shp_Builder_Extra_156 a c sep w
def shp_laysM171_ren : Go.Shelf.Ren := ⟨fun | 171 => 74 | 243 => 106 | 246 => 124 | 283 => 137 | 284 => 138 | 285 => 139 | 286 => 140 | 129 => 152 | 317 => 151 | 318 => 153 | 319 => 154 | 320 => 155 | 337 => 163 | 338 => 164 | n => n, fun | 3 => 3 | 9 => 9 | 2 => 2 | 4 => 4 | 171 => 152 | 0 => 0 | 53 => 153 | 37 => 93 | 5 => 5 | 173 => 156 | 212 => 174 | 51 => 175 | 20 => 20 | 213 => 176 | 46 => 167 | 232 => 190 | 233 => 191 | n => n, fun | 17 => 2 | 18 => 6 | 19 => 7 | n => n⟩
theorem shp_laysM171 : Go.Proofs.LaysM.n171 Tryz.prog shp_laysM171_ren := {
  mixed := by kernel_rfl
  f129 := Tryz.func152.trans (congrArg some (by kernel_rfl))
  f171 := Tryz.func74.trans (congrArg some (by kernel_rfl))
  f243 := Tryz.func106.trans (congrArg some (by kernel_rfl))
  f246 := Tryz.func124.trans (congrArg some (by kernel_rfl))
  f283 := Tryz.func137.trans (congrArg some (by kernel_rfl))
  f284 := Tryz.func138.trans (congrArg some (by kernel_rfl))
  f285 := Tryz.func139.trans (congrArg some (by kernel_rfl))
  f286 := Tryz.func140.trans (congrArg some (by kernel_rfl))
  f317 := Tryz.func151.trans (congrArg some (by kernel_rfl))
  f318 := Tryz.func153.trans (congrArg some (by kernel_rfl))
  f319 := Tryz.func154.trans (congrArg some (by kernel_rfl))
  f320 := Tryz.func155.trans (congrArg some (by kernel_rfl))
  f337 := Tryz.func163.trans (congrArg some (by kernel_rfl))
  f338 := Tryz.func164.trans (congrArg some (by kernel_rfl))
  t0 := Tryz.underlying0
  a0 := Tryz.isAgg0
  z0 := Tryz.sizeOf0
  v0 := Tryz.zeroValue0
  t2 := Tryz.underlying2
  a2 := Tryz.isAgg2
  z2 := Tryz.sizeOf2
  v2 := Tryz.zeroValue2
  t3 := Tryz.underlying3
  a3 := Tryz.isAgg3
  z3 := Tryz.sizeOf3
  v3 := Tryz.zeroValue3
  t4 := Tryz.underlying4
  a4 := Tryz.isAgg4
  z4 := Tryz.sizeOf4
  v4 := Tryz.zeroValue4
  t5 := Tryz.underlying5
  a5 := Tryz.isAgg5
  z5 := Tryz.sizeOf5
  v5 := Tryz.zeroValue5
  t9 := Tryz.underlying9
  a9 := Tryz.isAgg9
  z9 := Tryz.sizeOf9
  v9 := Tryz.zeroValue9
  t20 := Tryz.underlying20
  a20 := Tryz.isAgg20
  z20 := Tryz.sizeOf20
  v20 := Tryz.zeroValue20
  t37 := Tryz.underlying93
  a37 := Tryz.isAgg93
  z37 := Tryz.sizeOf93
  v37 := Tryz.zeroValue93
  t46 := Tryz.underlying167
  a46 := Tryz.isAgg167
  z46 := Tryz.sizeOf167
  v46 := Tryz.zeroValue167
  t51 := Tryz.underlying175
  a51 := Tryz.isAgg175
  z51 := Tryz.sizeOf175
  v51 := Tryz.zeroValue175
  t53 := Tryz.underlying153
  a53 := Tryz.isAgg153
  z53 := Tryz.sizeOf153
  v53 := Tryz.zeroValue153
  t171 := Tryz.underlying152
  a171 := Tryz.isAgg152
  z171 := Tryz.sizeOf152
  v171 := Tryz.zeroValue152
  t173 := Tryz.underlying156
  a173 := Tryz.isAgg156
  z173 := Tryz.sizeOf156
  v173 := Tryz.zeroValue156
  t212 := Tryz.underlying174
  a212 := Tryz.isAgg174
  z212 := Tryz.sizeOf174
  v212 := Tryz.zeroValue174
  t213 := Tryz.underlying176
  a213 := Tryz.isAgg176
  z213 := Tryz.sizeOf176
  t232 := Tryz.underlying190
  a232 := Tryz.isAgg190
  z232 := Tryz.sizeOf190
  v232 := Tryz.zeroValue190
  t233 := Tryz.underlying191
  a233 := Tryz.isAgg191
  z233 := Tryz.sizeOf191
  v233 := Tryz.zeroValue191
  g17 := by kernel_rfl
  g18 := by kernel_rfl
  g19 := by kernel_rfl
  i0 := by kernel_rfl
  i2 := by kernel_rfl
  i3 := by kernel_rfl
  i4 := by kernel_rfl
  i5 := by kernel_rfl
  i9 := by kernel_rfl
  i20 := by kernel_rfl
  i37 := by kernel_rfl
  i46 := by kernel_rfl
  i51 := by kernel_rfl
  i53 := by kernel_rfl
  i171 := by kernel_rfl
  i173 := by kernel_rfl
  i212 := by kernel_rfl
  i232 := by kernel_rfl
  i233 := by kernel_rfl
  m17 := by kernel_rfl
  m18 := by kernel_rfl
  m19 := by kernel_rfl }
theorem shp_strconv_Itoa (n : Int) (h0 : -9223372036854775808 ≤ n) (h1 : n ≤ 9223372036854775807) (w : World) (htab : Lib.TabIs Tryz.prog w "internal/strconv.uint64pow10" .u64 Lib.pow10Tab) :
    Calls Tryz.prog 74 #[.int .i64 n] w fun e w' => e = .returned (.string ⟨(Lib.itoa n).toArray⟩) ∧ ∃ k os, w' = grow (w.drewN k) os := Any.strconv_Itoa shp_laysM171 n h0 h1 w htab
end Go.Proofs.YtiefkcaplhnnmaaGreatDoor
namespace Go.Proofs.YtiefkcaplhnnmaaGreatDoor
set_option maxRecDepth 100000
open Go.RowKit Go.Sort
theorem en_74 : EnterOK Tryz.prog 74 := ⟨_, Tryz.func74, by kernel_rfl, rfl⟩
theorem en_78 : EnterOK Tryz.prog 78 := ⟨_, Tryz.func78, by kernel_rfl, rfl⟩
theorem u8_wrap {x : Int} (h : 0 ≤ x ∧ x ≤ 255) : IntKind.u8.wrap x = x := by rw [IntKind.wrap_u8]; omega
/-- A part of the heap bears the table of powers of ten. -/
def PowR (h : PH) : Prop := ∀ w : World, PLe h (hp w) → Lib.TabIs Tryz.prog w "internal/strconv.uint64pow10" .u64 Lib.pow10Tab
theorem PowR.mono {h h' : PH} (r : PowR h) (l : PLe h h') : PowR h' := fun w hw => r w (l.trans hw)
theorem pow_start {w : World} (h : Lib.TabIs Tryz.prog w "internal/strconv.uint64pow10" .u64 Lib.pow10Tab) : PowR (hp w) := fun w' hw => by
  unfold Lib.TabIs World.var? at h ⊢
  cases hg : Tryz.prog.globalNamed "internal/strconv.uint64pow10" with
  | none => rw [hg] at h; cases h
  | some g =>
    rw [hg] at h; simp only [Option.bind_some] at h ⊢
    split at h
    · rename_i cs t f hh
      have := hw g _ hh; simp only [hp] at this; rw [this]; exact h
    · cases h
theorem upd_grow (w : World) (k : Nat) (os : Array Obj) : Upd emp emp w (grow (w.drewN k) os) := by
  refine ⟨rfl, rfl, rfl, ?_, fun j hj _ => ?_, PLe.emp _, fun _ _ e => nomatch e⟩
  · simp [grow, World.drewN]
  · simp only [grow, World.drewN]; rw [Array.getElem?_append_left hj]
theorem upd_below {w w' : World} (h : Below w.heap.size w w') : Upd emp emp w w' :=
  ⟨h.os, h.tape, h.output, h.size, fun k hk _ => h.block k hk, PLe.emp _, fun _ _ e => nomatch e⟩
theorem ct_lib_Itoa (n : Int) (w : World) (tb : PowR (hp w)) (hn : I64 n) : Calls Tryz.prog 74 [num n].toArray w (RetV w (strV (Lib.itoa n))) :=
  (shp_strconv_Itoa n hn.1 hn.2 w (tb w (PLe.refl _))).mono fun e w' ⟨he, k, os, hw⟩ => by
    subst he; subst hw; exact ⟨rfl, upd_grow w k os⟩
theorem str_lists (xs : List (List UInt8)) : (xs.map fun x => (⟨x.toArray⟩ : ByteArray)).map (·.data.toList) = xs := by
  rw [List.map_map]; have : (fun s : ByteArray => s.data.toList) ∘ (fun x : List UInt8 => (⟨x.toArray⟩ : ByteArray)) = id := by
    funext x; simp
  rw [this, List.map_id]
theorem ct_lib_Join (xs : List (List UInt8)) (sep : List UInt8) (v : Value) (w : World) (r : StrsR xs v (hp w)) (hs : xs.length ≤ 1048576) (hl : (Lib.join xs sep).length ≤ 140737488355328) : Calls Tryz.prog 78 [v, strV sep].toArray w (RetV w (strV (Lib.join xs sep))) := by
  obtain ⟨hcl, a, c, rfl, ⟨_, hc⟩, h4⟩ := r
  by_cases h0 : xs.length = 0
  · have e0 : xs = [] := List.eq_nil_of_length_eq_zero h0; subst e0; refine (shp_strings_Join_none a c ⟨sep.toArray⟩ w).mono ?_; rintro e w' ⟨rfl, rfl⟩; exact ⟨rfl, Upd.refl _⟩
  · obtain ⟨b, o, rfl, hcell⟩ := h4 (by omega); have hx : ∀ (j : Nat) (x : ByteArray), (xs.map fun x => (⟨x.toArray⟩ : ByteArray))[j]? = some x → w.cell? ⟨b, o + j, none⟩ = some (.string x) := fun j x hj => by
      rw [← cellP_hp]; refine hcell j _ ?_; simp only [List.getElem?_map, Option.map_eq_some_iff] at hj; obtain ⟨y, hy, rfl⟩ := hj
      simp [strs, strV, hy]
    have hb : b < w.heap.size := by
      have hg := strs_get (xs := xs) (k := 0) (by omega); have := hcell 0 _ hg
      unfold cellP hp at this
      rcases Nat.lt_or_ge b w.heap.size with h | h
      · exact h
      · rw [Array.getElem?_eq_none h] at this; cases this
    have h := shp_strings_Join b o c (xs.map fun x => (⟨x.toArray⟩ : ByteArray)) ⟨sep.toArray⟩ w hx hb (by rw [List.length_map]; omega) (by rw [List.length_map]; exact hc) (by rw [str_lists]; exact hl); rw [List.length_map, str_lists] at h; refine h.mono ?_; rintro e w' ⟨rfl, hw⟩; exact ⟨rfl, upd_below hw⟩
end Go.Proofs.YtiefkcaplhnnmaaGreatDoor
namespace Go.Proofs.YtiefkcaplhnnmaaGreatDoor
set_option maxRecDepth 100000
open Go.RowKit
theorem dec_small {u : Nat} (h : u < 10) : Lib.decDigits u = [UInt8.ofNat (48 + u)] := by rw [Lib.decDigits, dif_pos h]
theorem dec_big {u : Nat} (h : ¬ u < 10) : Lib.decDigits u = Lib.decDigits (u / 10) ++ [UInt8.ofNat (48 + u % 10)] := by rw [Lib.decDigits, dif_neg h]
theorem itoa_len {n : Int} (h : I64 n) : (Lib.itoa n).length ≤ 21 := Lib.itoa_length_le n h.1 h.2
theorem itoa_pos {n : Int} (h : 0 ≤ n) : Lib.itoa n = Lib.decDigits n.toNat := by rw [Lib.itoa, if_neg (by omega)]
theorem td10 (u : Nat) : (u : Int).tdiv 10 = ((u / 10 : Nat) : Int) := (Int.ofNat_tdiv u 10).symm
theorem tm10 (u : Nat) : (u : Int).tmod 10 = ((u % 10 : Nat) : Int) := (Int.ofNat_tmod u 10).symm
theorem itoa_neg1 {n : Int} (h : n < 0) (h2 : n.tdiv 10 = 0) : Lib.itoa n = [45] ++ [UInt8.ofNat (48 - n).toNat] := by
  have e : n = -(n.natAbs : Int) := by omega
  have h3 : n.natAbs < 10 := by
    rw [e, Int.neg_tdiv, td10] at h2
    omega
  rw [Lib.itoa, if_pos h, dec_small h3, show (48 - n).toNat = 48 + n.natAbs by omega]
  rfl
theorem itoa_neg2 {n : Int} (h : n < 0) (h2 : n.tdiv 10 ≠ 0) : n.tdiv 10 < 0 ∧ Lib.itoa n = Lib.itoa (n.tdiv 10) ++ [UInt8.ofNat (48 - n.tmod 10).toNat] := by
  have e : n = -(n.natAbs : Int) := by omega
  have ed : n.tdiv 10 = -((n.natAbs / 10 : Nat) : Int) := by
    conv => lhs; rw [e, Int.neg_tdiv, td10]
  have em : n.tmod 10 = -((n.natAbs % 10 : Nat) : Int) := by
    conv => lhs; rw [e, Int.neg_tmod, tm10]
  have h3 : n.natAbs / 10 ≠ 0 := fun e0 => h2 (by rw [ed, e0]; rfl); have h4 : n.tdiv 10 < 0 := by omega
  refine ⟨h4, ?_⟩; rw [Lib.itoa, if_pos h, Lib.itoa, if_pos h4, dec_big (by omega), show (n.tdiv 10).natAbs = n.natAbs / 10 by omega, show (48 - n.tmod 10).toNat = 48 + n.natAbs % 10 by omega]
  rfl
theorem tmod_nn {n : Int} (h : 0 ≤ n) : 0 ≤ n.tmod 10 ∧ n.tmod 10 ≤ 9 ∧ (n.tmod 10).toNat = n.toNat % 10 ∧ 0 ≤ n.tdiv 10 ∧ n.tdiv 10 ≤ n ∧ (n.tdiv 10).toNat = n.toNat / 10 := by
  obtain ⟨u, rfl⟩ : ∃ u : Nat, n = u := ⟨n.toNat, by omega⟩
  have ed : (u : Int).tdiv 10 = ((u / 10 : Nat) : Int) := (Int.ofNat_tdiv u 10).symm; have em : (u : Int).tmod 10 = ((u % 10 : Nat) : Int) := (Int.ofNat_tmod u 10).symm; rw [ed, em]
  omega
theorem tmod_neg {n : Int} (h : n < 0) : -9 ≤ n.tmod 10 ∧ n.tmod 10 ≤ 0 ∧ n ≤ n.tdiv 10 ∧ n.tdiv 10 ≤ 0 ∧ (n.tdiv 10).natAbs < n.natAbs ∧ (n.tdiv 10 = 0 → -9 ≤ n) := by
  have e : n = -(n.natAbs : Int) := by omega
  have ed : n.tdiv 10 = -((n.natAbs / 10 : Nat) : Int) := by
    conv => lhs; rw [e, Int.neg_tdiv, td10]
  have em : n.tmod 10 = -((n.natAbs % 10 : Nat) : Int) := by
    conv => lhs; rw [e, Int.neg_tmod, tm10]
  rw [ed, em]
  omega
set_option maxHeartbeats 1000000 in
theorem ct_q_FormatInt (n : Int) (w : World) (hn : I64 n) (ih : ∀ (m : Int) (w : World), m.natAbs < n.natAbs → I64 m → Calls Tryz.prog 25 [num m].toArray w (RetV w (strV (Lib.itoa m)))) :
    Calls Tryz.prog 25 [num n].toArray w (RetV w (strV (Lib.itoa n))) := by
  have hn1 := hn.1; have hn2 := hn.2; refine calls_in Tryz.func25 rfl Tryz.ntmps25 rfl (Sat.start w) (wp_sc (wp_sq (sq_v rfl (v_assign rfl) rfl (sq_end (qs_n (wp_sc (wp_sc (wp_sq (sq_v rfl (v_move rfl) rfl (sq_v rfl (v_lss rfl rfl) rfl (sq_end (qs_n ?_)))))))))))); refine wp_cd rfl (fun c5 => ?_) (fun c5 => ?_)
  · refine wp_sc (wp_sc (wp_sq (sq_v rfl (v_move rfl) rfl ?_))); have htn := tmod_neg (n := n) (by omega); refine sq_v rfl (v_quo rfl rfl (by omega) (by unfold I64; omega)) rfl ?_; refine sq_v rfl (v_eql rfl rfl) rfl (sq_end (qs_n ?_)); refine wp_cd rfl (fun c8 => ?_) (fun c8 => ?_)
    · refine wp_sc (wp_sq (sq_v rfl (v_move rfl) rfl ?_)); have hn9 := htn.2.2.2.2.2 c8; refine sq_v rfl (v_sub rfl rfl ((by unfold I64; omega))) rfl ?_; refine sq_v rfl (v_convK rfl Tryz.underlying5 rfl (u8_wrap (by omega))) rfl ?_; refine sq_x rfl (x_buildS [.int .u8 (48 - n)] Tryz.underlying93 ty_5 (by decide) rfl rfl rfl (by decide) (by decide) (by intro v hv; simp at hv; subst hv; rfl)) rfl ?_; intro v12 h12 (r12 : RowO 5 [.int .u8 (48 - n)] 1 1 v12 h12); refine sq_v rfl (v_convS 0 Tryz.underlying93 Tryz.underlying5 Tryz.underlying9 rfl rfl r12.toR) rfl ?_; refine sq_v rfl (v_addS rfl rfl (by first | omega | (simp only [List.length_append, List.length_cons, List.length_nil]; omega))) rfl ?_; refine sq_v rfl (v_assign rfl) rfl (sq_end (qs_n (wp_rt (qs_r (qs_r ?_))))); exact qs_ret1 rfl rfl (fin_q (i := 1) rfl (by rw [itoa_neg1 (by omega) c8]))
    · refine wp_sk (qs_n (wp_sc ?_)); refine wp_ra (σ := PH × Value) 11 (fun z_ => RowO 5 [.int .u8 (48 - (n.tmod 10))] 1 1 z_.2 z_.1) (fun z_ => [(0, num n), (2, strV ((Lib.itoa (n.tdiv 10)) ++ [UInt8.ofNat (48 - (n.tmod 10)).toNat])), (5, .bool (decide ((n : Int) < 0))), (8, .bool (decide ((n.tdiv 10 : Int) = 0)))]) (fun z_ => [z_.1, hp w]) mixed_ok (by kernel_rfl) ?_ ?_
      · refine ra_v (i := 0) (by kernel_rfl) rfl rfl (v_move rfl) rfl ?_; refine ra_v (i := 1) (by kernel_rfl) rfl rfl (v_quo rfl rfl (by omega) (by unfold I64; omega)) rfl ?_; refine ra_v (i := 3) (by kernel_rfl) rfl rfl (v_move rfl) rfl (ra_v (i := 4) (by kernel_rfl) rfl rfl (v_rem rfl rfl (by omega)) rfl ?_); refine ra_v (i := 5) (by kernel_rfl) rfl rfl (v_sub rfl rfl ((by unfold I64; omega))) rfl ?_; refine ra_v (i := 6) (by kernel_rfl) rfl rfl (v_convK rfl Tryz.underlying5 rfl (u8_wrap (by omega))) rfl ?_; refine ra_2 (i := 2) (j := 7) (by kernel_rfl) ?_ ?_
        · refine ro_u rfl rfl (x_callv rfl en_25 (fun w s => ih (n.tdiv 10) w (by omega) ⟨by omega, by omega⟩)) rfl (ra_rj [(7, false), (8, true), (9, true), (10, true)] (by kernel_rfl) rfl ?_); refine rj_x rfl rfl (x_buildS [.int .u8 (48 - (n.tmod 10))] Tryz.underlying93 ty_5 (by decide) rfl rfl rfl (by decide) (by decide) (by intro v hv; simp at hv; subst hv; rfl)) rfl ?_; intro v22 h22 (r22 : RowO 5 [.int .u8 (48 - (n.tmod 10))] 1 1 v22 h22); refine rj_v rfl rfl (v_convS 0 Tryz.underlying93 Tryz.underlying5 Tryz.underlying9 rfl rfl r22.toR) rfl ?_; have hil := itoa_len (n := n.tdiv 10) ⟨by omega, by omega⟩; refine rj_v rfl rfl (v_addS rfl rfl (by first | omega | (simp only [List.length_append, List.length_cons, List.length_nil]; omega))) rfl ?_; refine rj_v rfl rfl (v_assign rfl) rfl (rj_end ?_); exact qs_mid (h22, v22) (r22) ⟨rfl, rfl, rfl, rfl, trivial⟩ (fun _ s => s.pick [0, 1] (by decide) rfl)
        · refine ro_x rfl rfl (x_buildS [.int .u8 (48 - (n.tmod 10))] Tryz.underlying93 ty_5 (by decide) rfl rfl rfl (by decide) (by decide) (by intro v hv; simp at hv; subst hv; rfl)) rfl ?_; intro v22 h22 (r22 : RowO 5 [.int .u8 (48 - (n.tmod 10))] 1 1 v22 h22); refine ra_rj [(8, true), (2, false), (9, true), (10, true)] (by kernel_rfl) rfl (rj_v rfl rfl (v_convS 0 Tryz.underlying93 Tryz.underlying5 Tryz.underlying9 rfl rfl r22.toR) rfl (rj_u rfl rfl (x_callv rfl en_25 (fun w s => ih (n.tdiv 10) w (by omega) ⟨by omega, by omega⟩)) rfl ?_)); have hil := itoa_len (n := n.tdiv 10) ⟨by omega, by omega⟩; refine rj_v rfl rfl (v_addS rfl rfl (by first | omega | (simp only [List.length_append, List.length_cons, List.length_nil]; omega))) rfl ?_; refine rj_v rfl rfl (v_assign rfl) rfl (rj_end ?_); exact qs_mid (h22, v22) (r22) ⟨rfl, rfl, rfl, rfl, trivial⟩ (fun _ s => s.pick [0, 1] (by decide) rfl)
      · rintro ⟨h22, v22⟩ r22; dsimp only at r22 ⊢; refine qs_n (wp_rt (qs_r ?_)); exact qs_ret1 rfl rfl (fin_q (i := 1) rfl (by rw [(itoa_neg2 (by omega) c8).2]))
  · refine wp_sk (qs_n (wp_sc (wp_sq (sq_v rfl (v_assign rfl) rfl (sq_end (qs_n (wp_sc (wp_bl ?_)))))))); refine wp_lp (σ := Int × (List UInt8)) (fun z_ => [(0, num z_.1), (2, strV []), (3, strV z_.2)]) (fun z_ => [hp w]) (fun z_ => (0 ≤ z_.1 ∧ z_.1 ≤ n) ∧ Lib.itoa n = Lib.decDigits z_.1.toNat ++ z_.2) (fun z_ => z_.1.toNat) (n, []) (⟨by (try dsimp only); omega, by (try dsimp only); rw [itoa_pos (by omega), List.append_nil]⟩) ⟨(by first | rfl | exact ksub rfl (by first | omega | (simp; done) | (simp; omega))), rfl, (by first | rfl | exact ksub rfl (by first | omega | (simp; done) | (simp; omega))), trivial⟩ (fun _ s => s) ?_; rintro ⟨v, st⟩ ⟨hv, hs⟩; dsimp only at hv hs ⊢; have htv := tmod_nn hv.1; have hsl : st.length ≤ 21 := by have h9 := itoa_len hn; rw [hs, List.length_append] at h9; omega
    refine wp_sc (wp_sc (wp_sq (sq_v rfl (v_move rfl) rfl (sq_v rfl (v_gtr rfl rfl) rfl (sq_end (qs_n ?_)))))); refine wp_cd rfl (fun c26 => ?_) (fun c26 => ?_)
    · refine wp_sk (qs_n (wp_bl (wp_sc (wp_sq (sq_v rfl (v_move rfl) rfl (sq_v rfl (v_rem rfl rfl (by omega)) rfl ?_)))))); refine sq_v rfl (v_add rfl rfl ((by unfold I64; omega))) rfl ?_; refine sq_v rfl (v_convK rfl Tryz.underlying5 rfl (u8_wrap (by omega))) rfl ?_; refine sq_x rfl (x_buildS [.int .u8 (48 + (v.tmod 10))] Tryz.underlying93 ty_5 (by decide) rfl rfl rfl (by decide) (by decide) (by intro v hv; simp at hv; subst hv; rfl)) rfl ?_; intro v31 h31 (r31 : RowO 5 [.int .u8 (48 + (v.tmod 10))] 1 1 v31 h31); refine sq_v rfl (v_convS 0 Tryz.underlying93 Tryz.underlying5 Tryz.underlying9 rfl rfl r31.toR) rfl (sq_v rfl (v_move rfl) rfl ?_); refine sq_v rfl (v_addS rfl rfl (by first | omega | (simp only [List.length_append, List.length_cons, List.length_nil]; omega))) rfl ?_; refine sq_v rfl (v_assign rfl) rfl (sq_end (qs_n (wp_sq (sq_v rfl (v_move rfl) rfl ?_)))); refine sq_v rfl (v_quo rfl rfl (by omega) (by unfold I64; omega)) rfl ?_; refine sq_v rfl (v_assign rfl) rfl (sq_end (qs_bn ?_)); exact qs_bk (v.tdiv 10, [UInt8.ofNat (48 + v.tmod 10).toNat] ++ st) ⟨by (try dsimp only); omega, by (try dsimp only); rw [hs, dec_big (by omega), List.append_assoc, htv.2.2.2.2.2, show (48 + v.tmod 10).toNat = 48 + v.toNat % 10 by omega]⟩ (by simp only; omega) ⟨(by first | rfl | exact ksub rfl (by first | omega | (simp; done) | (simp; omega))), rfl, (by first | rfl | exact ksub rfl (by first | omega | (simp; done) | (simp; omega))), trivial⟩ (fun _ s => s.pick [1] (by decide) rfl)
    · refine wp_ex (qs_x (qs_x (qs_bx (qs_n (wp_sc (wp_sq (sq_v rfl (v_move rfl) rfl ?_))))))); refine sq_v rfl (v_add rfl rfl ((by unfold I64; omega))) rfl ?_; refine sq_v rfl (v_convK rfl Tryz.underlying5 rfl (u8_wrap (by omega))) rfl ?_; refine sq_x rfl (x_buildS [.int .u8 (48 + v)] Tryz.underlying93 ty_5 (by decide) rfl rfl rfl (by decide) (by decide) (by intro v hv; simp at hv; subst hv; rfl)) rfl ?_; intro v40 h40 (r40 : RowO 5 [.int .u8 (48 + v)] 1 1 v40 h40); refine sq_v rfl (v_convS 0 Tryz.underlying93 Tryz.underlying5 Tryz.underlying9 rfl rfl r40.toR) rfl (sq_v rfl (v_move rfl) rfl ?_); refine sq_v rfl (v_addS rfl rfl (by first | omega | (simp only [List.length_append, List.length_cons, List.length_nil]; omega))) rfl ?_; refine sq_v rfl (v_assign rfl) rfl (sq_end (qs_n (wp_rt ?_))); exact qs_ret1 rfl rfl (fin_q (i := 1) rfl (by rw [hs, dec_small (by omega), show (48 + v).toNat = 48 + v.toNat by omega]))
theorem ct_s_FormatInt (n : Int) (w : World) (hn : I64 n) : Calls Tryz.prog 25 [num n].toArray w (RetV w (strV (Lib.itoa n))) := by
  have key : ∀ (f : Nat) (n : Int) (w : World), n.natAbs < f → I64 n → Calls Tryz.prog 25 [num n].toArray w (RetV w (strV (Lib.itoa n))) := fun f => by
    induction f with
    | zero => intro n w h; omega
    | succ f ih => intro n w h hn; exact ct_q_FormatInt n w hn fun m w hm hm2 => ih m w (by omega) hm2
  exact key (n.natAbs + 1) n w (by omega) hn
theorem ct_i_FormatInt (n : Int) (w : World) (tb : PowR (hp w)) (hn : I64 n) : Calls Tryz.prog 34 [num n].toArray w (RetV w (strV (Lib.itoa n))) := by
  refine calls_in Tryz.func34 rfl Tryz.ntmps34 rfl (Sat.start w) (wp_sc (wp_sq (sq_v rfl (v_assign rfl) rfl (sq_end (qs_n (wp_sc (wp_sq (sq_v rfl (v_move rfl) rfl (sq_u rfl (x_callv rfl en_74 (fun w s => ct_lib_Itoa _ w (tb.mono (s.get 0 rfl)) (by first | assumption | omega))) rfl (sq_v rfl (v_assign rfl) rfl (sq_end (qs_n (wp_rt ?_))))))))))))); exact qs_ret1 rfl rfl (fin_q (i := 0) rfl (rfl))
/-- A text, or none. -/
def ifT (b : Bool) (x : List UInt8) : List UInt8 := if b then x else []
theorem join_snoc {xs : List (List UInt8)} {x sep : List UInt8} (h : xs ≠ []) : Lib.join (xs ++ [x]) sep = Lib.join xs sep ++ sep ++ x := by
  match xs, h with
  | y :: r, _ =>
    rw [List.cons_append, Lib.join_cons, Lib.join_cons, Lib.joinTail, Lib.joinTail, List.map_append, List.flatten_append]
    simp
theorem ct_s_Join (xs : List (List UInt8)) (sep : List UInt8) (v : Value) (w : World) (r : StrsR xs v (hp w)) (hl : ∀ i, i ≤ xs.length → (Lib.join (xs.take i) sep).length ≤ 1000000000) (hsp : sep.length ≤ 1000) (hx : ∀ x ∈ xs, x.length ≤ 1000000000) :
    Calls Tryz.prog 64 [v, strV sep].toArray w (RetV w (strV (Lib.join xs sep))) := by
  refine calls_in Tryz.func64 rfl Tryz.ntmps64 rfl (Sat.start w) ?_; have hle0 := r.le; refine wp_sc (wp_sq (sq_v rfl (v_assign rfl) rfl (sq_end (qs_n (wp_sc (wp_sq (sq_v rfl (v_assign rfl) rfl (sq_end (qs_n (wp_sc (wp_sc (wp_sq (sq_v rfl (v_move rfl) rfl (sq_v rfl (v_len Tryz.underlying70 rfl r.sl) rfl (sq_v rfl (v_move rfl) rfl (sq_end (qs_n (wp_bl ?_)))))))))))))))))); refine wp_lp (σ := Nat × (List UInt8)) (fun z_ => [(1, strV sep), (4, strV []), (5, strV z_.2), (8, v), (9, num xs.length), (10, num z_.1)]) (fun z_ => [hp w]) (fun z_ => z_.1 ≤ xs.length ∧ z_.2 = Lib.join (xs.take z_.1) sep) (fun z_ => xs.length - z_.1) (0, []) (⟨by (try dsimp only); omega, by (try dsimp only); rw [List.take_zero]; rfl⟩) ⟨rfl, rfl, (by first | rfl | exact ksub rfl (by first | omega | (simp; done) | (simp; omega))), rfl, rfl, (by first | rfl | exact ksub rfl (by first | omega | (simp; done) | (simp; omega))), trivial⟩ (fun _ s => s) ?_; rintro ⟨i, st⟩ ⟨hi, hs⟩; dsimp only at hi hs ⊢; have hsl : st.length ≤ 1000000000 := by rw [hs]; exact hl i hi
  refine wp_sc (wp_sq (sq_v rfl (v_lss rfl rfl) rfl (sq_end (qs_n (wp_sc ?_))))); refine wp_cd rfl (fun c11 => ?_) (fun c11 => ?_)
  · refine wp_sk (qs_n (wp_sc (wp_bl (wp_sc (wp_sq (sq_v rfl (v_move rfl) rfl ?_)))))); refine sq_v rfl (v_idxU Tryz.underlying70 ty_9 rfl rfl r (by first | omega | (simp; omega) | (simp only [List.length_append, List.length_cons, List.length_nil]; omega) | (rw [List.length_set]; omega)) (by first | omega | (simp; omega) | (simp only [List.length_append, List.length_cons, List.length_nil]; omega) | (rw [List.length_set]; omega))) rfl ?_; refine sq_v rfl (v_loadU (k := i) 0 ty_9 rfl rfl r (by first | omega | (simp; omega) | (simp only [List.length_append, List.length_cons, List.length_nil]; omega) | (rw [List.length_set]; omega))) rfl ?_; refine sq_v rfl (v_assign rfl) rfl (sq_v rfl (v_assign rfl) rfl (sq_end ?_)); have hxi : (xs.getD i []).length ≤ 1000000000 := hx _ (by simp [List.getD, show i < xs.length by omega]); have etk : xs.take (i + 1) = xs.take i ++ [xs.getD i []] := by rw [List.take_succ_eq_append_getElem (by omega)]; simp [List.getD, show i < xs.length by omega]
    refine qs_n (wp_sc (wp_sc (wp_sq (sq_v rfl (v_move rfl) rfl (sq_v rfl (v_gtr rfl rfl) rfl (sq_end (qs_n ?_))))))); refine wp_cd rfl (fun c16 => ?_) (fun c16 => ?_)
    · refine wp_sq (sq_v rfl (v_move rfl) rfl (sq_v rfl (v_move rfl) rfl ?_)); refine sq_v rfl (v_addS rfl rfl (by first | omega | (simp only [List.length_append, List.length_cons, List.length_nil]; omega))) rfl ?_; refine sq_v rfl (v_assign rfl) rfl (sq_end (qs_n (wp_sq (sq_v rfl (v_move rfl) rfl (sq_v rfl (v_move rfl) rfl ?_))))); refine sq_v rfl (v_addS rfl rfl (by first | omega | (simp only [List.length_append, List.length_cons, List.length_nil]; omega))) rfl ?_; refine sq_v rfl (v_assign rfl) rfl (sq_end (qs_bn (qs_n (wp_sq ?_)))); refine sq_v rfl (v_add rfl rfl ((by unfold I64; omega))) rfl ?_; refine sq_v rfl (v_move rfl) rfl (sq_end ?_); exact qs_bk (i + 1, st ++ sep ++ xs.getD i []) ⟨by (try dsimp only); omega, by (try dsimp only); rw [etk, join_snoc (by intro e; have := congrArg List.length e; rw [List.length_take, List.length_nil] at this; omega), hs]⟩ (by simp only; omega) ⟨rfl, rfl, (by first | rfl | exact ksub rfl (by first | omega | (simp; done) | (simp; omega))), rfl, rfl, (by first | rfl | exact ksub rfl (by first | omega | (simp; done) | (simp; omega))), trivial⟩ (fun _ s => s)
    · refine wp_sk (qs_n (wp_sq (sq_v rfl (v_move rfl) rfl (sq_v rfl (v_move rfl) rfl ?_)))); refine sq_v rfl (v_addS rfl rfl (by first | omega | (simp only [List.length_append, List.length_cons, List.length_nil]; omega))) rfl ?_; refine sq_v rfl (v_assign rfl) rfl (sq_end (qs_bn (qs_n (wp_sq ?_)))); refine sq_v rfl (v_add rfl rfl ((by unfold I64; omega))) rfl ?_; refine sq_v rfl (v_move rfl) rfl (sq_end ?_); exact qs_bk (i + 1, st ++ xs.getD i []) ⟨by (try dsimp only); omega, by (try dsimp only); have e0 : i = 0 := (by omega); subst e0; rw [etk, hs, List.take_zero, List.nil_append, Lib.join_one]; rfl⟩ (by simp only; omega) ⟨rfl, rfl, (by first | rfl | exact ksub rfl (by first | omega | (simp; done) | (simp; omega))), rfl, rfl, (by first | rfl | exact ksub rfl (by first | omega | (simp; done) | (simp; omega))), trivial⟩ (fun _ s => s)
  · refine wp_ex (qs_x (qs_x (qs_bx (qs_n (wp_sc (wp_sq (sq_v rfl (v_move rfl) rfl (sq_v rfl (v_assign rfl) rfl (sq_end (qs_n (wp_rt ?_))))))))))); exact qs_ret1 rfl rfl (fin_q (i := 0) rfl (by rw [hs, List.take_of_length_le (by omega)]))
theorem ct_i_Join (xs : List (List UInt8)) (sep : List UInt8) (v : Value) (w : World) (r : StrsR xs v (hp w)) (hs : xs.length ≤ 1048576) (hl : (Lib.join xs sep).length ≤ 140737488355328) :
    Calls Tryz.prog 36 [v, strV sep].toArray w (RetV w (strV (Lib.join xs sep))) := by
  refine calls_in Tryz.func36 rfl Tryz.ntmps36 rfl (Sat.start w) ?_; have hle0 := r.le; refine wp_sc (wp_sq (sq_v rfl (v_assign rfl) rfl (sq_end (qs_n (wp_sc (wp_sq (sq_v rfl (v_move rfl) rfl (sq_v rfl (v_move rfl) rfl (sq_u rfl (x_callv rfl en_78 (fun w s => ct_lib_Join _ _ _ w (r.mono (s.get 0 rfl)) (by first | assumption | omega) (by first | assumption | omega))) rfl (sq_v rfl (v_assign rfl) rfl (sq_end (qs_n (wp_rt ?_))))))))))))); exact qs_ret1 rfl rfl (fin_q (i := 0) rfl (rfl))
end Go.Proofs.YtiefkcaplhnnmaaGreatDoor
namespace Go.Proofs.YtiefkcaplhnnmaaGreatDoor
set_option maxRecDepth 100000
open Go.RowKit

section
variable {P : Program} {n : Nat} {w0 : World} {K : Env} {HS : List PH} {d : Option Tmp} {ty : TypeId} {ps : String} {af : Array Edge} {g : Option (Nat × Bool)}
end
theorem NetO.none : NetO [] [] (.slice none 0 0) (.slice none 0 0) emp :=
  ⟨[], emp, emp, [], ⟨rfl, .inl ⟨rfl, rfl, rfl⟩⟩, IntsO.nil, OwnL.nil, ⟨⟨fun x hx => PDj.emp _, fun x hx => PDj.emp _, trivial⟩, fun x hx => by simp at hx; subst hx; exact PLe.emp _, fun k o e => by cases e⟩⟩
theorem ten_facts {k p n : Int} {t : Ten} (h : tensorL k p n t.l t.d t.x) : dimsIn t.d ∧ 1 ≤ prodI t.d ∧ prodI t.d ≤ 4096 ∧ (t.x.length : Int) = prodI t.d * widthI k n ∧ t.l.length ≤ 12 ∧ t.d.length ≤ 12 := by
  have h1 := sizeI_ge.1 h.2.1; have h2 := sizeI_yes h1.1 h1.2; have h3 := sizeI_range t.l t.d; have h4 := h.2.2.1; have h5 := h.2.1; rw [h2] at h3 h4 h5; exact ⟨axes_dims h1.1, by omega, h1.2, h4, h1.1.1, by have := h1.1.2.1; have := h1.1.1; omega⟩
end Go.Proofs.YtiefkcaplhnnmaaGreatDoor
namespace Go.Proofs.YtiefkcaplhnnmaaGreatDoor
set_option maxRecDepth 100000
open Go.RowKit
theorem join_le {B : Nat} {sep : List UInt8} : ∀ {xs : List (List UInt8)}, (∀ x ∈ xs, x.length ≤ B) → (Lib.join xs sep).length ≤ xs.length * (B + sep.length)
  | [], _ => Nat.zero_le _
  | [x], h => by
    have := h x (by simp); rw [Lib.join_one, List.length_singleton]
    omega
  | x :: y :: r, h => by
    have ih := join_le (sep := sep) (xs := y :: r) fun z hz => h z (by simp [hz]); have hx := h x (by simp); have e : Lib.join (x :: y :: r) sep = x ++ (sep ++ Lib.join (y :: r) sep) := by
      rw [Lib.join_cons, Lib.join_cons, Lib.joinTail, Lib.joinTail, List.map_cons, List.flatten_cons, List.append_assoc]
    rw [e, List.length_append, List.length_append, List.length_cons, Nat.add_mul, Nat.one_mul]
    omega
theorem join_take_le {B : Nat} {sep : List UInt8} {xs : List (List UInt8)} (h : ∀ x ∈ xs, x.length ≤ B) (i : Nat) : (Lib.join (xs.take i) sep).length ≤ xs.length * (B + sep.length) := by
  refine Nat.le_trans (join_le fun x hx => h x (List.mem_of_mem_take hx)) (Nat.mul_le_mul_right _ ?_); rw [List.length_take]; omega
def elemT (x : List Int) : List UInt8 := Lib.join (x.map Lib.itoa) [44]
def small21 (x : List Int) : Prop := x.length ≤ 6 ∧ ∀ a ∈ x, I64 a
theorem small_itoa {x : List Int} (h : small21 x) : ∀ y ∈ x.map Lib.itoa, y.length ≤ 21 := fun y hy => by
  obtain ⟨a, ha, rfl⟩ := List.mem_map.1 hy; exact itoa_len (h.2 a ha)
theorem elemT_len {x : List Int} (h : small21 x) : (elemT x).length ≤ 132 := by
  have := join_le (sep := [44]) (small_itoa h); rw [List.length_map] at this; have h1 := h.1; have h2 : x.length * (21 + [(44 : UInt8)].length) ≤ 6 * 22 := Nat.mul_le_mul_right 22 h1; exact Nat.le_trans this h2
theorem in_small {k p n : Int} {x : List Int} (hr : ringL k p n) (h : InR k p n x) : small21 x := by
  have h1 := h.len hr; have h2 := top_range hr; exact ⟨by omega, fun a ha => by have := h.2 a ha; constructor <;> omega⟩
theorem take_mapL {xs : List Int} {f : Int → List UInt8} {i : Nat} (h : i < xs.length) : (xs.map f).take (i + 1) = (xs.map f).take i ++ [f (xs.getD i 0)] := by
  rw [List.take_succ_eq_append_getElem (by simpa using h)]
  simp [List.getD, h]
theorem ct_s_l02ElemIn (k p n : Int) (xs : List Int) (v : Value) (w : World) (r : IntsR xs v (hp w)) (hr : ringL k p n) (hx : InR k p n xs) : Calls Tryz.prog 119 [ringV k p n, v].toArray w (RetV w (.bool true)) := by
  have hl := hx.len hr; refine calls_in Tryz.func119 rfl Tryz.ntmps119 rfl (Sat.start w) ?_; have hle0 := r.le; refine wp_sc (wp_sq ?_); refine sq_x rfl (x_box rfl rfl) rfl ?_; rintro _ _ ⟨b2, rfl, rfl⟩; refine sq_v rfl (v_assign rfl) rfl (sq_end (qs_n (wp_sc (wp_sc (wp_sq (sq_v rfl (v_move rfl) rfl (sq_v rfl (v_len Tryz.underlying25 rfl r.sl) rfl (sq_v rfl (v_move rfl) rfl (sq_end (qs_n (wp_bl ?_))))))))))); refine wp_lp (σ := Nat) (fun z_ => [(1, v), (2, .pointer (some ⟨b2, 0, none⟩)), (4, .bool false), (7, v), (8, num xs.length), (9, num z_)]) (fun z_ => [box b2 [num k, num p, num n] 36, hp w]) (fun z_ => z_ ≤ xs.length) (fun z_ => xs.length - z_) 0 (by omega) ⟨rfl, rfl, rfl, rfl, rfl, (by first | rfl | exact ksub rfl (by first | omega | (simp; done) | (simp; omega))), trivial⟩ (fun _ s => s) ?_; rintro i hi; refine wp_sc (wp_sq (sq_v rfl (v_lss rfl rfl) rfl (sq_end (qs_n (wp_sc ?_))))); refine wp_cd rfl (fun c10 => ?_) (fun c10 => ?_)
  · refine wp_sk (qs_n (wp_sc (wp_bl (wp_sc (wp_sq ?_))))); refine sq_v rfl (v_idxI Tryz.underlying25 ty_3 rfl rfl r (by first | omega | (simp; omega) | (simp only [List.length_append, List.length_cons, List.length_nil]; omega) | (rw [List.length_set]; omega)) (by first | omega | (simp; omega) | (simp only [List.length_append, List.length_cons, List.length_nil]; omega) | (rw [List.length_set]; omega))) rfl ?_; refine sq_v rfl (v_loadI (k := i) 1 ty_3 rfl rfl r (by first | omega | (simp; omega) | (simp only [List.length_append, List.length_cons, List.length_nil]; omega) | (rw [List.length_set]; omega))) rfl ?_; refine sq_v rfl (v_assign rfl) rfl (sq_end (qs_n (wp_sc (wp_sq (sq_v rfl (v_move rfl) rfl (sq_v rfl (v_loadNB 0 ty_36 rfl rfl rfl rfl) rfl (sq_u rfl (x_callv rfl en_97 (fun w s => ct_s_l02Top _ _ _ w hr)) rfl (sq_u rfl (x_callv rfl en_59 (fun w s => ct_s_l01In _ _ _ w)) rfl (sq_v rfl (v_not rfl) rfl (sq_end ?_)))))))))); have hxi := hx.at hr i (by omega); refine qs_n ?_; refine wp_cnd rfl (fun c17 => ?_) (fun c17 => ?_)
    · refine wp_sc (wp_sq (sq_v rfl (v_assign rfl) rfl (sq_end (qs_n (wp_rt (qs_br (qs_r (qs_r (qs_br (qs_r ?_)))))))))); exact qs_ret1 rfl rfl (fin_q (i := 1) rfl (by exfalso; omega))
    · refine wp_sk (qs_bn (qs_n (wp_sq ?_))); refine sq_v rfl (v_add rfl rfl ((by unfold I64; omega))) rfl ?_; refine sq_v rfl (v_move rfl) rfl (sq_end ?_); exact qs_bk (i + 1) (by omega) (by omega) ⟨rfl, rfl, rfl, rfl, rfl, (by first | rfl | exact ksub rfl (by first | omega | (simp; done) | (simp; omega))), trivial⟩ (fun _ s => s)
  · refine wp_ex (qs_x (qs_x (qs_bx (qs_n (wp_sc (wp_sq (sq_v rfl (v_move rfl) rfl (sq_v rfl (v_len Tryz.underlying25 rfl r.sl) rfl (sq_v rfl (v_loadNB 0 ty_36 rfl rfl rfl rfl) rfl (sq_u rfl (x_callv rfl en_96 (fun w s => ct_s_l02Width _ _ _ w)) rfl (sq_v rfl (v_eql rfl rfl) rfl (sq_v rfl (v_assign rfl) rfl (sq_end (qs_n (wp_rt ?_))))))))))))))); exact qs_ret1 rfl rfl (fin_q (i := 1) rfl (by rw [decide_eq_true hl.2.2]))
theorem ct_s_ElemOkIn (k p n : Int) (xs : List Int) (v : Value) (w : World) (r : IntsR xs v (hp w)) (hr : ringL k p n) (hx : InR k p n xs) : Calls Tryz.prog 99 [ringV k p n, v].toArray w (RetV w (.bool true)) := by
  have hb := ringB_true.2 hr; refine calls_in Tryz.func99 rfl Tryz.ntmps99 rfl (Sat.start w) ?_; have hle0 := r.le; refine wp_sc (wp_sq ?_); refine sq_x rfl (x_box rfl rfl) rfl ?_; rintro _ _ ⟨b2, rfl, rfl⟩; refine sq_v rfl (v_assign rfl) rfl (sq_end (qs_n (wp_sc (wp_sq (sq_v rfl (v_loadNB 0 ty_36 rfl rfl rfl rfl) rfl (sq_u rfl (x_callv rfl en_95 (fun w s => ct_s_RingOk _ _ _ w)) rfl ?_)))))); refine sq_bb 6 rfl (fun c6 => ?_) (fun c6 => ?_)
  · refine sq_v rfl (v_move rfl) rfl (sq_v rfl (v_loadNB 0 ty_36 rfl rfl rfl rfl) rfl (sq_v rfl (v_move rfl) rfl (sq_u rfl (x_callv rfl en_119 (fun w s => ct_s_l02ElemIn _ _ _ _ _ w (r.mono (s.get 1 rfl)) hr hx)) rfl (sq_v rfl (v_pickt rfl rfl) rfl (sq_v rfl (v_assign rfl) rfl (sq_end (qs_n (wp_rt ?_)))))))); exact qs_ret1 rfl rfl (fin_q (i := 1) rfl (rfl))
  · refine sq_v rfl (v_move rfl) rfl (sq_s rfl rfl (sq_s rfl rfl (sq_s rfl rfl (sq_v rfl (v_pickf rfl rfl) rfl (sq_v rfl (v_assign rfl) rfl (sq_end (qs_n (wp_rt ?_)))))))); exact qs_ret1 rfl rfl (fin_q (i := 1) rfl (absurd (hb.symm.trans c6) (by decide)))
theorem ct_s_FormatElemIn (k p n : Int) (xs : List Int) (v : Value) (w : World) (r : IntsR xs v (hp w)) (hr : ringL k p n) (hx : InR k p n xs) : Calls Tryz.prog 66 [ringV k p n, v].toArray w (RetV w (strV (elemT xs))) := by
  have hsm := in_small hr hx; have hsl := hsm.1; refine calls_in Tryz.func66 rfl Tryz.ntmps66 rfl (Sat.start w) ?_; have hle0 := r.le; refine wp_sc (wp_sq ?_); refine sq_x rfl (x_box rfl rfl) rfl ?_; rintro _ _ ⟨b2, rfl, rfl⟩; refine sq_v rfl (v_assign rfl) rfl (sq_end (qs_n (wp_sc (wp_sc (wp_sq (sq_v rfl (v_loadNB 0 ty_36 rfl rfl rfl rfl) rfl (sq_v rfl (v_move rfl) rfl (sq_u rfl (x_callv rfl en_99 (fun w s => ct_s_ElemOkIn _ _ _ _ _ w (r.mono (s.get 1 rfl)) hr hx)) rfl (sq_v rfl (v_not rfl) rfl (sq_end (qs_n (wp_cf rfl (wp_sk (qs_n (wp_sc (wp_sq ?_)))))))))))))))); refine sq_x rfl (x_build0 Tryz.underlying70 ty_9) rfl ?_; intro v12 h12 (r12 : StrsO [] v12 h12); refine sq_v rfl (v_assign rfl) rfl (sq_end (qs_n (wp_sc (wp_sc (wp_sq (sq_v rfl (v_move rfl) rfl (sq_v rfl (v_len Tryz.underlying25 rfl r.sl) rfl (sq_v rfl (v_move rfl) rfl (sq_end (qs_n (wp_bl ?_))))))))))); refine wp_lp (σ := Nat × Value × PH) (fun z_ => [(4, strV []), (5, z_.2.1), (13, v), (14, num xs.length), (15, num z_.1)]) (fun z_ => [z_.2.2, box b2 [num k, num p, num n] 36, hp w]) (fun z_ => z_.1 ≤ xs.length ∧ StrsO ((xs.map Lib.itoa).take z_.1) z_.2.1 z_.2.2) (fun z_ => xs.length - z_.1) (0, v12, h12) (⟨by (try dsimp only); omega, r12⟩) ⟨rfl, (by first | rfl | exact ksub rfl (by first | omega | (simp; done) | (simp; omega))), rfl, rfl, (by first | rfl | exact ksub rfl (by first | omega | (simp; done) | (simp; omega))), trivial⟩ (fun _ s => s) ?_; rintro ⟨i, vx, hx⟩ ⟨hi, q⟩; dsimp only at hi q ⊢; refine wp_sc (wp_sq (sq_v rfl (v_lss rfl rfl) rfl (sq_end (qs_n (wp_sc ?_))))); refine wp_cd rfl (fun c16 => ?_) (fun c16 => ?_)
  · refine wp_sk (qs_n (wp_sc (wp_bl (wp_sc (wp_sq ?_))))); refine sq_v rfl (v_idxI Tryz.underlying25 ty_3 rfl rfl r (by first | omega | (simp; omega) | (simp only [List.length_append, List.length_cons, List.length_nil]; omega) | (rw [List.length_set]; omega)) (by first | omega | (simp; omega) | (simp only [List.length_append, List.length_cons, List.length_nil]; omega) | (rw [List.length_set]; omega))) rfl ?_; refine sq_v rfl (v_loadI (k := i) 2 ty_3 rfl rfl r (by first | omega | (simp; omega) | (simp only [List.length_append, List.length_cons, List.length_nil]; omega) | (rw [List.length_set]; omega))) rfl ?_; refine sq_v rfl (v_assign rfl) rfl (sq_end (qs_n (wp_sq (sq_v rfl (v_move rfl) rfl (sq_v rfl (v_move rfl) rfl (sq_u rfl (x_callv rfl en_25 (fun w s => ct_s_FormatInt _ w (hsm.2 _ (mem_getD (by omega))))) rfl ?_)))))); refine sq_x rfl (x_buildS [strV (Lib.itoa (xs.getD i 0))] Tryz.underlying70 ty_9 (by decide) rfl rfl rfl (by decide) (by decide) (by intro v hv; simp at hv; rcases hv with rfl <;> rfl)) rfl ?_; intro v22 h22 (r22 : StrsO [(Lib.itoa (xs.getD i 0))] v22 h22); refine sq_m 1 rfl rfl (m_appU 1 0 Tryz.underlying70 ty_9 rfl rfl rfl rfl q rfl r22.toR (by first | omega | (simp; omega) | (simp only [List.length_append, List.length_cons, List.length_nil]; omega) | (rw [List.length_set]; omega))) rfl ?_; intro v23 h_r23 r23; refine sq_v rfl (v_assign rfl) rfl (sq_end (qs_bn (qs_n (wp_sq ?_)))); refine sq_v rfl (v_add rfl rfl ((by unfold I64; omega))) rfl ?_; refine sq_v rfl (v_move rfl) rfl (sq_end ?_); exact qs_bk (i + 1, v23, h_r23) ⟨by (try dsimp only); omega, by (try dsimp only); rw [take_mapL (by omega)]; exact r23⟩ (by simp only; omega) ⟨rfl, (by first | rfl | exact ksub rfl (by first | omega | (simp; done) | (simp; omega))), rfl, rfl, (by first | rfl | exact ksub rfl (by first | omega | (simp; done) | (simp; omega))), trivial⟩ (fun _ s => s.pick [1, 2, 3] (by decide) rfl)
  · refine wp_ex (qs_x (qs_x (qs_bx (qs_n (wp_sc (wp_sq (sq_v rfl (v_move rfl) rfl ?_))))))); refine sq_u rfl (x_callv rfl en_64 (fun w s => ct_s_Join _ _ _ w (by have e : (xs.map Lib.itoa).take i = xs.map Lib.itoa := List.take_of_length_le (by rw [List.length_map]; omega); rw [e] at q; exact q.toR.mono (s.get 0 rfl)) (fun j _ => Nat.le_trans (join_take_le (small_itoa hsm) j) (by rw [List.length_map]; have := Nat.mul_le_mul_right 22 hsl; exact Nat.le_trans this (by decide))) (by decide) (fun x hx => Nat.le_trans (small_itoa hsm x hx) (by decide)))) rfl ?_; refine sq_v rfl (v_assign rfl) rfl (sq_end (qs_n (wp_rt ?_))); exact qs_ret1 rfl rfl (fin_q (i := 2) rfl (rfl))
theorem fill_step {xs : List Int} {f : Int → List UInt8} {i : Nat} (h : i < xs.length) : ((xs.map f).take i ++ List.replicate (xs.length - i) []).set i (f (xs.getD i 0)) = (xs.map f).take (i + 1) ++ List.replicate (xs.length - (i + 1)) [] := by
  rw [List.set_append_right _ _ (by simp; omega), show xs.length - i = (xs.length - (i + 1)) + 1 by omega, List.replicate_succ, take_mapL h, List.length_take, List.length_map, show i - min i xs.length = 0 by omega, List.set_cons_zero, List.append_assoc]
  rfl
theorem ct_i_rawElemText (xs : List Int) (v : Value) (w : World) (tb : PowR (hp w)) (r : IntsR xs v (hp w)) (hsm : small21 xs) : Calls Tryz.prog 76 [v].toArray w (RetV w (strV (elemT xs))) := by
  have hsl := hsm.1; refine calls_in Tryz.func76 rfl Tryz.ntmps76 rfl (Sat.start w) ?_; have hle0 := r.le; refine wp_sc (wp_sq (sq_v rfl (v_assign rfl) rfl (sq_end (qs_n (wp_sc (wp_sq (sq_v rfl (v_move rfl) rfl (sq_v rfl (v_len Tryz.underlying25 rfl r.sl) rfl ?_)))))))); refine sq_x rfl (x_makeU Tryz.underlying70 ty_9 rfl rfl (by first | omega | (simp; omega) | (simp only [List.length_append, List.length_cons, List.length_nil]; omega) | (rw [List.length_set]; omega)) (by first | omega | (simp; omega) | (simp only [List.length_append, List.length_cons, List.length_nil]; omega) | (rw [List.length_set]; omega)) (by first | omega | (simp; omega) | (simp only [List.length_append, List.length_cons, List.length_nil]; omega) | (rw [List.length_set]; omega))) rfl ?_; intro v8 h8 r8; refine sq_v rfl (v_assign rfl) rfl (sq_end (qs_n (wp_sc (wp_sc (wp_sq (sq_v rfl (v_move rfl) rfl (sq_v rfl (v_len Tryz.underlying25 rfl r.sl) rfl (sq_v rfl (v_move rfl) rfl (sq_end (qs_n (wp_bl ?_))))))))))); refine wp_lp (σ := Nat × PH) (fun z_ => [(2, strV []), (3, v8), (9, v), (10, num xs.length), (11, num z_.1)]) (fun z_ => [z_.2, hp w]) (fun z_ => z_.1 ≤ xs.length ∧ StrsO ((xs.map Lib.itoa).take z_.1 ++ List.replicate (xs.length - z_.1) []) v8 z_.2) (fun z_ => xs.length - z_.1) (0, h8) (⟨by (try dsimp only); omega, by (try dsimp only); rw [List.take_zero]; simpa using r8⟩) ⟨rfl, rfl, rfl, rfl, (by first | rfl | exact ksub rfl (by first | omega | (simp; done) | (simp; omega))), trivial⟩ (fun _ s => s) ?_; rintro ⟨i, hx⟩ ⟨hi, q⟩; dsimp only at hi q ⊢; refine wp_sc (wp_sq (sq_v rfl (v_lss rfl rfl) rfl (sq_end (qs_n (wp_sc ?_))))); refine wp_cd rfl (fun c12 => ?_) (fun c12 => ?_)
  · refine wp_sk (qs_n (wp_sc (wp_bl (wp_sc (wp_sq (sq_v rfl (v_move rfl) rfl ?_)))))); refine sq_v rfl (v_idxI Tryz.underlying25 ty_3 rfl rfl r (by first | omega | (simp; omega) | (simp only [List.length_append, List.length_cons, List.length_nil]; omega) | (rw [List.length_set]; omega)) (by first | omega | (simp; omega) | (simp only [List.length_append, List.length_cons, List.length_nil]; omega) | (rw [List.length_set]; omega))) rfl ?_; refine sq_v rfl (v_loadI (k := i) 1 ty_3 rfl rfl r (by first | omega | (simp; omega) | (simp only [List.length_append, List.length_cons, List.length_nil]; omega) | (rw [List.length_set]; omega))) rfl ?_; refine sq_v rfl (v_assign rfl) rfl (sq_v rfl (v_assign rfl) rfl (sq_end (qs_n (wp_sq (sq_v rfl (v_move rfl) rfl (sq_v rfl (v_move rfl) rfl (sq_v rfl (v_move rfl) rfl (sq_u rfl (x_callv rfl en_34 (fun w s => ct_i_FormatInt _ w (tb.mono (s.get 1 rfl)) (hsm.2 _ (mem_getD (by omega))))) rfl ?_)))))))); refine sq_v rfl (v_idxU Tryz.underlying70 ty_9 rfl rfl q.toR (by omega) (by simp; omega)) rfl ?_; refine sq_m 0 rfl rfl (m_storeU (k := i) 0 ty_9 rfl rfl rfl q (by simp; omega)) rfl ?_; rintro _ h_q5 ⟨rfl, q5⟩; refine sq_end (qs_bn (qs_n (wp_sq ?_))); refine sq_v rfl (v_add rfl rfl ((by unfold I64; omega))) rfl ?_; refine sq_v rfl (v_move rfl) rfl (sq_end ?_); exact qs_bk (i + 1, h_q5) ⟨by (try dsimp only); omega, by (try dsimp only); rw [fill_step (by omega)] at q5; exact q5⟩ (by simp only; omega) ⟨rfl, rfl, rfl, rfl, (by first | rfl | exact ksub rfl (by first | omega | (simp; done) | (simp; omega))), trivial⟩ (fun _ s => s)
  · refine wp_ex (qs_x (qs_x (qs_bx (qs_n (wp_sc (wp_sq (sq_v rfl (v_move rfl) rfl ?_))))))); refine sq_u rfl (x_callv rfl en_36 (fun w s => ct_i_Join (xs.map Lib.itoa) _ _ w (by have e : (xs.map Lib.itoa).take i ++ List.replicate (xs.length - i) [] = xs.map Lib.itoa := (by rw [show xs.length - i = 0 by omega, List.take_of_length_le (by rw [List.length_map]; omega)]; simp); rw [e] at q; exact q.toR.mono (s.get 0 rfl)) (by rw [List.length_map]; omega) (Nat.le_trans (elemT_len hsm) (by decide)))) rfl ?_; refine sq_v rfl (v_assign rfl) rfl (sq_end (qs_n (wp_rt ?_))); exact qs_ret1 rfl rfl (fin_q (i := 1) rfl (rfl))
end Go.Proofs.YtiefkcaplhnnmaaGreatDoor
namespace Go.Proofs.YtiefkcaplhnnmaaGreatDoor
set_option maxRecDepth 100000
open Go.RowKit
def axT (l d : Int) : List UInt8 := Lib.itoa l ++ [58] ++ Lib.itoa d
def axW (t : Ten) (i : Nat) : List (List UInt8) := (List.range i).map fun j => axT (t.l.getD j 0) (t.d.getD j 0)
def elW (k n : Int) (t : Ten) (m : Nat) : List (List UInt8) := (List.range m).map fun (j : Nat) => elemT (elt t.x (widthI k n) j)
def tenW (k n : Int) (t : Ten) : List (List UInt8) := axW t t.l.length ++ [[61]] ++ elW k n t (prodI t.d).toNat
def tenTx (k n : Int) (t : Ten) : List UInt8 := Lib.join (tenW k n t) [32]
theorem axW_step (t : Ten) (i : Nat) : axW t (i + 1) = axW t i ++ [Lib.itoa (t.l.getD i 0) ++ [58] ++ Lib.itoa (t.d.getD i 0)] := by simp [axW, List.range_succ, axT]
theorem elW_step (k n : Int) (t : Ten) (m : Nat) : elW k n t (m + 1) = elW k n t m ++ [elemT (elt t.x (widthI k n) m)] := by simp [elW, List.range_succ]
theorem axW_len (t : Ten) (i : Nat) : (axW t i).length = i := by simp [axW]
theorem elW_len (k n : Int) (t : Ten) (i : Nat) : (elW k n t i).length = i := by simp [elW]
section
variable {k p n : Int} {t : Ten}
theorem ten_i64 (h : tensorL k p n t.l t.d t.x) {i : Nat} (hi : i < t.l.length) : I64 (t.l.getD i 0) ∧ I64 (t.d.getD i 0) := by
  have ha := (sizeI_ge.1 h.2.1).1; have h1 := ha.2.2 i hi
  unfold axP at h1
  constructor <;> constructor <;> omega
theorem ten_el (h : tensorL k p n t.l t.d t.x) {j : Nat} (hj : (j : Int) < prodI t.d) : (j : Int) * widthI k n + widthI k n ≤ t.x.length ∧ small21 (elt t.x (widthI k n) j) ∧ InR k p n (elt t.x (widthI k n) j) := by
  have hw := width_range h.1; have h1 := ten_facts h; have hi := elt_inR h (i := (j : Int)) (by omega) hj; refine ⟨?_, in_small h.1 hi, hi⟩; have h2 : ((j : Int) + 1) * widthI k n ≤ prodI t.d * widthI k n := Int.mul_le_mul_of_nonneg_right (by omega) (by omega); rw [Int.add_mul, Int.one_mul] at h2
  omega
theorem ten_xlen (h : tensorL k p n t.l t.d t.x) : (t.x.length : Int) ≤ 24576 := by
  have h1 := ten_facts h; have hw := width_range h.1; have h2 : prodI t.d * widthI k n ≤ 4096 * 6 := Int.mul_le_mul h1.2.2.1 hw.2 (by omega) (by omega)
  omega
theorem tenW_small (h : tensorL k p n t.l t.d t.x) : (tenW k n t).length ≤ 4109 ∧ ∀ y ∈ tenW k n t, y.length ≤ 132 := by
  have h1 := ten_facts h
  constructor
  · unfold tenW
    rw [List.length_append, List.length_append, axW_len, elW_len]; simp only [List.length_cons, List.length_nil]
    omega
  · intro y hy
    unfold tenW at hy
    rcases List.mem_append.1 hy with hy | hy
    · rcases List.mem_append.1 hy with hy | hy
      · obtain ⟨j, hj, rfl⟩ := List.mem_map.1 hy; have h2 := ten_i64 h (List.mem_range.1 hj); have h3 := itoa_len h2.1; have h4 := itoa_len h2.2; simp only [axT, List.length_append, List.length_cons, List.length_nil]
        omega
      · rw [List.mem_singleton.1 hy]; decide
    · obtain ⟨j, hj, rfl⟩ := List.mem_map.1 hy; have hj := List.mem_range.1 hj; exact elemT_len (ten_el h (j := j) (by omega)).2.1
theorem tenTx_len (h : tensorL k p n t.l t.d t.x) : (tenTx k n t).length ≤ 546497 := by
  have h1 := tenW_small h; have h2 := join_le (sep := [32]) h1.2; have h3 := Nat.mul_le_mul_right 133 h1.1; exact Nat.le_trans h2 (Nat.le_trans h3 (by decide))
theorem tenTx_take (h : tensorL k p n t.l t.d t.x) (i : Nat) : (Lib.join ((tenW k n t).take i) [32]).length ≤ 1000000000 := by
  have h1 := tenW_small h; have h2 := join_take_le (sep := [32]) h1.2 i; have h3 := Nat.mul_le_mul_right 133 h1.1; exact Nat.le_trans h2 (Nat.le_trans h3 (by decide))
theorem ten_no (h : tensorB k p n t.l t.d t.x = false) : strV [] = strV (ifT (tensorB k p n t.l t.d t.x) (tenTx k n t)) := by rw [h]; rfl
theorem ten_yes (h : tensorB k p n t.l t.d t.x = true) : strV (tenTx k n t) = strV (ifT (tensorB k p n t.l t.d t.x) (tenTx k n t)) := by rw [h]; rfl
theorem ten_done {q : List (List UInt8)} {j : Nat} (h : tensorL k p n t.l t.d t.x) (hj : (j : Int) = prodI t.d) (hq : q = axW t t.l.length ++ [[61]] ++ elW k n t j) : q = tenW k n t := by
  rw [hq, tenW, show (prodI t.d).toNat = j by omega]
end
theorem tensorB_iff {k p n : Int} {t : Ten} : tensorB k p n t.l t.d t.x = true ↔ tensorL k p n t.l t.d t.x := by simp [tensorB]
set_option maxHeartbeats 2000000 in
theorem ct_s_FormatTensor (k p n : Int) (t : Ten) (a b c : Value) (w : World) (r1 : IntsR t.l a (hp w)) (r2 : IntsR t.d b (hp w)) (r3 : IntsR t.x c (hp w)) :
    Calls Tryz.prog 26 [ringV k p n, tenV a b c].toArray w (RetV w (strV (ifT (tensorB k p n t.l t.d t.x) (tenTx k n t)))) := by
  refine calls_in Tryz.func26 rfl Tryz.ntmps26 rfl (Sat.start w) ?_; have hle0 := r1.le; have hle1 := r2.le; have hle2 := r3.le; refine wp_sc (wp_sq ?_); refine sq_x rfl (x_box rfl rfl) rfl ?_; rintro _ _ ⟨b2, rfl, rfl⟩; refine sq_x rfl (x_box rfl rfl) rfl ?_; rintro _ _ ⟨b3, rfl, rfl⟩; refine sq_v rfl (v_assign rfl) rfl (sq_end (qs_n (wp_sc (wp_sc (wp_sq (sq_v rfl (v_loadNB 1 ty_36 rfl rfl rfl rfl) rfl (sq_v rfl (v_loadNB 0 ty_42 rfl rfl rfl rfl) rfl (sq_u rfl (x_callv rfl en_61 (fun w s => ct_s_TensorOk _ _ _ _ _ _ _ _ _ w (r1.mono (s.get 2 rfl)) (r2.mono (s.get 2 rfl)) (r3.mono (s.get 2 rfl)))) rfl (sq_v rfl (v_not rfl) rfl (sq_end (qs_n ?_))))))))))); refine wp_cn _ rfl (fun c12 => ?_) (fun c12 => ?_)
  · refine wp_sc (wp_sq (sq_v rfl (v_assign rfl) rfl (sq_end (qs_n (wp_rt (qs_r ?_)))))); exact qs_ret1 rfl rfl (fin_q (i := 2) rfl (ten_no c12))
  · refine wp_sk (qs_n (wp_sc (wp_sq ?_))); refine sq_x rfl (x_build0 Tryz.underlying70 ty_9) rfl ?_; intro v13 h13 (r13 : StrsO [] v13 h13); refine sq_v rfl (v_assign rfl) rfl (sq_end (qs_n (wp_sc (wp_sc (wp_sq (sq_v rfl (v_fieldAddr fd_42_0 ty_25 (by decide) rfl) rfl (sq_v rfl (v_loadB 1 ty_25 rfl rfl rfl) rfl ?_))))))); have ht := tensorB_iff.1 c12; have hr := ht.1; have hf := ten_facts ht; have hlen : t.l.length = t.d.length := (sizeI_ge.1 ht.2.1).1.2.1; have hwd := width_range hr; have hxl := ten_xlen ht; refine sq_v rfl (v_len Tryz.underlying25 rfl r1.sl) rfl (sq_v rfl (v_move rfl) rfl (sq_end (qs_n (wp_bl ?_)))); refine wp_lp (σ := Nat × Value × PH) (fun z_ => [(2, .pointer (some ⟨b2, 0, none⟩)), (3, .pointer (some ⟨b3, 0, none⟩)), (4, strV []), (5, z_.2.1), (15, a), (16, num t.l.length), (17, num z_.1)]) (fun z_ => [z_.2.2, box b3 [a, b, c] 42, box b2 [num k, num p, num n] 36, hp w]) (fun z_ => z_.1 ≤ t.l.length ∧ StrsO (axW t z_.1) z_.2.1 z_.2.2) (fun z_ => t.l.length - z_.1) (0, v13, h13) (⟨by (try dsimp only); omega, r13⟩) ⟨rfl, rfl, rfl, (by first | rfl | exact ksub rfl (by first | omega | (simp; done) | (simp; omega))), rfl, rfl, (by first | rfl | exact ksub rfl (by first | omega | (simp; done) | (simp; omega))), trivial⟩ (fun _ s => s) ?_; rintro ⟨i, vx, hx⟩ ⟨hi, q⟩; dsimp only at hi q ⊢; have hal := axW_len t i; refine wp_sc (wp_sq (sq_v rfl (v_lss rfl rfl) rfl (sq_end (qs_n (wp_sc ?_))))); refine wp_cd rfl (fun c18 => ?_) (fun c18 => ?_)
    · refine wp_sk (qs_n (wp_sc (wp_bl (wp_sc (wp_sq (sq_v rfl (v_move rfl) rfl ?_)))))); refine sq_v rfl (v_idxI Tryz.underlying25 ty_3 rfl rfl r1 (by first | omega | (simp; omega) | (simp only [List.length_append, List.length_cons, List.length_nil]; omega) | (rw [List.length_set]; omega)) (by first | omega | (simp; omega) | (simp only [List.length_append, List.length_cons, List.length_nil]; omega) | (rw [List.length_set]; omega))) rfl ?_; refine sq_v rfl (v_loadI (k := i) 3 ty_3 rfl rfl r1 (by first | omega | (simp; omega) | (simp only [List.length_append, List.length_cons, List.length_nil]; omega) | (rw [List.length_set]; omega))) rfl ?_; refine sq_v rfl (v_assign rfl) rfl (sq_v rfl (v_assign rfl) rfl (sq_end (qs_n (wp_rj 12 [(0, true), (1, true), (4, true), (5, true), (6, true), (7, true), (8, true), (2, false), (3, true), (9, false), (10, true), (11, false), (12, false), (13, false)] mixed_ok (by kernel_rfl) ?_)))); have hI := ten_i64 ht (i := i) (by omega); have hI1 := hI.1; have hI2 := hI.2; have hL1 := itoa_len hI1; have hL2 := itoa_len hI2; refine rj_v rfl rfl (v_move rfl) rfl (rj_v rfl rfl (v_move rfl) rfl (rj_v rfl rfl (v_fieldAddr fd_42_1 ty_25 (by decide) rfl) rfl (rj_v rfl rfl (v_loadB 1 ty_25 rfl rfl rfl) rfl (rj_v rfl rfl (v_move rfl) rfl ?_)))); refine rj_v rfl rfl (v_idxI Tryz.underlying25 ty_3 rfl rfl r2 (by first | omega | (simp; omega) | (simp only [List.length_append, List.length_cons, List.length_nil]; omega) | (rw [List.length_set]; omega)) (by first | omega | (simp; omega) | (simp only [List.length_append, List.length_cons, List.length_nil]; omega) | (rw [List.length_set]; omega))) rfl ?_; refine rj_v rfl rfl (v_loadI (k := i) 3 ty_3 rfl rfl r2 (by first | omega | (simp; omega) | (simp only [List.length_append, List.length_cons, List.length_nil]; omega) | (rw [List.length_set]; omega))) rfl ?_; refine rj_u rfl rfl (x_callv rfl en_25 (fun w s => ct_s_FormatInt _ w (by first | assumption | omega))) rfl ?_; refine rj_v rfl rfl (v_addS rfl rfl (by first | omega | (simp only [List.length_append, List.length_cons, List.length_nil]; omega))) rfl ?_; refine rj_u rfl rfl (x_callv rfl en_25 (fun w s => ct_s_FormatInt _ w (by first | assumption | omega))) rfl ?_; refine rj_v rfl rfl (v_addS rfl rfl (by first | omega | (simp only [List.length_append, List.length_cons, List.length_nil]; omega))) rfl ?_; refine rj_x rfl rfl (x_buildS [strV (((Lib.itoa (t.l.getD i 0)) ++ [58]) ++ (Lib.itoa (t.d.getD i 0)))] Tryz.underlying70 ty_9 (by decide) rfl rfl rfl (by decide) (by decide) (by intro v hv; simp at hv; rcases hv with rfl <;> rfl)) rfl ?_; intro v33 h33 (r33 : StrsO [(((Lib.itoa (t.l.getD i 0)) ++ [58]) ++ (Lib.itoa (t.d.getD i 0)))] v33 h33); refine rj_m 1 rfl rfl rfl rfl (m_appU 1 0 Tryz.underlying70 ty_9 rfl rfl rfl rfl q rfl r33.toR (by first | omega | (simp; omega) | (simp only [List.length_append, List.length_cons, List.length_nil]; omega) | (rw [List.length_set]; omega))) rfl ?_; intro v34 h_r34 r34; refine rj_fv rfl rfl (v_assign rfl) rfl (rj_end (qs_bn (qs_n (wp_sq ?_)))); refine sq_v rfl (v_add rfl rfl ((by unfold I64; omega))) rfl ?_; refine sq_v rfl (v_move rfl) rfl (sq_end ?_); exact qs_bk (i + 1, v34, h_r34) ⟨by (try dsimp only); omega, by (try dsimp only); rw [axW_step]; exact r34⟩ (by simp only; omega) ⟨rfl, rfl, rfl, (by first | rfl | exact ksub rfl (by first | omega | (simp; done) | (simp; omega))), rfl, rfl, (by first | rfl | exact ksub rfl (by first | omega | (simp; done) | (simp; omega))), trivial⟩ (fun _ s => s.pick [1, 2, 3, 4] (by decide) rfl)
    · refine wp_ex (qs_x (qs_x (qs_bx (qs_n (wp_sc (wp_sq (sq_v rfl (v_move rfl) rfl ?_))))))); refine sq_x rfl (x_buildS [strV [61]] Tryz.underlying70 ty_9 (by decide) rfl rfl rfl (by decide) (by decide) (by intro v hv; simp at hv; rcases hv with rfl <;> rfl)) rfl ?_; intro v37 h37 (r37 : StrsO [[61]] v37 h37); refine sq_m 1 rfl rfl (m_appU 1 0 Tryz.underlying70 ty_9 rfl rfl rfl rfl q rfl r37.toR (by first | omega | (simp; omega) | (simp only [List.length_append, List.length_cons, List.length_nil]; omega) | (rw [List.length_set]; omega))) rfl ?_; intro v38 h_r38 r38; refine sq_v rfl (v_assign rfl) rfl (sq_end ?_); have e0 : axW t i = axW t t.l.length := by rw [show i = t.l.length by omega]
      rw [e0] at r38; refine qs_n (wp_sc (wp_sc (wp_sq (sq_v rfl (v_assign rfl) rfl (sq_end (qs_n (wp_bl ?_))))))); refine wp_lp (σ := Nat × Value × PH) (fun z_ => [(2, .pointer (some ⟨b2, 0, none⟩)), (3, .pointer (some ⟨b3, 0, none⟩)), (4, strV []), (5, z_.2.1), (8, num z_.1)]) (fun z_ => [h37, z_.2.2, box b3 [a, b, c] 42, box b2 [num k, num p, num n] 36, hp w]) (fun z_ => (z_.1 : Int) ≤ prodI t.d ∧ StrsO (axW t t.l.length ++ [[61]] ++ elW k n t z_.1) z_.2.1 z_.2.2) (fun z_ => (prodI t.d).toNat - z_.1) (0, v38, h_r38) (⟨by (try dsimp only); omega, by (try dsimp only); simpa [elW] using r38⟩) ⟨rfl, rfl, rfl, (by first | rfl | exact ksub rfl (by first | omega | (simp; done) | (simp; omega))), (by first | rfl | exact ksub rfl (by first | omega | (simp; done) | (simp; omega))), trivial⟩ (fun _ s => s) ?_; rintro ⟨j, vx, hx⟩ ⟨hj, q⟩; dsimp only at hj q ⊢; have hel := elW_len k n t j; have hal := axW_len t t.l.length; refine wp_sc (wp_sc (wp_sq (sq_v rfl (v_move rfl) rfl (sq_v rfl (v_fieldAddr fd_42_1 ty_25 (by decide) rfl) rfl (sq_v rfl (v_loadB 2 ty_25 rfl rfl rfl) rfl (sq_u rfl (x_callv rfl en_65 (fun w s => ct_s_l05Product _ _ _ w (r2.mono (s.get 4 rfl)) hf.1 (by omega))) rfl (sq_v rfl (v_lss rfl rfl) rfl (sq_end (qs_n ?_))))))))); refine wp_cd rfl (fun c43 => ?_) (fun c43 => ?_)
      · refine wp_sk (qs_n (wp_sc (wp_bl (wp_rj 8 [(0, true), (1, true), (2, true), (3, true), (4, true), (5, false), (6, false), (7, false), (8, false), (9, false)] mixed_ok (by kernel_rfl) ?_)))); have hE := ten_el ht (j := j) (by omega); have hE1 := hE.1; have hE2 := hE.2.1; have hE3 := hE.2.2; refine rj_v rfl rfl (v_move rfl) rfl (rj_v rfl rfl (v_loadNB 3 ty_36 rfl rfl rfl rfl) rfl (rj_v rfl rfl (v_loadNB 3 ty_36 rfl rfl rfl rfl) rfl (rj_v rfl rfl (v_loadNB 2 ty_42 rfl rfl rfl rfl) rfl (rj_v rfl rfl (v_move rfl) rfl ?_)))); refine rj_x rfl rfl (x_call rfl en_67 (fun w s => ct_s_l05Get _ _ _ _ _ _ _ _ w (by first | assumption | omega) (r3.mono (s.get 4 rfl)) (by omega) hE1 (by first | assumption | omega))) rfl ?_; rintro v51 h51 r51; refine rj_u rfl rfl (x_callv rfl en_66 (fun w s => ct_s_FormatElemIn _ _ _ _ _ w (r51.toR.mono (s.get 0 rfl)) hr hE3)) rfl ?_; refine rj_x rfl rfl (x_buildS [strV (elemT (elt t.x (widthI k n) j))] Tryz.underlying70 ty_9 (by decide) rfl rfl rfl (by decide) (by decide) (by intro v hv; simp at hv; rcases hv with rfl <;> rfl)) rfl ?_; intro v53 h53 (r53 : StrsO [(elemT (elt t.x (widthI k n) j))] v53 h53); refine rj_m 3 rfl rfl rfl rfl (m_appU 3 0 Tryz.underlying70 ty_9 rfl rfl rfl rfl q rfl r53.toR (by first | omega | (simp; omega) | (simp only [List.length_append, List.length_cons, List.length_nil]; omega) | (rw [List.length_set]; omega))) rfl ?_; intro v54 h_r54 r54; refine rj_fv rfl rfl (v_assign rfl) rfl (rj_end (qs_bn (qs_n (wp_sq (sq_v rfl (v_move rfl) rfl ?_))))); refine sq_v rfl (v_add rfl rfl ((by unfold I64; omega))) rfl ?_; refine sq_v rfl (v_assign rfl) rfl (sq_end ?_); exact qs_bk (j + 1, v54, h_r54) ⟨by (try dsimp only); omega, by (try dsimp only); rw [elW_step, ← List.append_assoc]; exact r54⟩ (by simp only; omega) ⟨rfl, rfl, rfl, (by first | rfl | exact ksub rfl (by first | omega | (simp; done) | (simp; omega))), (by first | rfl | exact ksub rfl (by first | omega | (simp; done) | (simp; omega))), trivial⟩ (fun _ s => s.pick [2, 3, 4, 5, 6] (by decide) rfl)
      · refine wp_ex (qs_x (qs_x (qs_bx (qs_n (wp_sc (wp_sq (sq_v rfl (v_move rfl) rfl ?_))))))); refine sq_u rfl (x_callv rfl en_64 (fun w s => ct_s_Join (tenW k n t) _ _ w (by have e := ten_done (q := axW t t.l.length ++ [[61]] ++ elW k n t j) ht (by omega) rfl; rw [e] at q; exact q.toR.mono (s.get 1 rfl)) (fun i _ => tenTx_take ht i) (by decide) (fun x hx => Nat.le_trans ((tenW_small ht).2 x hx) (by decide)))) rfl ?_; refine sq_v rfl (v_assign rfl) rfl (sq_end (qs_n (wp_rt ?_))); exact qs_ret1 rfl rfl (fin_q (i := 4) rfl (ten_yes c12))
set_option maxHeartbeats 2000000 in
theorem ct_i_FormatTensor (k p n : Int) (t : Ten) (a b c : Value) (w : World) (tb : PowR (hp w)) (r1 : IntsR t.l a (hp w)) (r2 : IntsR t.d b (hp w)) (r3 : IntsR t.x c (hp w)) :
    Calls Tryz.prog 35 [ringV k p n, tenV a b c].toArray w (RetV w (strV (ifT (tensorB k p n t.l t.d t.x) (tenTx k n t)))) := by
  refine calls_in Tryz.func35 rfl Tryz.ntmps35 rfl (Sat.start w) ?_; have hle0 := r1.le; have hle1 := r2.le; have hle2 := r3.le; refine wp_sc (wp_sq ?_); refine sq_x rfl (x_box rfl rfl) rfl ?_; rintro _ _ ⟨b2, rfl, rfl⟩; refine sq_x rfl (x_box rfl rfl) rfl ?_; rintro _ _ ⟨b3, rfl, rfl⟩; refine sq_v rfl (v_assign rfl) rfl (sq_end (qs_n (wp_sc (wp_sc (wp_sq (sq_v rfl (v_loadNB 1 ty_36 rfl rfl rfl rfl) rfl (sq_v rfl (v_loadNB 0 ty_42 rfl rfl rfl rfl) rfl (sq_u rfl (x_callv rfl en_72 (fun w s => ct_i_TensorOk _ _ _ _ _ _ _ _ _ w (r1.mono (s.get 2 rfl)) (r2.mono (s.get 2 rfl)) (r3.mono (s.get 2 rfl)))) rfl (sq_v rfl (v_not rfl) rfl (sq_end (qs_n ?_))))))))))); refine wp_cn _ rfl (fun c12 => ?_) (fun c12 => ?_)
  · refine wp_sc (wp_sq (sq_v rfl (v_assign rfl) rfl (sq_end (qs_n (wp_rt (qs_r ?_)))))); exact qs_ret1 rfl rfl (fin_q (i := 2) rfl (ten_no c12))
  · refine wp_sk (qs_n (wp_sc (wp_sq (sq_v rfl (v_assign rfl) rfl (sq_end (qs_n (wp_sc (wp_sc (wp_sq (sq_v rfl (v_fieldAddr fd_42_0 ty_25 (by decide) rfl) rfl (sq_v rfl (v_loadB 0 ty_25 rfl rfl rfl) rfl ?_))))))))))); have ht := tensorB_iff.1 c12; have hr := ht.1; have hf := ten_facts ht; have hlen : t.l.length = t.d.length := (sizeI_ge.1 ht.2.1).1.2.1; have hwd := width_range hr; have hxl := ten_xlen ht; refine sq_v rfl (v_len Tryz.underlying25 rfl r1.sl) rfl (sq_v rfl (v_move rfl) rfl (sq_end (qs_n (wp_bl ?_)))); refine wp_lp (σ := Nat × Value × PH) (fun z_ => [(2, .pointer (some ⟨b2, 0, none⟩)), (3, .pointer (some ⟨b3, 0, none⟩)), (4, strV []), (5, z_.2.1), (14, a), (15, num t.l.length), (16, num z_.1)]) (fun z_ => [z_.2.2, box b3 [a, b, c] 42, box b2 [num k, num p, num n] 36, hp w]) (fun z_ => z_.1 ≤ t.l.length ∧ StrsO (axW t z_.1) z_.2.1 z_.2.2) (fun z_ => t.l.length - z_.1) (0, .slice none 0 0, emp) (⟨by (try dsimp only); omega, StrsO.nil⟩) ⟨rfl, rfl, rfl, (by first | rfl | exact ksub rfl (by first | omega | (simp; done) | (simp; omega))), rfl, rfl, (by first | rfl | exact ksub rfl (by first | omega | (simp; done) | (simp; omega))), trivial⟩ (fun _ s => (emp_sat s)) ?_; rintro ⟨i, vx, hx⟩ ⟨hi, q⟩; dsimp only at hi q ⊢; have hal := axW_len t i; refine wp_sc (wp_sq (sq_v rfl (v_lss rfl rfl) rfl (sq_end (qs_n (wp_sc ?_))))); refine wp_cd rfl (fun c17 => ?_) (fun c17 => ?_)
    · refine wp_sk (qs_n (wp_sc (wp_bl (wp_sc (wp_sq (sq_v rfl (v_move rfl) rfl ?_)))))); refine sq_v rfl (v_idxI Tryz.underlying25 ty_3 rfl rfl r1 (by first | omega | (simp; omega) | (simp only [List.length_append, List.length_cons, List.length_nil]; omega) | (rw [List.length_set]; omega)) (by first | omega | (simp; omega) | (simp only [List.length_append, List.length_cons, List.length_nil]; omega) | (rw [List.length_set]; omega))) rfl ?_; refine sq_v rfl (v_loadI (k := i) 3 ty_3 rfl rfl r1 (by first | omega | (simp; omega) | (simp only [List.length_append, List.length_cons, List.length_nil]; omega) | (rw [List.length_set]; omega))) rfl ?_; refine sq_v rfl (v_assign rfl) rfl (sq_v rfl (v_assign rfl) rfl (sq_end (qs_n (wp_rj 12 [(0, true), (1, true), (4, true), (5, true), (6, true), (7, true), (8, true), (2, false), (3, true), (9, false), (10, true), (11, false), (12, false), (13, false)] mixed_ok (by kernel_rfl) ?_)))); have hI := ten_i64 ht (i := i) (by omega); have hI1 := hI.1; have hI2 := hI.2; have hL1 := itoa_len hI1; have hL2 := itoa_len hI2; refine rj_v rfl rfl (v_move rfl) rfl (rj_v rfl rfl (v_move rfl) rfl (rj_v rfl rfl (v_fieldAddr fd_42_1 ty_25 (by decide) rfl) rfl (rj_v rfl rfl (v_loadB 1 ty_25 rfl rfl rfl) rfl (rj_v rfl rfl (v_move rfl) rfl ?_)))); refine rj_v rfl rfl (v_idxI Tryz.underlying25 ty_3 rfl rfl r2 (by first | omega | (simp; omega) | (simp only [List.length_append, List.length_cons, List.length_nil]; omega) | (rw [List.length_set]; omega)) (by first | omega | (simp; omega) | (simp only [List.length_append, List.length_cons, List.length_nil]; omega) | (rw [List.length_set]; omega))) rfl ?_; refine rj_v rfl rfl (v_loadI (k := i) 3 ty_3 rfl rfl r2 (by first | omega | (simp; omega) | (simp only [List.length_append, List.length_cons, List.length_nil]; omega) | (rw [List.length_set]; omega))) rfl ?_; refine rj_u rfl rfl (x_callv rfl en_34 (fun w s => ct_i_FormatInt _ w (tb.mono (s.get 3 rfl)) (by first | assumption | omega))) rfl ?_; refine rj_v rfl rfl (v_addS rfl rfl (by first | omega | (simp only [List.length_append, List.length_cons, List.length_nil]; omega))) rfl ?_; refine rj_u rfl rfl (x_callv rfl en_34 (fun w s => ct_i_FormatInt _ w (tb.mono (s.get 3 rfl)) (by first | assumption | omega))) rfl ?_; refine rj_v rfl rfl (v_addS rfl rfl (by first | omega | (simp only [List.length_append, List.length_cons, List.length_nil]; omega))) rfl ?_; refine rj_x rfl rfl (x_buildS [strV (((Lib.itoa (t.l.getD i 0)) ++ [58]) ++ (Lib.itoa (t.d.getD i 0)))] Tryz.underlying70 ty_9 (by decide) rfl rfl rfl (by decide) (by decide) (by intro v hv; simp at hv; rcases hv with rfl <;> rfl)) rfl ?_; intro v32 h32 (r32 : StrsO [(((Lib.itoa (t.l.getD i 0)) ++ [58]) ++ (Lib.itoa (t.d.getD i 0)))] v32 h32); refine rj_m 1 rfl rfl rfl rfl (m_appU 1 0 Tryz.underlying70 ty_9 rfl rfl rfl rfl q rfl r32.toR (by first | omega | (simp; omega) | (simp only [List.length_append, List.length_cons, List.length_nil]; omega) | (rw [List.length_set]; omega))) rfl ?_; intro v33 h_r33 r33; refine rj_fv rfl rfl (v_assign rfl) rfl (rj_end (qs_bn (qs_n (wp_sq ?_)))); refine sq_v rfl (v_add rfl rfl ((by unfold I64; omega))) rfl ?_; refine sq_v rfl (v_move rfl) rfl (sq_end ?_); exact qs_bk (i + 1, v33, h_r33) ⟨by (try dsimp only); omega, by (try dsimp only); rw [axW_step]; exact r33⟩ (by simp only; omega) ⟨rfl, rfl, rfl, (by first | rfl | exact ksub rfl (by first | omega | (simp; done) | (simp; omega))), rfl, rfl, (by first | rfl | exact ksub rfl (by first | omega | (simp; done) | (simp; omega))), trivial⟩ (fun _ s => s.pick [1, 2, 3, 4] (by decide) rfl)
    · refine wp_ex (qs_x (qs_x (qs_bx (qs_n (wp_sc (wp_sq (sq_v rfl (v_move rfl) rfl ?_))))))); refine sq_x rfl (x_buildS [strV [61]] Tryz.underlying70 ty_9 (by decide) rfl rfl rfl (by decide) (by decide) (by intro v hv; simp at hv; rcases hv with rfl <;> rfl)) rfl ?_; intro v36 h36 (r36 : StrsO [[61]] v36 h36); refine sq_m 1 rfl rfl (m_appU 1 0 Tryz.underlying70 ty_9 rfl rfl rfl rfl q rfl r36.toR (by first | omega | (simp; omega) | (simp only [List.length_append, List.length_cons, List.length_nil]; omega) | (rw [List.length_set]; omega))) rfl ?_; intro v37 h_r37 r37; refine sq_v rfl (v_assign rfl) rfl (sq_end ?_); have e0 : axW t i = axW t t.l.length := by rw [show i = t.l.length by omega]
      rw [e0] at r37; refine qs_n (wp_sc (wp_sc (wp_sq (sq_v rfl (v_assign rfl) rfl (sq_end (qs_n (wp_bl ?_))))))); refine wp_lp (σ := Nat × Value × PH) (fun z_ => [(2, .pointer (some ⟨b2, 0, none⟩)), (3, .pointer (some ⟨b3, 0, none⟩)), (4, strV []), (5, z_.2.1), (8, num z_.1)]) (fun z_ => [h36, z_.2.2, box b3 [a, b, c] 42, box b2 [num k, num p, num n] 36, hp w]) (fun z_ => (z_.1 : Int) ≤ prodI t.d ∧ StrsO (axW t t.l.length ++ [[61]] ++ elW k n t z_.1) z_.2.1 z_.2.2) (fun z_ => (prodI t.d).toNat - z_.1) (0, v37, h_r37) (⟨by (try dsimp only); omega, by (try dsimp only); simpa [elW] using r37⟩) ⟨rfl, rfl, rfl, (by first | rfl | exact ksub rfl (by first | omega | (simp; done) | (simp; omega))), (by first | rfl | exact ksub rfl (by first | omega | (simp; done) | (simp; omega))), trivial⟩ (fun _ s => s) ?_; rintro ⟨j, vx, hx⟩ ⟨hj, q⟩; dsimp only at hj q ⊢; have hel := elW_len k n t j; have hal := axW_len t t.l.length; refine wp_sc (wp_sc (wp_sq (sq_v rfl (v_move rfl) rfl (sq_v rfl (v_fieldAddr fd_42_1 ty_25 (by decide) rfl) rfl (sq_v rfl (v_loadB 2 ty_25 rfl rfl rfl) rfl (sq_u rfl (x_callv rfl en_75 (fun w s => ct_i_productOf _ _ w (r2.mono (s.get 4 rfl)) hf.1 (by omega))) rfl (sq_v rfl (v_lss rfl rfl) rfl (sq_end (qs_n ?_))))))))); refine wp_cd rfl (fun c42 => ?_) (fun c42 => ?_)
      · refine wp_sk (qs_n (wp_sc (wp_bl (wp_sq ?_)))); have hE := ten_el ht (j := j) (by omega); have hE1 := hE.1; have hE2 := hE.2.1; have hE3 := hE.2.2; refine sq_v rfl (v_move rfl) rfl (sq_v rfl (v_loadNB 3 ty_36 rfl rfl rfl rfl) rfl (sq_v rfl (v_loadNB 2 ty_42 rfl rfl rfl rfl) rfl (sq_v rfl (v_move rfl) rfl (sq_u rfl (x_callv rfl en_77 (fun w s => ct_i_rawElem _ _ _ _ _ _ _ _ w (by first | assumption | omega) (r3.mono (s.get 4 rfl)) (by omega) hE1 (by first | assumption | omega))) rfl (sq_u rfl (x_callv rfl en_76 (fun w s => ct_i_rawElemText _ _ w (tb.mono (s.get 4 rfl)) ((eltV_read r3 (by first | assumption | omega) (by first | assumption | omega) (by first | assumption | omega)).mono (s.get 4 rfl)) hE2)) rfl ?_))))); refine sq_x rfl (x_buildS [strV (elemT (elt t.x (widthI k n) j))] Tryz.underlying70 ty_9 (by decide) rfl rfl rfl (by decide) (by decide) (by intro v hv; simp at hv; rcases hv with rfl <;> rfl)) rfl ?_; intro v51 h51 (r51 : StrsO [(elemT (elt t.x (widthI k n) j))] v51 h51); refine sq_m 2 rfl rfl (m_appU 2 0 Tryz.underlying70 ty_9 rfl rfl rfl rfl q rfl r51.toR (by first | omega | (simp; omega) | (simp only [List.length_append, List.length_cons, List.length_nil]; omega) | (rw [List.length_set]; omega))) rfl ?_; intro v52 h_r52 r52; refine sq_v rfl (v_assign rfl) rfl (sq_end (qs_bn (qs_n (wp_sq (sq_v rfl (v_move rfl) rfl ?_))))); refine sq_v rfl (v_add rfl rfl ((by unfold I64; omega))) rfl ?_; refine sq_v rfl (v_assign rfl) rfl (sq_end ?_); exact qs_bk (j + 1, v52, h_r52) ⟨by (try dsimp only); omega, by (try dsimp only); rw [elW_step, ← List.append_assoc]; exact r52⟩ (by simp only; omega) ⟨rfl, rfl, rfl, (by first | rfl | exact ksub rfl (by first | omega | (simp; done) | (simp; omega))), (by first | rfl | exact ksub rfl (by first | omega | (simp; done) | (simp; omega))), trivial⟩ (fun _ s => s.pick [1, 2, 3, 4, 5] (by decide) rfl)
      · refine wp_ex (qs_x (qs_x (qs_bx (qs_n (wp_sc (wp_sq (sq_v rfl (v_move rfl) rfl ?_))))))); refine sq_u rfl (x_callv rfl en_36 (fun w s => ct_i_Join (tenW k n t) _ _ w (by have e := ten_done (q := axW t t.l.length ++ [[61]] ++ elW k n t j) ht (by omega) rfl; rw [e] at q; exact q.toR.mono (s.get 1 rfl)) (by have := (tenW_small ht).1; omega) (by have := tenTx_len ht; unfold tenTx at this; omega))) rfl ?_; refine sq_v rfl (v_assign rfl) rfl (sq_end (qs_n (wp_rt ?_))); exact qs_ret1 rfl rfl (fin_q (i := 4) rfl (ten_yes c12))
section
variable {k p n : Int} {ts : List Ten} {op : List Int}
theorem ten_tx {t : Ten} (h : tensorL k p n t.l t.d t.x) : ifT (tensorB k p n t.l t.d t.x) (tenTx k n t) = tenTx k n t := by rw [tensorB_iff.2 h]; rfl
end
end Go.Proofs.YtiefkcaplhnnmaaGreatDoor
namespace Go.Proofs.YtiefkcaplhnnmaaGreatDoor
set_option maxRecDepth 100000
open Go.RowKit
def intsT (xs : List Int) : List UInt8 := Lib.join (xs.map Lib.itoa) [32]
def numsL (ss : List Stp) : List Int := ss.flatMap fun s => [s.a, s.b]
def jobTx (k n : Int) (ls : List Int) (ss : List Stp) (m : Int) (t : Ten) : List UInt8 := intsT ls ++ [10] ++ intsT (numsL ss) ++ [10] ++ Lib.itoa m ++ [10] ++ tenTx k n t ++ [10]
def fewI (xs : List Int) : Prop := xs.length ≤ 1000 ∧ ∀ a ∈ xs, I64 a
theorem few_itoa {x : List Int} (h : fewI x) : ∀ y ∈ x.map Lib.itoa, y.length ≤ 21 := fun y hy => by
  obtain ⟨a, ha, rfl⟩ := List.mem_map.1 hy; exact itoa_len (h.2 a ha)
theorem intsT_len {x : List Int} (h : fewI x) : (intsT x).length ≤ 22000 := by
  have := join_le (sep := [32]) (few_itoa h); rw [List.length_map] at this; have h2 : x.length * (21 + [(32 : UInt8)].length) ≤ 1000 * 22 := Nat.mul_le_mul_right 22 h.1; exact Nat.le_trans this h2
theorem ct_s_FormatInts (xs : List Int) (v : Value) (w : World) (r : IntsR xs v (hp w)) (hI : fewI xs) : Calls Tryz.prog 23 [v].toArray w (RetV w (strV (intsT xs))) := by
  have hsl := hI.1; refine calls_in Tryz.func23 rfl Tryz.ntmps23 rfl (Sat.start w) ?_; have hle0 := r.le; refine wp_sc (wp_sq (sq_v rfl (v_assign rfl) rfl (sq_end (qs_n (wp_sc (wp_sq ?_)))))); refine sq_x rfl (x_build0 Tryz.underlying70 ty_9) rfl ?_; intro v6 h6 (r6 : StrsO [] v6 h6); refine sq_v rfl (v_assign rfl) rfl (sq_end (qs_n (wp_sc (wp_sc (wp_sq (sq_v rfl (v_move rfl) rfl (sq_v rfl (v_len Tryz.underlying25 rfl r.sl) rfl (sq_v rfl (v_move rfl) rfl (sq_end (qs_n (wp_bl ?_))))))))))); refine wp_lp (σ := Nat × Value × PH) (fun z_ => [(2, strV []), (3, z_.2.1), (7, v), (8, num xs.length), (9, num z_.1)]) (fun z_ => [z_.2.2, hp w]) (fun z_ => z_.1 ≤ xs.length ∧ StrsO ((xs.map Lib.itoa).take z_.1) z_.2.1 z_.2.2) (fun z_ => xs.length - z_.1) (0, v6, h6) (⟨by (try dsimp only); omega, r6⟩) ⟨rfl, (by first | rfl | exact ksub rfl (by first | omega | (simp; done) | (simp; omega))), rfl, rfl, (by first | rfl | exact ksub rfl (by first | omega | (simp; done) | (simp; omega))), trivial⟩ (fun _ s => s) ?_; rintro ⟨i, vx, hx⟩ ⟨hi, q⟩; dsimp only at hi q ⊢; refine wp_sc (wp_sq (sq_v rfl (v_lss rfl rfl) rfl (sq_end (qs_n (wp_sc ?_))))); refine wp_cd rfl (fun c10 => ?_) (fun c10 => ?_)
  · refine wp_sk (qs_n (wp_sc (wp_bl (wp_sc (wp_sq ?_))))); refine sq_v rfl (v_idxI Tryz.underlying25 ty_3 rfl rfl r (by first | omega | (simp; omega) | (simp only [List.length_append, List.length_cons, List.length_nil]; omega) | (rw [List.length_set]; omega)) (by first | omega | (simp; omega) | (simp only [List.length_append, List.length_cons, List.length_nil]; omega) | (rw [List.length_set]; omega))) rfl ?_; refine sq_v rfl (v_loadI (k := i) 1 ty_3 rfl rfl r (by first | omega | (simp; omega) | (simp only [List.length_append, List.length_cons, List.length_nil]; omega) | (rw [List.length_set]; omega))) rfl ?_; refine sq_v rfl (v_assign rfl) rfl (sq_end (qs_n (wp_sq (sq_v rfl (v_move rfl) rfl (sq_v rfl (v_move rfl) rfl (sq_u rfl (x_callv rfl en_25 (fun w s => ct_s_FormatInt _ w (hI.2 _ (mem_getD (by omega))))) rfl ?_)))))); refine sq_x rfl (x_buildS [strV (Lib.itoa (xs.getD i 0))] Tryz.underlying70 ty_9 (by decide) rfl rfl rfl (by decide) (by decide) (by intro v hv; simp at hv; rcases hv with rfl <;> rfl)) rfl ?_; intro v16 h16 (r16 : StrsO [(Lib.itoa (xs.getD i 0))] v16 h16); refine sq_m 1 rfl rfl (m_appU 1 0 Tryz.underlying70 ty_9 rfl rfl rfl rfl q rfl r16.toR (by first | omega | (simp; omega) | (simp only [List.length_append, List.length_cons, List.length_nil]; omega) | (rw [List.length_set]; omega))) rfl ?_; intro v17 h_r17 r17; refine sq_v rfl (v_assign rfl) rfl (sq_end (qs_bn (qs_n (wp_sq ?_)))); refine sq_v rfl (v_add rfl rfl ((by unfold I64; omega))) rfl ?_; refine sq_v rfl (v_move rfl) rfl (sq_end ?_); exact qs_bk (i + 1, v17, h_r17) ⟨by (try dsimp only); omega, by (try dsimp only); rw [take_mapL (by omega)]; exact r17⟩ (by simp only; omega) ⟨rfl, (by first | rfl | exact ksub rfl (by first | omega | (simp; done) | (simp; omega))), rfl, rfl, (by first | rfl | exact ksub rfl (by first | omega | (simp; done) | (simp; omega))), trivial⟩ (fun _ s => s.pick [1, 2] (by decide) rfl)
  · refine wp_ex (qs_x (qs_x (qs_bx (qs_n (wp_sc (wp_sq (sq_v rfl (v_move rfl) rfl ?_))))))); refine sq_u rfl (x_callv rfl en_64 (fun w s => ct_s_Join _ _ _ w (by have e : (xs.map Lib.itoa).take i = xs.map Lib.itoa := List.take_of_length_le (by rw [List.length_map]; omega); rw [e] at q; exact q.toR.mono (s.get 0 rfl)) (fun j _ => Nat.le_trans (join_take_le (few_itoa hI) j) (by rw [List.length_map]; have := Nat.mul_le_mul_right 22 hsl; exact Nat.le_trans this (by decide))) (by decide) (fun x hx => Nat.le_trans (few_itoa hI x hx) (by decide)))) rfl ?_; refine sq_v rfl (v_assign rfl) rfl (sq_end (qs_n (wp_rt ?_))); exact qs_ret1 rfl rfl (fin_q (i := 1) rfl (rfl))
theorem ct_i_FormatInts (xs : List Int) (v : Value) (w : World) (tb : PowR (hp w)) (r : IntsR xs v (hp w)) (hI : fewI xs) : Calls Tryz.prog 33 [v].toArray w (RetV w (strV (intsT xs))) := by
  have hsl := hI.1; refine calls_in Tryz.func33 rfl Tryz.ntmps33 rfl (Sat.start w) ?_; have hle0 := r.le; refine wp_sc (wp_sq (sq_v rfl (v_assign rfl) rfl (sq_end (qs_n (wp_sc (wp_sq (sq_v rfl (v_move rfl) rfl (sq_v rfl (v_len Tryz.underlying25 rfl r.sl) rfl ?_)))))))); refine sq_x rfl (x_makeU Tryz.underlying70 ty_9 rfl rfl (by first | omega | (simp; omega) | (simp only [List.length_append, List.length_cons, List.length_nil]; omega) | (rw [List.length_set]; omega)) (by first | omega | (simp; omega) | (simp only [List.length_append, List.length_cons, List.length_nil]; omega) | (rw [List.length_set]; omega)) (by first | omega | (simp; omega) | (simp only [List.length_append, List.length_cons, List.length_nil]; omega) | (rw [List.length_set]; omega))) rfl ?_; intro v8 h8 r8; refine sq_v rfl (v_assign rfl) rfl (sq_end (qs_n (wp_sc (wp_sc (wp_sq (sq_v rfl (v_move rfl) rfl (sq_v rfl (v_len Tryz.underlying25 rfl r.sl) rfl (sq_v rfl (v_move rfl) rfl (sq_end (qs_n (wp_bl ?_))))))))))); refine wp_lp (σ := Nat × PH) (fun z_ => [(2, strV []), (3, v8), (9, v), (10, num xs.length), (11, num z_.1)]) (fun z_ => [z_.2, hp w]) (fun z_ => z_.1 ≤ xs.length ∧ StrsO ((xs.map Lib.itoa).take z_.1 ++ List.replicate (xs.length - z_.1) []) v8 z_.2) (fun z_ => xs.length - z_.1) (0, h8) (⟨by (try dsimp only); omega, by (try dsimp only); rw [List.take_zero]; simpa using r8⟩) ⟨rfl, rfl, rfl, rfl, (by first | rfl | exact ksub rfl (by first | omega | (simp; done) | (simp; omega))), trivial⟩ (fun _ s => s) ?_; rintro ⟨i, hx⟩ ⟨hi, q⟩; dsimp only at hi q ⊢; refine wp_sc (wp_sq (sq_v rfl (v_lss rfl rfl) rfl (sq_end (qs_n (wp_sc ?_))))); refine wp_cd rfl (fun c12 => ?_) (fun c12 => ?_)
  · refine wp_sk (qs_n (wp_sc (wp_bl (wp_sc (wp_sq (sq_v rfl (v_move rfl) rfl ?_)))))); refine sq_v rfl (v_idxI Tryz.underlying25 ty_3 rfl rfl r (by first | omega | (simp; omega) | (simp only [List.length_append, List.length_cons, List.length_nil]; omega) | (rw [List.length_set]; omega)) (by first | omega | (simp; omega) | (simp only [List.length_append, List.length_cons, List.length_nil]; omega) | (rw [List.length_set]; omega))) rfl ?_; refine sq_v rfl (v_loadI (k := i) 1 ty_3 rfl rfl r (by first | omega | (simp; omega) | (simp only [List.length_append, List.length_cons, List.length_nil]; omega) | (rw [List.length_set]; omega))) rfl ?_; refine sq_v rfl (v_assign rfl) rfl (sq_v rfl (v_assign rfl) rfl (sq_end (qs_n (wp_sq (sq_v rfl (v_move rfl) rfl (sq_v rfl (v_move rfl) rfl (sq_v rfl (v_move rfl) rfl (sq_u rfl (x_callv rfl en_34 (fun w s => ct_i_FormatInt _ w (tb.mono (s.get 1 rfl)) (hI.2 _ (mem_getD (by omega))))) rfl ?_)))))))); refine sq_v rfl (v_idxU Tryz.underlying70 ty_9 rfl rfl q.toR (by omega) (by simp; omega)) rfl ?_; refine sq_m 0 rfl rfl (m_storeU (k := i) 0 ty_9 rfl rfl rfl q (by simp; omega)) rfl ?_; rintro _ h_q5 ⟨rfl, q5⟩; refine sq_end (qs_bn (qs_n (wp_sq ?_))); refine sq_v rfl (v_add rfl rfl ((by unfold I64; omega))) rfl ?_; refine sq_v rfl (v_move rfl) rfl (sq_end ?_); exact qs_bk (i + 1, h_q5) ⟨by (try dsimp only); omega, by (try dsimp only); rw [fill_step (by omega)] at q5; exact q5⟩ (by simp only; omega) ⟨rfl, rfl, rfl, rfl, (by first | rfl | exact ksub rfl (by first | omega | (simp; done) | (simp; omega))), trivial⟩ (fun _ s => s)
  · refine wp_ex (qs_x (qs_x (qs_bx (qs_n (wp_sc (wp_sq (sq_v rfl (v_move rfl) rfl ?_))))))); refine sq_u rfl (x_callv rfl en_36 (fun w s => ct_i_Join (xs.map Lib.itoa) _ _ w (by have e : (xs.map Lib.itoa).take i ++ List.replicate (xs.length - i) [] = xs.map Lib.itoa := (by rw [show xs.length - i = 0 by omega, List.take_of_length_le (by rw [List.length_map]; omega)]; simp); rw [e] at q; exact q.toR.mono (s.get 0 rfl)) (by rw [List.length_map]; omega) (Nat.le_trans (intsT_len hI) (by decide)))) rfl ?_; refine sq_v rfl (v_assign rfl) rfl (sq_end (qs_n (wp_rt ?_))); exact qs_ret1 rfl rfl (fin_q (i := 1) rfl (rfl))
theorem numsL_step {ss : List Stp} {i : Nat} {x : Stp} (h : ss[i]? = some x) : numsL (ss.take (i + 1)) = numsL (ss.take i) ++ [x.a, x.b] := by
  have hi : i < ss.length := (List.getElem?_eq_some_iff.1 h).1; rw [List.take_succ_eq_append_getElem hi]; have e : ss[i] = x := (List.getElem?_eq_some_iff.1 h).2; rw [e]
  simp [numsL]
theorem numsL_len (ss : List Stp) : (numsL ss).length = 2 * ss.length := by
  induction ss with
  | nil => rfl
  | cons x r ih => simp only [numsL, List.flatMap_cons, List.length_append, List.length_cons, List.length_nil] at ih ⊢; omega
theorem ct_s_l24Numbers (ss : List Stp) (v : Value) (w : World) (r : StepsR ss v (hp w)) (hs : ss.length ≤ 1048576) : Calls Tryz.prog 24 [v].toArray w (Ret w emp (IntsO (numsL ss))) := by
  refine calls_in Tryz.func24 rfl Tryz.ntmps24 rfl (Sat.start w) ?_; have hle0 := r.le; obtain ⟨cs_r, rr_r, hc_r⟩ := r.at; refine wp_sc (wp_sq (sq_v rfl (v_assign rfl) rfl (sq_end (qs_n (wp_sc (wp_sq ?_)))))); refine sq_x rfl (x_build0 Tryz.underlying25 ty_3) rfl ?_; intro v6 h6 (r6 : IntsO [] v6 h6); refine sq_v rfl (v_assign rfl) rfl (sq_end (qs_n (wp_sc (wp_sc (wp_sq (sq_v rfl (v_move rfl) rfl (sq_v rfl (v_len Tryz.underlying41 rfl r.sl) rfl (sq_v rfl (v_move rfl) rfl (sq_end (qs_n (wp_bl ?_))))))))))); refine wp_lp (σ := Nat × Value × PH) (fun z_ => [(2, .slice none 0 0), (3, z_.2.1), (7, v), (8, num ss.length), (9, num z_.1)]) (fun z_ => [z_.2.2, hp w]) (fun z_ => z_.1 ≤ ss.length ∧ IntsO (numsL (ss.take z_.1)) z_.2.1 z_.2.2) (fun z_ => ss.length - z_.1) (0, v6, h6) (⟨by (try dsimp only); omega, r6⟩) ⟨rfl, (by first | rfl | exact ksub rfl (by first | omega | (simp; done) | (simp; omega))), rfl, rfl, (by first | rfl | exact ksub rfl (by first | omega | (simp; done) | (simp; omega))), trivial⟩ (fun _ s => s) ?_; rintro ⟨i, vx, hx⟩ ⟨hi, q⟩; dsimp only at hi q ⊢; have hle_q := q.toR.le; have hnl := numsL_len (ss.take i); rw [List.length_take] at hnl; refine wp_sc (wp_sq (sq_v rfl (v_lss rfl rfl) rfl (sq_end (qs_n (wp_sc ?_))))); refine wp_cd rfl (fun c10 => ?_) (fun c10 => ?_)
  · refine wp_sk (qs_n (wp_sc (wp_bl (wp_sc (wp_sq ?_))))); obtain ⟨x11, hx11, hcs11⟩ := hc_r (i) (by first | omega | (rw [List.length_set]; omega)); refine sq_v rfl (v_indexAddr Tryz.underlying41 ty_69 rfl rfl rr_r (by decide) (by omega) (by first | omega | (rw [List.length_set]; omega))) rfl ?_; refine sq_v rfl (v_loadNE 1 ty_69 rfl rfl rr_r (by have := rr_r.1; omega) rfl hcs11) rfl ?_; refine sq_x rfl (x_alloc ty_69 rfl) rfl ?_; rintro _ _ ⟨b5, rfl, rfl⟩; refine sq_m 0 rfl rfl (m_store 0 ty_69 rfl rfl rfl rfl (by simp [Value.oneCell']) rfl (Nat.le_of_ble_eq_true rfl)) rfl ?_; rintro _ _ ⟨rfl, rfl⟩; refine sq_end (qs_n (wp_sq (sq_v rfl (v_move rfl) rfl (sq_v rfl (v_fieldAddr fd_69_0 ty_3 (by decide) rfl) rfl (sq_v rfl (v_loadB 0 ty_3 rfl rfl rfl) rfl (sq_v rfl (v_fieldAddr fd_69_1 ty_3 (by decide) rfl) rfl (sq_v rfl (v_loadB 0 ty_3 rfl rfl rfl) rfl ?_))))))); refine sq_x rfl (x_buildS [num (x11.a), num (x11.b)] Tryz.underlying25 ty_3 (by decide) rfl rfl rfl (by decide) (by decide) (by intro v hv; simp at hv; rcases hv with rfl | rfl <;> rfl)) rfl ?_; intro v18 h18 (r18 : IntsO [x11.a, x11.b] v18 h18); refine sq_m 2 rfl rfl (m_appI 2 0 Tryz.underlying25 ty_3 rfl rfl rfl rfl q rfl r18.toR (by first | omega | (simp; omega) | (simp only [List.length_append, List.length_cons, List.length_nil]; omega) | (rw [List.length_set]; omega))) rfl ?_; intro v19 h_r19 r19; refine sq_v rfl (v_assign rfl) rfl (sq_end (qs_bn (qs_n (wp_sq ?_)))); refine sq_v rfl (v_add rfl rfl ((by unfold I64; omega))) rfl ?_; refine sq_v rfl (v_move rfl) rfl (sq_end ?_); exact qs_bk (i + 1, v19, h_r19) ⟨by (try dsimp only); omega, by (try dsimp only); rw [numsL_step hx11]; exact r19⟩ (by simp only; omega) ⟨rfl, (by first | rfl | exact ksub rfl (by first | omega | (simp; done) | (simp; omega))), rfl, rfl, (by first | rfl | exact ksub rfl (by first | omega | (simp; done) | (simp; omega))), trivial⟩ (fun _ s => s.pick [2, 3] (by decide) rfl)
  · refine wp_ex (qs_x (qs_x (qs_bx (qs_n (wp_sc (wp_sq (sq_v rfl (v_move rfl) rfl (sq_v rfl (v_assign rfl) rfl (sq_end (qs_n (wp_rt ?_))))))))))); exact qs_ret1 rfl rfl (fin_t 0 (i := 1) rfl rfl rfl (by rw [List.take_of_length_le (by omega)] at q; exact q))
section
variable {k p n m : Int} {ts : List Ten} {op ls : List Int} {ss : List Stp} {t : Ten}
theorem job_small (h : jobL k p n ts op ls ss m t) : fewI ls ∧ fewI (numsL ss) ∧ I64 m ∧ ss.length ≤ 11 ∧ tensorL k p n t.l t.d t.x := by
  have hord := h.1; have hsl : slicesL k p n ts op ls := Classical.byContradiction fun hn => by
    have h2 := h.2.1; rw [sliceL, if_neg hn] at h2
    omega
  have hd := slice_dims hsl; have h12 := hord.1.2.1; have hlen := hord.2.1; have hm := h.2.1; rw [sliceL, if_pos hsl] at hm; refine ⟨⟨by have := hsl.2.1; omega, fun a ha => by have := hd.2.2 a ha; constructor <;> omega⟩, ⟨by rw [numsL_len]; omega, fun a ha => ?_⟩, ⟨by omega, by omega⟩, by omega, h.2.2.1⟩; obtain ⟨x, hx, hax⟩ := List.mem_flatMap.1 ha; obtain ⟨i, hi⟩ := List.getElem?_of_mem hx; have hil : i < ss.length := (List.getElem?_eq_some_iff.1 hi).1; have hst := hord.2.2 i hil x hi; have e0 : (sh0 ts).all.length = ts.length := by simp [sh0]
  have hal : (shTo op (sh0 ts) (ss.take i)).all.length ≤ 100 := by
    rw [shTo_all, e0, List.length_take]; omega
  have h1 := hst.1; have h2 := hst.2.1
  unfold Sh.live at h1 h2
  simp only [List.mem_cons, List.not_mem_nil, or_false] at hax
  rcases hax with rfl | rfl <;> constructor <;> omega
theorem job_no (h : jobB k p n ts op ls ss m t = false) : strV [] = strV (ifT (jobB k p n ts op ls ss m t) (jobTx k n ls ss m t)) := by rw [h]; rfl
theorem job_yes {s : List UInt8} (h : jobB k p n ts op ls ss m t = true) (e : s = jobTx k n ls ss m t) : strV s = strV (ifT (jobB k p n ts op ls ss m t) (jobTx k n ls ss m t)) := by rw [h, e]; rfl
theorem jobB_iff : jobB k p n ts op ls ss m t = true ↔ jobL k p n ts op ls ss m t := by simp [jobB]
theorem jobTx_join (k n : Int) (ls : List Int) (ss : List Stp) (m : Int) (t : Ten) : Lib.join [intsT ls, intsT (numsL ss), Lib.itoa m, tenTx k n t, []] [10] = jobTx k n ls ss m t := by
  simp [Lib.join_cons, Lib.joinTail, jobTx]
end
set_option maxHeartbeats 2000000 in
theorem ct_s_FormatJob (k p n at_ : Int) (ts : List Ten) (op ls : List Int) (ss : List Stp) (t : Ten) (vt vo a b c d e : Value) (w : World) (r : TensR ts vt (hp w)) (r' : IntsR op vo (hp w)) (ra : IntsR ls a (hp w)) (rb : StepsR ss b (hp w)) (rc : IntsR t.l c (hp w)) (rd : IntsR t.d d (hp w)) (re : IntsR t.x e (hp w)) (hs : op.length ≤ 1048576) (hss : ss.length ≤ 1048576) :
    Calls Tryz.prog 7 [netV k p n vt vo, jobV a b at_ c d e].toArray w (RetV w (strV (ifT (jobB k p n ts op ls ss at_ t) (jobTx k n ls ss at_ t)))) := by
  refine calls_in Tryz.func7 rfl Tryz.ntmps7 rfl (Sat.start w) ?_; have hle0 := r.le; obtain ⟨cs_r, rr_r, hc_r⟩ := r.at; have hle1 := r'.le; have hle2 := ra.le; have hle3 := rb.le; obtain ⟨cs_rb, rr_rb, hc_rb⟩ := rb.at; have hle4 := rc.le; have hle5 := rd.le; have hle6 := re.le; refine wp_sc (wp_sq ?_); refine sq_x rfl (x_box rfl rfl) rfl ?_; rintro _ _ ⟨b2, rfl, rfl⟩; refine sq_x rfl (x_box rfl rfl) rfl ?_; rintro _ _ ⟨b3, rfl, rfl⟩; refine sq_v rfl (v_assign rfl) rfl (sq_end (qs_n (wp_sc (wp_sc (wp_sq (sq_v rfl (v_loadNB 1 ty_39 rfl rfl rfl rfl) rfl (sq_v rfl (v_loadNB 0 ty_44 rfl rfl rfl rfl) rfl (sq_u rfl (x_callv rfl en_22 (fun w s => ct_s_JobOk _ _ _ _ _ _ _ _ _ _ _ _ _ _ _ _ w (r.mono (s.get 2 rfl)) (r'.mono (s.get 2 rfl)) (ra.mono (s.get 2 rfl)) (rb.mono (s.get 2 rfl)) (rc.mono (s.get 2 rfl)) (rd.mono (s.get 2 rfl)) (re.mono (s.get 2 rfl)) (by first | assumption | omega) (by first | assumption | omega))) rfl (sq_v rfl (v_not rfl) rfl (sq_end (qs_n ?_))))))))))); refine wp_cn _ rfl (fun c8 => ?_) (fun c8 => ?_)
  · refine wp_sc (wp_sq (sq_v rfl (v_assign rfl) rfl (sq_end (qs_n (wp_rt (qs_r ?_)))))); exact qs_ret1 rfl rfl (fin_q (i := 2) rfl (job_no c8))
  · refine wp_sk (qs_n (wp_sc (wp_rj 23 [(0, true), (1, true), (4, true), (5, true), (10, true), (11, true), (15, true), (16, true), (17, true), (18, true), (2, false), (3, true), (6, false), (7, false), (8, true), (9, true), (12, false), (13, true), (14, true), (19, false), (20, true), (21, true), (22, true)] mixed_ok (by kernel_rfl) ?_))); have hj := job_small (jobB_iff.1 c8); have hf1 := hj.1; have hf2 := hj.2.1; have hmI := hj.2.2.1; have hT := hj.2.2.2.2; have hl1 := intsT_len hf1; have hl2 := intsT_len hf2; have hl3 := itoa_len hmI; have hl4 := tenTx_len hT; refine rj_v rfl rfl (v_fieldAddr fd_44_0 ty_25 (by decide) rfl) rfl (rj_v rfl rfl (v_loadB 0 ty_25 rfl rfl rfl) rfl (rj_v rfl rfl (v_fieldAddr fd_44_1 ty_41 (by decide) rfl) rfl (rj_v rfl rfl (v_loadB 0 ty_41 rfl rfl rfl) rfl (rj_v rfl rfl (v_fieldAddr fd_44_2 ty_3 (by decide) rfl) rfl (rj_v rfl rfl (v_loadB 0 ty_3 rfl rfl rfl) rfl (rj_v rfl rfl (v_fieldAddr fd_39_0 ty_36 (by decide) rfl) rfl (rj_v rfl rfl (v_loadNB 1 ty_36 rfl rfl rfl rfl) rfl (rj_v rfl rfl (v_fieldAddr fd_44_3 ty_42 (by decide) rfl) rfl (rj_v rfl rfl (v_loadNB 0 ty_42 rfl rfl rfl rfl) rfl ?_))))))))); refine rj_u rfl rfl (x_callv rfl en_23 (fun w s => ct_s_FormatInts _ _ w (ra.mono (s.get 2 rfl)) (by first | assumption | omega))) rfl ?_; refine rj_v rfl rfl (v_addS rfl rfl (by first | omega | (simp only [List.length_append, List.length_cons, List.length_nil]; omega))) rfl ?_; refine rj_x rfl rfl (x_call rfl en_24 (fun w s => ct_s_l24Numbers _ _ w (rb.mono (s.get 2 rfl)) (by first | assumption | omega))) rfl ?_; rintro v15 h15 r15; refine rj_u rfl rfl (x_callv rfl en_23 (fun w s => ct_s_FormatInts _ _ w (r15.toR.mono (s.get 0 rfl)) (by first | assumption | omega))) rfl ?_; refine rj_v rfl rfl (v_addS rfl rfl (by first | omega | (simp only [List.length_append, List.length_cons, List.length_nil]; omega))) rfl ?_; refine rj_v rfl rfl (v_addS rfl rfl (by first | omega | (simp only [List.length_append, List.length_cons, List.length_nil]; omega))) rfl ?_; refine rj_u rfl rfl (x_callv rfl en_25 (fun w s => ct_s_FormatInt _ w (by first | assumption | omega))) rfl ?_; refine rj_v rfl rfl (v_addS rfl rfl (by first | omega | (simp only [List.length_append, List.length_cons, List.length_nil]; omega))) rfl ?_; refine rj_v rfl rfl (v_addS rfl rfl (by first | omega | (simp only [List.length_append, List.length_cons, List.length_nil]; omega))) rfl ?_; refine rj_u rfl rfl (x_callv rfl en_26 (fun w s => ct_s_FormatTensor _ _ _ _ _ _ _ w (rc.mono (s.get 3 rfl)) (rd.mono (s.get 3 rfl)) (re.mono (s.get 3 rfl)))) rfl ?_; rw [ten_tx hT]; refine rj_v rfl rfl (v_addS rfl rfl (by first | omega | (simp only [List.length_append, List.length_cons, List.length_nil]; omega))) rfl ?_; refine rj_v rfl rfl (v_addS rfl rfl (by first | omega | (simp only [List.length_append, List.length_cons, List.length_nil]; omega))) rfl ?_; refine rj_v rfl rfl (v_assign rfl) rfl (rj_end (qs_n (wp_rt ?_))); exact qs_ret1 rfl rfl (fin_q (i := 3) rfl (job_yes c8 rfl))
set_option maxHeartbeats 2000000 in
theorem ct_i_FormatJob (k p n at_ : Int) (ts : List Ten) (op ls : List Int) (ss : List Stp) (t : Ten) (vt vo a b c d e : Value) (w : World) (tb : PowR (hp w)) (r : TensR ts vt (hp w)) (r' : IntsR op vo (hp w)) (ra : IntsR ls a (hp w)) (rb : StepsR ss b (hp w)) (rc : IntsR t.l c (hp w)) (rd : IntsR t.d d (hp w)) (re : IntsR t.x e (hp w)) (hs : op.length ≤ 1048576) :
    Calls Tryz.prog 10 [netV k p n vt vo, jobV a b at_ c d e].toArray w (RetV w (strV (ifT (jobB k p n ts op ls ss at_ t) (jobTx k n ls ss at_ t)))) := by
  refine calls_in Tryz.func10 rfl Tryz.ntmps10 rfl (Sat.start w) ?_; have hle0 := r.le; obtain ⟨cs_r, rr_r, hc_r⟩ := r.at; have hle1 := r'.le; have hle2 := ra.le; have hle3 := rb.le; obtain ⟨cs_rb, rr_rb, hc_rb⟩ := rb.at; have hle4 := rc.le; have hle5 := rd.le; have hle6 := re.le; refine wp_sc (wp_sq ?_); refine sq_x rfl (x_box rfl rfl) rfl ?_; rintro _ _ ⟨b2, rfl, rfl⟩; refine sq_x rfl (x_box rfl rfl) rfl ?_; rintro _ _ ⟨b3, rfl, rfl⟩; refine sq_v rfl (v_assign rfl) rfl (sq_end (qs_n (wp_sc (wp_sc (wp_sq (sq_v rfl (v_loadNB 1 ty_39 rfl rfl rfl rfl) rfl (sq_v rfl (v_loadNB 0 ty_44 rfl rfl rfl rfl) rfl (sq_u rfl (x_callv rfl en_32 (fun w s => ct_i_JobOk _ _ _ _ _ _ _ _ _ _ _ _ _ _ _ _ w (r.mono (s.get 2 rfl)) (r'.mono (s.get 2 rfl)) (ra.mono (s.get 2 rfl)) (rb.mono (s.get 2 rfl)) (rc.mono (s.get 2 rfl)) (rd.mono (s.get 2 rfl)) (re.mono (s.get 2 rfl)) (by first | assumption | omega))) rfl (sq_v rfl (v_not rfl) rfl (sq_end (qs_n ?_))))))))))); refine wp_cn _ rfl (fun c12 => ?_) (fun c12 => ?_)
  · refine wp_sc (wp_sq (sq_v rfl (v_assign rfl) rfl (sq_end (qs_n (wp_rt (qs_r ?_)))))); exact qs_ret1 rfl rfl (fin_q (i := 2) rfl (job_no c12))
  · refine wp_sk (qs_n (wp_sc (wp_sq (sq_v rfl (v_assign rfl) rfl (sq_end (qs_n (wp_sc (wp_sc (wp_sq ?_))))))))); have hj := job_small (jobB_iff.1 c12); have hf1 := hj.1; have hf2 := hj.2.1; have hmI := hj.2.2.1; have hsl := hj.2.2.2.1; have hT := hj.2.2.2.2; have hl1 := intsT_len hf1; have hl2 := intsT_len hf2; have hl3 := itoa_len hmI; have hl4 := tenTx_len hT; refine sq_v rfl (v_fieldAddr fd_44_1 ty_41 (by decide) rfl) rfl (sq_v rfl (v_loadB 0 ty_41 rfl rfl rfl) rfl (sq_v rfl (v_len Tryz.underlying41 rfl rb.sl) rfl (sq_v rfl (v_move rfl) rfl (sq_end (qs_n (wp_bl ?_)))))); refine wp_lp (σ := Nat × Value × PH) (fun z_ => [(2, .pointer (some ⟨b2, 0, none⟩)), (3, .pointer (some ⟨b3, 0, none⟩)), (4, strV []), (5, z_.2.1), (14, b), (15, num ss.length), (16, num z_.1)]) (fun z_ => [z_.2.2, box b3 [a, b, num at_, c, d, e] 44, box b2 [num k, num p, num n, vt, vo] 39, hp w]) (fun z_ => z_.1 ≤ ss.length ∧ IntsO (numsL (ss.take z_.1)) z_.2.1 z_.2.2) (fun z_ => ss.length - z_.1) (0, .slice none 0 0, emp) (⟨by (try dsimp only); omega, IntsO.nil⟩) ⟨rfl, rfl, rfl, (by first | rfl | exact ksub rfl (by first | omega | (simp; done) | (simp; omega))), rfl, rfl, (by first | rfl | exact ksub rfl (by first | omega | (simp; done) | (simp; omega))), trivial⟩ (fun _ s => (emp_sat s)) ?_; rintro ⟨i, vx, hx⟩ ⟨hi, q⟩; dsimp only at hi q ⊢; have hle_q := q.toR.le; have hnl := numsL_len (ss.take i); rw [List.length_take] at hnl; refine wp_sc (wp_sq (sq_v rfl (v_lss rfl rfl) rfl (sq_end (qs_n (wp_sc ?_))))); refine wp_cd rfl (fun c17 => ?_) (fun c17 => ?_)
    · refine wp_sk (qs_n (wp_sc (wp_bl (wp_sc (wp_sq ?_))))); obtain ⟨x18, hx18, hcs18⟩ := hc_rb (i) (by first | omega | (rw [List.length_set]; omega)); refine sq_v rfl (v_indexAddr Tryz.underlying41 ty_69 rfl rfl rr_rb (by decide) (by omega) (by first | omega | (rw [List.length_set]; omega))) rfl ?_; refine sq_v rfl (v_loadNE 3 ty_69 rfl rfl rr_rb (by have := rr_rb.1; omega) rfl hcs18) rfl ?_; refine sq_x rfl (x_alloc ty_69 rfl) rfl ?_; rintro _ _ ⟨b7, rfl, rfl⟩; refine sq_m 0 rfl rfl (m_store 0 ty_69 rfl rfl rfl rfl (by simp [Value.oneCell']) rfl (Nat.le_of_ble_eq_true rfl)) rfl ?_; rintro _ _ ⟨rfl, rfl⟩; refine sq_end (qs_n (wp_sq (sq_v rfl (v_move rfl) rfl (sq_v rfl (v_fieldAddr fd_69_0 ty_3 (by decide) rfl) rfl (sq_v rfl (v_loadB 0 ty_3 rfl rfl rfl) rfl (sq_v rfl (v_fieldAddr fd_69_1 ty_3 (by decide) rfl) rfl (sq_v rfl (v_loadB 0 ty_3 rfl rfl rfl) rfl ?_))))))); refine sq_x rfl (x_buildS [num (x18.a), num (x18.b)] Tryz.underlying25 ty_3 (by decide) rfl rfl rfl (by decide) (by decide) (by intro v hv; simp at hv; rcases hv with rfl | rfl <;> rfl)) rfl ?_; intro v25 h25 (r25 : IntsO [x18.a, x18.b] v25 h25); refine sq_m 2 rfl rfl (m_appI 2 0 Tryz.underlying25 ty_3 rfl rfl rfl rfl q rfl r25.toR (by first | omega | (simp; omega) | (simp only [List.length_append, List.length_cons, List.length_nil]; omega) | (rw [List.length_set]; omega))) rfl ?_; intro v26 h_r26 r26; refine sq_v rfl (v_assign rfl) rfl (sq_end (qs_bn (qs_n (wp_sq ?_)))); refine sq_v rfl (v_add rfl rfl ((by unfold I64; omega))) rfl ?_; refine sq_v rfl (v_move rfl) rfl (sq_end ?_); exact qs_bk (i + 1, v26, h_r26) ⟨by (try dsimp only); omega, by (try dsimp only); rw [numsL_step hx18]; exact r26⟩ (by simp only; omega) ⟨rfl, rfl, rfl, (by first | rfl | exact ksub rfl (by first | omega | (simp; done) | (simp; omega))), rfl, rfl, (by first | rfl | exact ksub rfl (by first | omega | (simp; done) | (simp; omega))), trivial⟩ (fun _ s => s.pick [2, 3, 4, 5] (by decide) rfl)
    · refine wp_ex (qs_x (qs_x (qs_bx (qs_n (wp_sc (wp_rj 15 [(0, true), (1, true), (3, true), (5, true), (6, true), (8, true), (9, true), (10, true), (11, true), (2, false), (4, false), (7, false), (12, false), (13, false), (14, true)] mixed_ok (by kernel_rfl) ?_)))))); rw [List.take_of_length_le (by omega)] at q; refine rj_v rfl rfl (v_fieldAddr fd_44_0 ty_25 (by decide) rfl) rfl (rj_v rfl rfl (v_loadB 1 ty_25 rfl rfl rfl) rfl (rj_v rfl rfl (v_move rfl) rfl (rj_v rfl rfl (v_fieldAddr fd_44_2 ty_3 (by decide) rfl) rfl (rj_v rfl rfl (v_loadB 1 ty_3 rfl rfl rfl) rfl (rj_v rfl rfl (v_fieldAddr fd_39_0 ty_36 (by decide) rfl) rfl (rj_v rfl rfl (v_loadNB 2 ty_36 rfl rfl rfl rfl) rfl (rj_v rfl rfl (v_fieldAddr fd_44_3 ty_42 (by decide) rfl) rfl (rj_v rfl rfl (v_loadNB 1 ty_42 rfl rfl rfl rfl) rfl (rj_u rfl rfl (x_callv rfl en_33 (fun w s => ct_i_FormatInts _ _ w (tb.mono (s.get 3 rfl)) (ra.mono (s.get 3 rfl)) (by first | assumption | omega))) rfl ?_))))))))); refine rj_u rfl rfl (x_callv rfl en_33 (fun w s => ct_i_FormatInts _ _ w (tb.mono (s.get 3 rfl)) (q.toR.mono (s.get 0 rfl)) (by first | assumption | omega))) rfl (rj_u rfl rfl (x_callv rfl en_34 (fun w s => ct_i_FormatInt _ w (tb.mono (s.get 3 rfl)) (by first | assumption | omega))) rfl (rj_u rfl rfl (x_callv rfl en_35 (fun w s => ct_i_FormatTensor _ _ _ _ _ _ _ w (tb.mono (s.get 3 rfl)) (rc.mono (s.get 3 rfl)) (rd.mono (s.get 3 rfl)) (re.mono (s.get 3 rfl)))) rfl ?_)); rw [ten_tx hT]; refine rj_x rfl rfl (x_buildS [strV (intsT ls), strV (intsT (numsL ss)), strV (Lib.itoa at_), strV (tenTx k n t), strV []] Tryz.underlying70 ty_9 (by decide) rfl rfl rfl (by decide) (by decide) (by intro v hv; simp at hv; rcases hv with rfl | rfl | rfl | rfl | rfl <;> rfl)) rfl ?_; intro v41 h41 (r41 : StrsO [(intsT ls), (intsT (numsL ss)), (Lib.itoa at_), (tenTx k n t), []] v41 h41); refine rj_v rfl rfl (v_assign rfl) rfl (rj_end (qs_n (wp_sc (wp_sq (sq_v rfl (v_move rfl) rfl ?_))))); refine sq_u rfl (x_callv rfl en_36 (fun w s => ct_i_Join _ _ _ w (r41.toR.mono (s.get 0 rfl)) (Nat.le_of_ble_eq_true rfl) (by rw [jobTx_join]; simp only [jobTx, List.length_append, List.length_cons, List.length_nil]; omega))) rfl ?_; refine sq_v rfl (v_assign rfl) rfl (sq_end (qs_n (wp_rt ?_))); exact qs_ret1 rfl rfl (fin_q (i := 4) rfl (job_yes c12 (jobTx_join _ _ _ _ _ _)))
end Go.Proofs.YtiefkcaplhnnmaaGreatDoor
namespace Go.Proofs.YtiefkcaplhnnmaaGreatDoor
set_option maxRecDepth 100000
open Go.ChangeShapes Go.WideShapes Go.ChangeAt Go.RowKit
set_option maxHeartbeats 8000000 in
theorem ct_l_FnExactFormatJob (k p n m : Int) (ts : List Ten) (op : List Int) (ls : List Int) (ss : List Stp) (t : Ten) (vt vo a b c d e : Value) (w : World) (tb : PowR (hp w)) (r : TensR ts vt (hp w)) (r' : IntsR op vo (hp w)) (ra : IntsR ls a (hp w)) (rb : StepsR ss b (hp w)) (rc : IntsR t.l c (hp w)) (rd : IntsR t.d d (hp w)) (re : IntsR t.x e (hp w)) :
    Calls Tryz.prog 3 [netV k p n vt vo, jobV a b m c d e].toArray w (RetV w (.bool true)) := by
  have hnn := tensSize_nn ts; have htn := tenSize_nn t; refine calls_in Tryz.func3 rfl Tryz.ntmps3 rfl (Sat.start w) ?_; have hle0 := r.le; obtain ⟨cs_r, rr_r, hc_r⟩ := r.at; have hle1 := r'.le; have hle2 := ra.le; have hle3 := rb.le; obtain ⟨cs_rb, rr_rb, hc_rb⟩ := rb.at; have hle4 := rc.le; have hle5 := rd.le; have hle6 := re.le; refine wp_sc (wp_sq ?_); refine sq_x rfl (x_box rfl rfl) rfl ?_; rintro _ _ ⟨b2, rfl, rfl⟩; refine sq_x rfl (x_box rfl rfl) rfl ?_; rintro _ _ ⟨b3, rfl, rfl⟩; refine sq_v rfl (v_assign rfl) rfl (sq_end (qs_n (wp_sc (wp_sq (sq_v rfl (v_assign rfl) rfl (sq_end (qs_n (wp_sc (wp_sq (sq_v rfl (v_loadNB 1 ty_27 rfl rfl rfl rfl) rfl (sq_v rfl (v_move rfl) rfl (sq_u rfl (x_callv rfl en_5 (fun w s => ct_l_szNetwork _ _ _ _ _ _ _ _ w (r.mono (s.get 2 rfl)) (r'.mono (s.get 2 rfl)) (by first | assumption | exact iota_held _ _ | omega | rfl))) rfl (sq_v rfl (v_assign rfl) rfl (sq_end (qs_n (wp_sc (wp_sc (wp_sq (sq_v rfl (v_move rfl) rfl (sq_v rfl (v_lss rfl rfl) rfl (sq_end (qs_n ?_)))))))))))))))))))))); refine wp_cd rfl (fun c14 => ?_) (fun c14 => ?_)
  · refine wp_sc (wp_sq (sq_v rfl (v_assign rfl) rfl (sq_end (qs_n (wp_rt (qs_r ?_)))))); exact qs_ret1 rfl rfl (fin_v (i := 2) rfl)
  · have hz14 := szV_ge c14; refine wp_sk (qs_n (wp_sc (wp_sq (sq_v rfl (v_loadNB 0 ty_32 rfl rfl rfl rfl) rfl (sq_v rfl (v_move rfl) rfl (sq_u rfl (x_callv rfl en_6 (fun w s => ct_l_szJob _ _ _ _ _ _ _ _ _ _ w (ra.mono (s.get 2 rfl)) (rb.mono (s.get 2 rfl)) (rc.mono (s.get 2 rfl)) (rd.mono (s.get 2 rfl)) (re.mono (s.get 2 rfl)) (by first | assumption | exact iota_held _ _ | omega | rfl))) rfl (sq_v rfl (v_assign rfl) rfl (sq_end (qs_n (wp_sc (wp_sc (wp_sq (sq_v rfl (v_move rfl) rfl (sq_v rfl (v_lss rfl rfl) rfl (sq_end (qs_n ?_)))))))))))))))); refine wp_cd rfl (fun c19 => ?_) (fun c19 => ?_)
    · refine wp_sc (wp_sq (sq_v rfl (v_assign rfl) rfl (sq_end (qs_n (wp_rt (qs_r ?_)))))); exact qs_ret1 rfl rfl (fin_v (i := 2) rfl)
    · have hz19 := szV_ge c19; refine wp_sk (qs_n (wp_sc (wp_rj 6 [(0, true), (2, true), (1, false), (3, false), (4, false), (5, true)] mixed_ok (by kernel_rfl) (rj_v rfl rfl (v_loadNB 1 ty_27 rfl rfl rfl rfl) rfl (rj_v rfl rfl (v_loadNB 0 ty_32 rfl rfl rfl rfl) rfl ?_))))); refine rj_x rfl rfl (x_call rfl en_8 (fun w s => ct_L_toNetwork _ _ _ _ _ _ _ w (r.mono (s.get 2 rfl)) (r'.mono (s.get 2 rfl)) (by first | assumption | exact iota_held _ _ | omega | rfl))) rfl ?_; rintro _ h21 ⟨vt21, vo21, rfl, o21⟩; obtain ⟨cs_T_21, rr_T_21, hc_T_21⟩ := o21.toR.1.at; refine rj_x rfl rfl (x_call rfl en_9 (fun w s => ct_l_toJob _ _ _ _ _ _ _ _ _ w (ra.mono (s.get 3 rfl)) (rb.mono (s.get 3 rfl)) (rc.mono (s.get 3 rfl)) (rd.mono (s.get 3 rfl)) (re.mono (s.get 3 rfl)) (by first | assumption | exact iota_held _ _ | omega | rfl))) rfl ?_; rintro _ h23 ⟨va23, vb23, vc23, vd23, ve23, rfl, o23⟩; obtain ⟨cs_S_23, rr_S_23, hc_S_23⟩ := o23.toR.2.1.at; refine rj_u rfl rfl (x_callv rfl en_7 (fun w s => ct_s_FormatJob _ _ _ _ _ _ _ _ _ _ _ _ _ _ _ _ w (o21.toR.1.mono (s.get 1 rfl)) (o21.toR.2.mono (s.get 1 rfl)) (o23.toR.1.mono (s.get 0 rfl)) (o23.toR.2.1.mono (s.get 0 rfl)) (o23.toR.2.2.1.mono (s.get 0 rfl)) (o23.toR.2.2.2.1.mono (s.get 0 rfl)) (o23.toR.2.2.2.2.mono (s.get 0 rfl)) (by first | assumption | exact iota_held _ _ | omega | rfl) (by first | assumption | exact iota_held _ _ | omega | rfl))) rfl (rj_v rfl rfl (v_assign rfl) rfl (rj_end (qs_n (wp_sc (wp_sq (sq_v rfl (v_loadNB 3 ty_27 rfl rfl rfl rfl) rfl ?_)))))); refine sq_x rfl (x_call rfl en_8 (fun w s => ct_L_toNetwork _ _ _ _ _ _ _ w (r.mono (s.get 4 rfl)) (r'.mono (s.get 4 rfl)) (by first | assumption | exact iota_held _ _ | omega | rfl))) rfl ?_; rintro _ h26 ⟨vt26, vo26, rfl, o26⟩; obtain ⟨cs_T_26, rr_T_26, hc_T_26⟩ := o26.toR.1.at; refine sq_x rfl (x_alloc ty_39 rfl) rfl ?_; rintro _ _ ⟨b7, rfl, rfl⟩; refine sq_m 0 rfl rfl (m_store 0 ty_39 rfl rfl rfl rfl (by simp [one_int, o26.toR.1.sl.one, o26.toR.2.sl.one]) rfl (Nat.le_of_ble_eq_true rfl)) rfl ?_; rintro _ _ ⟨rfl, rfl⟩; refine sq_end (qs_n (wp_sc (wp_sq (sq_v rfl (v_loadNB 4 ty_32 rfl rfl rfl rfl) rfl ?_)))); refine sq_x rfl (x_call rfl en_9 (fun w s => ct_l_toJob _ _ _ _ _ _ _ _ _ w (ra.mono (s.get 6 rfl)) (rb.mono (s.get 6 rfl)) (rc.mono (s.get 6 rfl)) (rd.mono (s.get 6 rfl)) (re.mono (s.get 6 rfl)) (by first | assumption | exact iota_held _ _ | omega | rfl))) rfl ?_; rintro _ h28 ⟨va28, vb28, vc28, vd28, ve28, rfl, o28⟩; obtain ⟨cs_S_28, rr_S_28, hc_S_28⟩ := o28.toR.2.1.at; refine sq_x rfl (x_alloc ty_44 rfl) rfl ?_; rintro _ _ ⟨b8, rfl, rfl⟩; refine sq_m 0 rfl rfl (m_store 0 ty_44 rfl rfl rfl rfl (by simp [one_int, o28.toR.1.sl.one, o28.toR.2.1.sl.one, o28.toR.2.2.1.sl.one, o28.toR.2.2.2.1.sl.one, o28.toR.2.2.2.2.sl.one]) rfl (Nat.le_of_ble_eq_true rfl)) rfl ?_; rintro _ _ ⟨rfl, rfl⟩; refine sq_end (qs_n (wp_sc (wp_sq (sq_v rfl (v_loadNB 2 ty_39 rfl rfl rfl rfl) rfl (sq_v rfl (v_loadNB 0 ty_44 rfl rfl rfl rfl) rfl (sq_u rfl (x_callv rfl en_10 (fun w s => ct_i_FormatJob _ _ _ _ _ _ _ _ _ _ _ _ _ _ _ _ w (tb.mono (s.get 8 rfl)) (o26.toR.1.mono (s.get 3 rfl)) (o26.toR.2.mono (s.get 3 rfl)) (o28.toR.1.mono (s.get 1 rfl)) (o28.toR.2.1.mono (s.get 1 rfl)) (o28.toR.2.2.1.mono (s.get 1 rfl)) (o28.toR.2.2.2.1.mono (s.get 1 rfl)) (o28.toR.2.2.2.2.mono (s.get 1 rfl)) (by first | assumption | exact iota_held _ _ | omega | rfl))) rfl (sq_v rfl (v_assign rfl) rfl (sq_end (qs_n (wp_sc (wp_sc (wp_sq (sq_v rfl (v_move rfl) rfl (sq_v rfl (v_move rfl) rfl (sq_v rfl (v_neqsS Tryz.underlying9 rfl rfl) rfl (sq_end (qs_n (wp_cf rfl (wp_sk (qs_n (wp_sc (wp_sc (wp_rj 5 [(0, true), (1, true), (2, false), (3, false), (4, true)] mixed_ok (by kernel_rfl) (rj_v rfl rfl (v_loadNB 2 ty_39 rfl rfl rfl rfl) rfl ?_)))))))))))))))))))))))); refine rj_v rfl rfl (v_loadNB 7 ty_27 rfl rfl rfl rfl) rfl ?_; refine rj_x rfl rfl (x_call rfl en_8 (fun w s => ct_L_toNetwork _ _ _ _ _ _ _ w (r.mono (s.get 8 rfl)) (r'.mono (s.get 8 rfl)) (by first | assumption | exact iota_held _ _ | omega | rfl))) rfl ?_; rintro _ h37 ⟨vt37, vo37, rfl, o37⟩; obtain ⟨cs_T_37, rr_T_37, hc_T_37⟩ := o37.toR.1.at; refine rj_u rfl rfl (x_callv rfl en_11 (fun w s => ct_l_eqNetwork _ _ _ _ _ _ _ _ _ w (o26.toR.1.mono (s.get 4 rfl)) (o26.toR.2.mono (s.get 4 rfl)) (o37.toR.1.mono (s.get 0 rfl)) (o37.toR.2.mono (s.get 0 rfl)))) rfl (rj_v rfl rfl (v_not rfl) rfl (rj_end (qs_n (wp_cf rfl (wp_sk (qs_n (wp_sc (wp_sc (wp_rj 5 [(0, true), (1, true), (2, false), (3, false), (4, true)] mixed_ok (by kernel_rfl) (rj_v rfl rfl (v_loadNB 1 ty_44 rfl rfl rfl rfl) rfl (rj_v rfl rfl (v_loadNB 7 ty_32 rfl rfl rfl rfl) rfl ?_))))))))))); refine rj_x rfl rfl (x_call rfl en_9 (fun w s => ct_l_toJob _ _ _ _ _ _ _ _ _ w (ra.mono (s.get 9 rfl)) (rb.mono (s.get 9 rfl)) (rc.mono (s.get 9 rfl)) (rd.mono (s.get 9 rfl)) (re.mono (s.get 9 rfl)) (by first | assumption | exact iota_held _ _ | omega | rfl))) rfl ?_; rintro _ h42 ⟨va42, vb42, vc42, vd42, ve42, rfl, o42⟩; obtain ⟨cs_S_42, rr_S_42, hc_S_42⟩ := o42.toR.2.1.at; refine rj_u rfl rfl (x_callv rfl en_12 (fun w s => ct_l_eqJob _ _ _ _ _ _ _ _ _ _ _ _ _ _ w (o28.toR.1.mono (s.get 3 rfl)) (o28.toR.2.1.mono (s.get 3 rfl)) (o28.toR.2.2.1.mono (s.get 3 rfl)) (o28.toR.2.2.2.1.mono (s.get 3 rfl)) (o28.toR.2.2.2.2.mono (s.get 3 rfl)) (o42.toR.1.mono (s.get 0 rfl)) (o42.toR.2.1.mono (s.get 0 rfl)) (o42.toR.2.2.1.mono (s.get 0 rfl)) (o42.toR.2.2.2.1.mono (s.get 0 rfl)) (o42.toR.2.2.2.2.mono (s.get 0 rfl)))) rfl (rj_v rfl rfl (v_not rfl) rfl (rj_end (qs_n (wp_cf rfl (wp_sk (qs_n (wp_sc (wp_sq ?_))))))))
      refine sq_v rfl (v_assign rfl) rfl (sq_end (qs_n (wp_rt ?_))); exact qs_ret1 rfl rfl (fin_v (i := 10) rfl)
theorem laid_pow_fnExactFormatJob {W : World} (h : laidMet Tryz.prog Rows.fnExactFormatJobRow.laid W) : Lib.TabIs Tryz.prog W "internal/strconv.uint64pow10" .u64 Lib.pow10Tab := by
  have h1 := h
  replace h1 := laidMet.tail h1
  replace h1 := laidMet.tail h1
  exact Lib.tabIs_of_head (g := 2) (t := 174) (by kernel_rfl) (by kernel_rfl) Tryz.underlying174 Tryz.underlying153 (by kernel_rfl) (by kernel_rfl) h1
theorem door_fnExactFormatJob (os : Os) (args : Array Value) : laidMetH Tryz.prog Rows.fnExactFormatJobRow.laid ((World.doorLaid Tryz.prog 72 os).forCall (fun _ _ => 0) ⟨#[], args, []⟩).memory :=
  laidMetH_of_parts3 (fuel := 8) (laidMet_of_run' 8 (by kernel_rfl) (by kernel_rfl)) (by kernel_rfl) (by kernel_rfl)
set_option maxRecDepth 100000 in
theorem lifted_fnExactFormatJob (os : Os) (started : os.Started) (H : Type) (enc : TypeId × Value → H) :
    ReturnsInHanded {} Tryz.checked os 3 .any (fun w args => (Rows.fnExactFormatJobSpec.pre enc Tryz.prog Tryz.f3 [] false w args ∧ laidMetH Tryz.prog Rows.fnExactFormatJobRow.laid w) ∧ sizedMet enc Tryz.prog Tryz.f3 (OpenSpec.ofChange Rows.fnExactFormatJobSpec) false w args) (Rows.fnExactFormatJobSpec.post enc Tryz.prog Tryz.f3 false true false false) := by
  refine returnsInHanded_of_change_and (C := Tryz.checked) (X := fun w _ => laidMetH Tryz.prog Rows.fnExactFormatJobRow.laid w) (fun _ _ _ hh h => h.of_heap hh) lift_own started (by kernel_rfl) Tryz.func3
    (ChangeSpec.witness_shaped (enc := enc) (C := Tryz.checked) (os := os) (X := fun w _ => laidMetH Tryz.prog Rows.fnExactFormatJobRow.laid w) false (World.doorLaid Tryz.prog 72 os) #[.agg #[.int .i64 0, .int .i64 0, .int .i64 0, .slice none 0 0, .slice none 0 0], .agg #[.slice none 0 0, .slice none 0 0, .int .i64 0, .slice none 0 0, .slice none 0 0, .slice none 0 0]] 8 rfl (World.shaped_of_RefB (by kernel_rfl) (by kernel_rfl)) (by kernel_rfl) (by kernel_rfl) (by kernel_rfl) (door_fnExactFormatJob os _)) ?_
  intro W base args ds gs before hval0 hW _ hsz0 hL _; rw [MakeChecks.laidMetH_plain _ _ _ (by kernel_rfl)] at hL; have htab := laid_pow_fnExactFormatJob hL; have tb : PowR (hp W) := pow_start htab; have hval : ∀ (j : Nat) t v, Tryz.f3.params[j]? = some t → args[j]? = some v → Value.okWide Tryz.prog W .any base t v := hval0; have hW' := hW; obtain ⟨p, q, hA0, hV, rfl, hfz, hnd⟩ := hW; have hlt : ∀ x ∈ p, x.block < W.heap.size := fun x hx => by simpa using hW'.lt x (by simp [hx])
  have hA : DataW.TrodAll enc Tryz.prog W 0 (fun _ => true) true Tryz.f3.params.toList args.toList ds p := hA0; have hA1 := hA; rw [Tryz.params3] at hA1 hval; obtain ⟨v0, vs0, d0, ds0, p0, q0, hargs, rfl, rfl, h0, r0⟩ := trodAll_cons hA1; obtain ⟨v1, vs1, d1, ds1, p1, q1, rfl, rfl, rfl, h1, r1⟩ := trodAll_cons r0; obtain ⟨rfl, rfl, rfl⟩ := trodAll_nil r1; obtain rfl : args = #[v0, v1] := by cases args; simp_all
  obtain ⟨rfl, rfl⟩ := trodVars_none hV; have k0 := hval 0 27 v0 rfl rfl; have k1 := hval 1 32 v1 rfl rfl; obtain ⟨x0, x1, x2, ts, op, vt, vo, rfl, rt, ro⟩ := arg_network k0 h0; obtain ⟨ls, ss, m, t, a, b, c, d, e, rfl, ra, rb, rc, rd, re⟩ := arg_job k1 h1; refine (show Calls Tryz.prog 3 _ W (RetV W (.bool true)) from ct_l_FnExactFormatJob x0 x1 x2 m ts op ls ss t vt vo a b c d e W tb rt ro ra rb rc rd re).mono fun e W' ⟨he, hu⟩ => ?_; subst he; refine ⟨_, rfl, _, _, _, [], _, [], hW', trodAll_mk1 (shut_bool Tryz.underlying4 true), trodAll_below lift_laid hu.below (by kernel_rfl) hA hlt, rfl, hu.below.frame _, fun h => by cases h⟩
set_option maxHeartbeats 4000000 in
theorem joined_fnExactFormatJob : joinedFacts Tryz.pinned.checked.prog 3 Tryz.f3 Rows.fnExactFormatJobSpec Rows.fnExactFormatJobRow = true := by
  unfold joinedFacts
  repeat' (with_reducible refine cd_and ?_ ?_)
  all_goals first | with_reducible exact cd_enter | (with_reducible refine cd_lifts' ?_; rfl) | (with_reducible refine cd_make' ?_; rfl) | (as_aux_lemma => kernel_rfl)
theorem named_fnExactFormatJob : Tryz.pinned.checked.prog.funcNamed Rows.fnExactFormatJobRow.func = some 3 := by kernel_rfl
theorem over_fnExactFormatJob : Rows.fnExactFormatJobRow.holds Tryz.pinned (OpenSpec.ofChange Rows.fnExactFormatJobSpec) :=
  OpenClaim.holds_of_wide 3 Tryz.f3 rfl rfl rfl rfl rfl rfl rfl ⟨rfl, rfl, rfl, rfl, rfl⟩ rfl rfl rfl rfl rfl named_fnExactFormatJob Tryz.func3 joined_fnExactFormatJob
    (of_decide_eq_true (by kernel_rfl)) (by unfold Func.isWrapper; first | (rw [if_pos (by decide +kernel)]; kernel_rfl) | (rw [if_neg (by decide +kernel)]; exact ⟨rfl, rfl⟩))
    (fun os started H enc _ => lifted_fnExactFormatJob os started H enc)
/-- The card of the law FnExactFormatJob: the law holds at every input, where the tables that it reads are what the program's text lays. -/
theorem proved_fnExactFormatJob : Rows.FnExactFormatJobCardSaid :=
  Claim7.holds_tied_plain_at .later [] [.data, .data, .data] true (true, "5577b0499db799e72c2d0e8ad00b069def81ac1ba45e958809c77cf167479ef0") true over_fnExactFormatJob (fun _ h => by cases h) (by kernel_rfl) (fun _ h => by cases h) fnExactFormatJob_row_tie rfl ⟨rfl, rfl⟩ (by kernel_rfl) rfl
    (fun f fn hf hfn => by
      obtain rfl : f = 3 := Option.some.inj (named_fnExactFormatJob.symm.trans hf) |>.symm; obtain rfl : fn = Tryz.f3 := (Option.some.inj (Tryz.func3.symm.trans hfn)).symm; exact ⟨by kernel_rfl, fun j t ht => by
        rw [Tryz.params3] at ht; have hm : t ∈ [27, 32] := by simpa using Array.mem_of_getElem? ht
        have hall : ([27, 32].all fun u => !Tryz.prog.wantsStandIn u) = true := by kernel_rfl
        exact (show Tryz.prog.wantsStandIn t = false by simpa using List.all_eq_true.1 hall t hm)⟩)
    (by kernel_rfl)
#print axioms proved_fnExactFormatJob
end Go.Proofs.YtiefkcaplhnnmaaGreatDoor
