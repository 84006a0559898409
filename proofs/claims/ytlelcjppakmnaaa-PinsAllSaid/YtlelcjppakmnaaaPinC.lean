/-
  More contracts of chapter 14: rows, in order. (Printed by wip/gen/t14c.py of this repo.)
-/
import Derived.Test.YtlelcjppakmnaaaPinB
namespace Go.Proofs.Ytlelcjppakmnaaa
open Go Go.SL Go.Proofs
set_option linter.unusedVariables false

theorem X_strAtE {ρ : Option Nat} {P : Program} {f : Fr} {w : World} {K : Value → World → Prop} {t t0 : TypeId} {x y : Operand} {k : IntKind} {s : ByteArray} {i : Nat} (hx : ev f x = .string s) (hy : ev f y = .int k i) (hi : i < s.data.size) (h : ∀ b : UInt8, K (byteV b) w) (hu : P.underlying t = some .string) : Exec ρ P (.index t x y) t0 f w K :=
  X_strAt hx hy (Array.getElem?_eq_getElem hi) (h _) hu
def gD (ys : List Int) (p : Nat) : Int := ys.getD p 0
theorem gD_at {ys : List Int} {p : Nat} (h : p < ys.length) : ys[p]? = some (gD ys p) := by unfold gD; rw [List.getD_eq_getElem?_getD, List.getElem?_eq_getElem h]; rfl
theorem gD_set {ys : List Int} {k : Nat} (hk : k < ys.length) (a : Int) (p : Nat) : gD (ys.set k a) p = if p = k then a else gD ys p := by
  unfold gD
  rw [List.getD_eq_getElem?_getD, List.getD_eq_getElem?_getD, List.getElem?_set]
  by_cases h : k = p
  · subst h; rw [if_pos rfl, if_pos hk, if_pos rfl]; rfl
  · rw [if_neg h, if_neg fun e => h e.symm]
def swapA (ys : List Int) (j : Nat) : List Int := (ys.set j (gD ys (j - 1))).set (j - 1) (gD ys j)
theorem swapA_len (ys : List Int) (j : Nat) : (swapA ys j).length = ys.length := by unfold swapA; rw [List.length_set, List.length_set]
theorem swapA_get {ys : List Int} {j : Nat} (h0 : 0 < j) (hj : j < ys.length) (p : Nat) : gD (swapA ys j) p = if p = j - 1 then gD ys j else if p = j then gD ys (j - 1) else gD ys p := by
  unfold swapA
  rw [gD_set (by rw [List.length_set]; omega), gD_set hj]
theorem swapA_perm : ∀ {ys : List Int} {j : Nat}, 0 < j → j < ys.length → (swapA ys j).Perm ys
  | [], j, _, h => absurd h (Nat.not_lt_zero j)
  | a :: [], j, h0, h => by have h : j < 1 := h; omega
  | a :: b :: r, 1, _, _ => List.Perm.swap a b r
  | a :: b :: r, j + 2, _, h => by
    have e : swapA (a :: b :: r) (j + 2) = a :: swapA (b :: r) (j + 1) := by
      unfold swapA gD
      rw [show j + 2 - 1 = j + 1 from rfl, show j + 1 - 1 = j from rfl, List.set_cons_succ, List.set_cons_succ, List.getD_cons_succ, List.getD_cons_succ]
    rw [e]
    exact (swapA_perm (ys := b :: r) (j := j + 1) (by omega) (Nat.lt_of_succ_lt_succ h)).cons a
/-- the first i stand in order -/
def SrtA (ys : List Int) (i : Nat) : Prop := ∀ p q, p < q → q < i → gD ys p ≤ gD ys q
/-- the first i + 1 stand in order but for the one at j, which is none above those behind it -/
def SrtJ (ys : List Int) (i j : Nat) : Prop := (∀ p q, p < q → q ≤ i → p ≠ j → q ≠ j → gD ys p ≤ gD ys q) ∧ ∀ q, j < q → q ≤ i → gD ys j ≤ gD ys q
theorem srt_in {ys : List Int} {i : Nat} (h : SrtA ys i) : SrtJ ys i i := ⟨fun p q h1 h2 _ h4 => h p q h1 (by omega), fun q h1 h2 => by omega⟩
theorem srt_out {ys : List Int} {i j : Nat} (h : SrtJ ys i j) (hj : j = 0 ∨ gD ys (j - 1) ≤ gD ys j) : SrtA ys (i + 1) := by
  intro p q h1 h2
  by_cases hp : p = j
  · subst hp; exact h.2 q h1 (by omega)
  · by_cases hq : q = j
    · subst hq
      rcases hj with hj | hj
      · omega
      · by_cases hp2 : p = q - 1
        · subst hp2; exact hj
        · have := h.1 p (q - 1) (by omega) (by omega) hp (by omega); omega
    · exact h.1 p q h1 (by omega) hp hq
theorem srt_swap {ys : List Int} {i j : Nat} (h : SrtJ ys i j) (h0 : 0 < j) (hj : j < ys.length) (hji : j ≤ i) (hlt : gD ys j < gD ys (j - 1)) : SrtJ (swapA ys j) i (j - 1) := by
  constructor
  · intro p q h1 h2 h3 h4
    rw [swapA_get h0 hj, swapA_get h0 hj, if_neg h3, if_neg h4]
    by_cases hp : p = j
    · rw [if_pos hp, if_neg (by omega)]
      exact h.1 (j - 1) q (by omega) h2 (by omega) (by omega)
    · rw [if_neg hp]
      by_cases hq : q = j
      · rw [if_pos hq]; exact h.1 p (j - 1) (by omega) (by omega) hp (by omega)
      · rw [if_neg hq]; exact h.1 p q h1 h2 hp hq
  · intro q h1 h2
    rw [swapA_get h0 hj, swapA_get h0 hj, if_pos rfl, if_neg (by omega)]
    by_cases hq : q = j
    · rw [if_pos hq]; omega
    · rw [if_neg hq]; exact h.2 q (by omega) h2
theorem srt_pw {ys : List Int} (h : SrtA ys ys.length) : ys.Pairwise (· ≤ ·) := by
  rw [List.pairwise_iff_getElem]
  intro p q hp hq h1
  have h2 := h p q h1 hq
  unfold gD at h2
  rw [List.getD_eq_getElem?_getD, List.getD_eq_getElem?_getD, List.getElem?_eq_getElem hp, List.getElem?_eq_getElem hq] at h2
  exact h2

theorem c_appseq (b x1 : Nat) (on : List Bool) (tx : List Int) (w : World) (hX : Blk w x1 #[(.slice (some ⟨b, 0, none⟩) 8 8), (.slice (some ⟨b, 8, none⟩) 8 8)] 48) (hP : Blk w b (pinC on tx).toArray 26) (hon : on.length = 8) (htx : tx.length = 8) : CT Try.prog 21 #[(.slice none 0 0), (.func (.func 20) #[] #[ptr x1 0])] w fun v w' => Own w' w.heap.size 23 1 v (openL on tx).length ((openL on tx).map u32V) ∧ Ext w w' := by
  obtain ⟨n0, hn0⟩ : ∃ n, n = w.heap.size := ⟨_, rfl⟩
  have hU : Upd (fun i => n0 ≤ i) w w := Upd.refl _ _
  have hxl0 := hX.lt; have hbl0 := hP.lt
  refine CT_of Try.func21 rfl rfl rfl ?_
  refine W_seq ?_
  refine W_reg ?_
  refine L_op rfl (X_box (v := (.slice none 0 0)) (c := #[(.slice none 0 0)]) rfl rfl ?_)
  intro b1 w1 hn1
  have hbn1 := hn1.num; have hbs1 := hn1.size
  replace hX := hX.ext hn1.ext
  replace hP := hP.ext hn1.ext
  replace hU := hU.trans (Ext.upd hn1.ext)
  have hB1 := hn1.blk
  refine L_op rfl (X_assign (v := (.slice none 0 0)) rfl ?_)
  refine L_nil ?_
  refine T_n ?_
  refine W_seq ?_
  refine W_seq ?_
  refine W_reg ?_
  refine L_op rfl (X_move (v := (.func (.func 20) #[] #[ptr x1 0])) rfl ?_)
  refine L_nil ?_
  refine T_n ?_
  refine W_block ?_
  obtain ⟨nL, hnL⟩ : ∃ n, n = w1.heap.size := ⟨_, rfl⟩
  refine W_rangeJ (lb := [ptr x1 0]) (xs := (openX on tx)) rfl en20 (c_all1 b x1 on tx hon htx) rfl (fun x hx => by unfold openX at hx; obtain ⟨y, _, rfl⟩ := List.mem_map.1 hx; rfl) (fun b => b = b1 ∨ nL + 2 ≤ b) (fun b hb_ => ⟨by rcases hb_ with h | h <;> omega, by rcases hb_ with h | h <;> omega⟩) (fun b h => h.elim) (fun k W => ∃ u, Blk W b1 #[u] 27 ∧ Own W (nL + 2) 23 1 u k (((openL on tx).take k).map u32V) ∧ Blk W x1 #[(.slice (some ⟨b, 0, none⟩) 8 8), (.slice (some ⟨b, 8, none⟩) 8 8)] 48 ∧ Blk W b (pinC on tx).toArray 26 ∧ Upd (fun i => n0 ≤ i) w W) (fun k e W => False) (fun k W h => by obtain ⟨u, _, _, h1, h2, _⟩ := h; exact ⟨h1, h2⟩) (fun k W W2 hI hu => by obtain ⟨u, h1, h2, h3, h4, hU⟩ := hI; exact ⟨u, h1.upd hu fun h => by { rcases h with h | h; (· exact h); (· omega) }, h2.upd hu fun i hi h => by { have h9 := h2.lt hi; rcases h with h | h; (· exact h); (· omega) }, h3.upd hu fun h => by { rcases h with h | h; (· exact h); (· omega) }, h4.upd hu fun h => by { rcases h with h | h; (· exact h); (· omega) }, hU.trans (hu.mono fun i _ h => by { rcases h with h | h; (· exact h.elim); (· show n0 ≤ i; omega) })⟩) (fun k e W W2 hI hu => hI) ?_ ?_ ?_ ?_
  · intro W hx_ hs_
    exact ⟨_, hB1.ext hx_, Own.nil _ _ _ _, hX.ext hx_, hP.ext hx_, hU.trans (Ext.upd hx_)⟩
  · intro k x W hk_ hI_ hsz_ hlp_
    obtain ⟨u, hB1, hO, hX, hP, hU⟩ := hI_
    obtain ⟨y_, hy_, rfl⟩ := openX_out hk_
    have hk8 : k < 8 := by have h1 := (List.getElem?_eq_some_iff.1 hk_).1; rw [openX_length, open_len (by omega)] at h1; have := List.countP_le_length (p := id) (l := on); omega
    have hxl := hX.lt; have hbl := hP.lt; have hb1l := hB1.lt
    obtain ⟨s9, hs9⟩ : ∃ n, n = W.heap.size := ⟨_, rfl⟩
    have hO_b : ∀ b, obk u = some b → nL + 2 ≤ b ∧ b < s9 := fun b hb => by rw [hs9]; exact hO.lt hb
    have hD := Upd.refl (fun b => b = b1 ∨ nL + 2 ≤ b) W
    refine W_reg ?_
    refine L_op rfl (X_assign (v := (u32V y_)) rfl ?_)
    refine L_nil ?_
    refine T_n ⟨hD, fun W2 hu2_ hlp2_ => ?_⟩
    have hsz2_ := hu2_.size
    replace hB1 := hB1.upd hu2_ fun h => by have h : b1 = nL + 1 := (by rw [hnL]; exact h); omega
    replace hO := hO.upd hu2_ fun i hi h => by have hi := hO_b _ hi; have h : i = nL + 1 := (by rw [hnL]; exact h); omega
    replace hX := hX.upd hu2_ fun h => by have h : x1 = nL + 1 := (by rw [hnL]; exact h); omega
    replace hP := hP.upd hu2_ fun h => by have h : b = nL + 1 := (by rw [hnL]; exact h); omega
    replace hU := hU.trans (hu2_.mono fun i _ h => by have h : i = nL + 1 := (by rw [hnL]; exact h); show n0 ≤ i; omega)
    have hD := Upd.refl (fun b => b = b1 ∨ nL + 2 ≤ b) W2
    refine W_block ?_
    refine W_reg ?_
    refine L_op rfl (X_load (p := (ptr b1 (0))) (v := u) T27 rfl (hB1.at1 rfl) ?_)
    refine L_op rfl (X_move (v := (u32V y_)) rfl ?_)
    refine L_op rfl (X_buildSlice1 (vs := [(u32V y_)]) S27 (by decide) rfl rfl (List.forall_mem_cons.2 ⟨rfl, (fun _ h => by cases h)⟩) ?_)
    intro b2 w2 hn2
    have hbn2 := hn2.num; have hbs2 := hn2.size
    replace hB1 := hB1.ext hn2.ext
    replace hO := hO.ext hn2.ext
    replace hX := hX.ext hn2.ext
    replace hP := hP.ext hn2.ext
    replace hU := hU.trans (Ext.upd hn2.ext)
    replace hD := hD.trans (Ext.upd hn2.ext)
    have hB2 := hn2.blk
    refine L_op rfl (X_append (B := nL + 2) (n := k) (s := u) (x := (.slice (some ⟨b2, 0, none⟩) 1 1)) S27 ⟨_, Try.underlying27⟩ rfl rfl hO (m := 1) (ys := [u32V y_]) (hB2.rd (o := 0) (n := 1) (c := 1) (sz := 1) (by decide) (by decide) rfl (fun j u hj => by rw [Nat.zero_add]; simpa using hj)) (List.forall_mem_cons.2 ⟨rfl, fun _ h => by cases h⟩) (by unfold maxLen; omega) (by omega) (by omega) ?_)
    intro v5 w5 hO5 hu5 _
    have hz5 := hu5.size
    replace hO5 : Own w5 (nL + 2) 23 1 v5 (k + 1) (((openL on tx).take (k + 1)).map u32V) := hO5.eq rfl (by rw [List.take_add_one, hy_, List.map_append]; rfl)
    replace hB1 := hB1.upd hu5 fun h => by have h := hO_b b1 h; omega
    replace hX := hX.upd hu5 fun h => by have h := hO_b x1 h; omega
    replace hP := hP.upd hu5 fun h => by have h := hO_b b h; omega
    replace hU := hU.trans (hu5.mono fun i _ h => by have h := hO_b i h; show n0 ≤ i; omega)
    replace hD := hD.trans (hu5.mono fun i _ h => by have h := hO_b i h; show i = b1 ∨ nL + 2 ≤ i; omega)
    have hO5_b : ∀ b, obk v5 = some b → nL + 2 ≤ b := fun b hb => (hO5.lt hb).1
    refine L_op0 (X_store (b := b1) (o := 0) T27 rfl rfl (hO5.sv.one) hB1 (by show (0 : Nat) < 1; decide) ?_)
    intro w3 hu3 hb3
    have hz3 := hu3.size
    replace hX := hX.upd hu3 fun h => by have h : x1 = b1 := h; omega
    replace hP := hP.upd hu3 fun h => by have h : b = b1 := h; omega
    replace hU := hU.trans (hu3.mono fun i _ h => by have h : i = b1 := h; show n0 ≤ i; omega)
    replace hD := hD.trans (hu3.mono fun i _ h => by have h : i = b1 := h; show i = b1 ∨ nL + 2 ≤ i; omega)
    replace hO5 := hO5.upd hu3 fun i hi h => by have hi := hO5_b _ hi; have h : i = b1 := h; omega
    replace hB1 : Blk w3 b1 #[v5] 27 := hb3
    refine L_nil ?_
    refine B_n ?_
    exact RQ_n hD ⟨_, hB1, hO5, hX, hP, hU⟩
  · intro W hI_ hd_
    obtain ⟨u, hB1, hO, hX, hP, hU⟩ := hI_
    rw [openX_length, List.take_of_length_le (Nat.le_refl _)] at hO
    have hd : Dfd W nL := by rw [hnL]; exact hd_
    have hsz_ := hU.size
    have hO_b : ∀ b, obk u = some b → nL + 2 ≤ b := fun b hb => (hO.lt hb).1
    refine B_n ?_
    refine T_n ?_
    refine W_seq ?_
    refine W_reg ?_
    refine L_op rfl (X_load (p := (ptr b1 (0))) (v := u) T27 rfl (hB1.at1 rfl) ?_)
    refine L_op rfl (X_assign (v := u) rfl ?_)
    refine L_nil ?_
    refine T_n ?_
    refine W_ret ?_
    refine BQ_r (End_m (hnL ▸ hd) fun w9 hu9 => ?_)
    have hO9 := hO.upd hu9 fun i hi h => by have h1 := hO_b i hi; have h : i = nL := (by rw [hnL]; exact h); omega
    exact End_1 Try.results21 (v := u) rfl ⟨hO9.more (by omega), (hU.trans (hu9.mono fun i _ h => by have h : i = nL := (by rw [hnL]; exact h); show n0 ≤ i; omega)).own hn0⟩
  · intro k e W hk_ hI_ hd_ he_
    exact hI_.elim

theorem c_collect (b x1 : Nat) (on : List Bool) (tx : List Int) (w : World) (hX : Blk w x1 #[(.slice (some ⟨b, 0, none⟩) 8 8), (.slice (some ⟨b, 8, none⟩) 8 8)] 48) (hP : Blk w b (pinC on tx).toArray 26) (hon : on.length = 8) (htx : tx.length = 8) : CT Try.prog 18 #[(.func (.func 20) #[] #[ptr x1 0])] w fun v w' => Own w' w.heap.size 23 1 v (openL on tx).length ((openL on tx).map u32V) ∧ Ext w w' := by
  obtain ⟨n0, hn0⟩ : ∃ n, n = w.heap.size := ⟨_, rfl⟩
  have hU : Upd (fun i => n0 ≤ i) w w := Upd.refl _ _
  refine CT_of Try.func18 rfl rfl rfl ?_
  refine W_seq ?_
  refine W_reg ?_
  refine L_op rfl (X_assign (v := (.slice none 0 0)) rfl ?_)
  refine L_nil ?_
  refine T_n ?_
  refine W_seq ?_
  refine W_reg ?_
  refine L_op rfl (X_move (v := (.func (.func 20) #[] #[ptr x1 0])) rfl ?_)
  refine L_op rfl (X_fn (vs := [(.slice none 0 0), (.func (.func 20) #[] #[ptr x1 0])]) en21 rfl (CT.mono (c_appseq b x1 on tx _ hX hP hon htx) ?_))
  rintro u w9 ⟨hO, hu9⟩
  replace hU := hU.trans (Ext.upd hu9)
  refine L_op rfl (X_assign (v := u) rfl ?_)
  refine L_nil ?_
  refine T_n ?_
  refine W_ret ?_
  exact BQ_r (End_1 Try.results18 (v := u) rfl ⟨hO.more (by omega), hU.own hn0⟩)

theorem c_nan (a : Int) (w : World) : CT Try.prog 40 #[(u32V a)] w fun v w' => v = .bool false ∧ w = w' := by
  refine CT_of Try.func40 rfl rfl rfl ?_
  refine W_seq ?_
  refine W_reg ?_
  refine L_op rfl (X_assign (v := (.bool (false))) rfl ?_)
  refine L_nil ?_
  refine T_n ?_
  refine W_seq ?_
  refine W_reg ?_
  refine L_op rfl (X_move (v := (u32V a)) rfl ?_)
  refine L_op rfl (X_move (v := (u32V a)) rfl ?_)
  refine L_op rfl (X_cmp (k := .u32) (a := a) (b := a) (r := false) rfl rfl rfl (decide_eq_false (fun h => h rfl)) ?_)
  refine L_op rfl (X_assign (v := (.bool (false))) rfl ?_)
  refine L_nil ?_
  refine T_n ?_
  refine W_ret ?_
  exact BQ_r (End_1 Try.results40 (v := .bool false) rfl ⟨rfl, rfl⟩)

theorem c_less (a b : Int) (w : World) : CT Try.prog 30 #[(u32V a), (u32V b)] w fun v w' => v = .bool (decide (a < b)) ∧ w = w' := by
  refine CT_of Try.func30 rfl rfl rfl ?_
  refine W_seq ?_
  refine W_reg ?_
  refine L_op rfl (X_assign (v := (.bool (false))) rfl ?_)
  refine L_nil ?_
  refine T_n ?_
  refine W_seq ?_
  refine W_reg ?_
  refine L_op rfl (X_move (v := (u32V a)) rfl ?_)
  refine L_op rfl (X_fn (vs := [(u32V a)]) en40 rfl (CT.mono (c_nan a _) ?_))
  rintro _ _ ⟨rfl, rfl⟩
  refine L_op rfl (X_move (v := (.bool (false))) rfl ?_)
  refine L_gn (dj := 7) (t := false) rfl rfl rfl rfl ?_
  refine L_gn (dj := 7) (t := false) rfl rfl rfl rfl ?_
  refine L_gn (dj := 7) (t := false) rfl rfl rfl rfl ?_
  refine L_op rfl (X_pick (t := false) (v := (.bool (false))) rfl rfl ?_)
  refine L_op rfl (X_move (v := (.bool (false))) rfl ?_)
  refine L_gy (dj := 12) rfl rfl rfl (X_move (v := (u32V a)) rfl ?_)
  refine L_gy (dj := 12) rfl rfl rfl (X_move (v := (u32V b)) rfl ?_)
  refine L_gy (dj := 12) rfl rfl rfl (X_cmp (k := .u32) (a := a) (b := b) (r := decide (a < b)) rfl rfl rfl rfl ?_)
  refine L_op rfl (X_pick (t := false) (v := (.bool (decide (a < b)))) rfl rfl ?_)
  refine L_op rfl (X_assign (v := (.bool (decide (a < b)))) rfl ?_)
  refine L_nil ?_
  refine T_n ?_
  refine W_ret ?_
  exact BQ_r (End_1 Try.results30 (v := .bool (decide (a < b))) rfl ⟨rfl, rfl⟩)

theorem c_insort (s : Value) (zs : List Int) (w : World) (B : Nat) (hO : Own w B 23 1 s zs.length (zs.map u32V)) (hl : zs.length ≤ 12) : CT Try.prog 24 #[s, (.int .i64 (0)), (.int .i64 (((zs.length : Nat) : Int)))] w fun v w' => v = .tuple #[] ∧ ∃ ys : List Int, ys.Perm zs ∧ ys.Pairwise (· ≤ ·) ∧ Own w' B 23 1 s zs.length (ys.map u32V) ∧ Upd (fun i => obk s = some i) w w' := by
  have hsv := hO.sv
  have hV := Upd.refl (fun i => obk s = some i) w
  refine CT_of Try.func24 rfl rfl rfl ?_
  refine W_seq ?_
  refine W_reg ?_
  refine L_op rfl (X_move (v := (.int .i64 (0))) rfl ?_)
  refine L_op rfl (X_arith (k := .i64) (a := 0) (b := 1) (r := 1) rfl rfl rfl rfl ?_)
  refine L_op rfl (X_assign (v := (.int .i64 (1))) rfl ?_)
  refine L_nil ?_
  refine T_n ?_
  refine W_block ?_
  refine W_loop (α := Nat × List Int) [6, 7, 10, 11, 12, 13, 14, 15, 16, 17, 18, 19, 20, 21, 22, 23, 24, 25, 26, 27, 28, 29, 30, 31, 32, 33, 34, 35, 36, 37, 38, 39, 40, 41, 42, 43, 44, 45, 46, 47, 48] (fun ⟨i, ys⟩ => [(6, (.int .i64 (((i : Nat) : Int))))]) (fun ⟨i, ys⟩ w_ => 1 ≤ i ∧ SrtA ys i ∧ ys.Perm zs ∧ Own w_ B 23 1 s zs.length (ys.map u32V) ∧ Upd (fun i => obk s = some i) w w_) (fun ⟨i, ys⟩ => zs.length - i) ⟨rfl, (1, zs), ⟨Nat.le_refl _, fun p q h1 h2 => by omega, List.Perm.refl _, hO, Upd.refl _ _⟩, Out.refl _ _, ⟨rfl, trivial⟩⟩ ?_
  rintro ⟨i, ys⟩ w1 _ ⟨hi1, hsr, hpe, hO, hV⟩
  refine W_seq ?_
  refine W_seq ?_
  refine W_reg ?_
  refine L_op rfl (X_move (v := (.int .i64 (((i : Nat) : Int)))) rfl ?_)
  refine L_op rfl (X_move (v := (.int .i64 (((zs.length : Nat) : Int)))) rfl ?_)
  by_cases hc2 : (((i : Nat) : Int) : Int) < (((zs.length : Nat) : Int))
  · refine L_op rfl (X_cmp (k := .i64) (a := ((i : Nat) : Int)) (b := ((zs.length : Nat) : Int)) (r := true) rfl rfl rfl (decide_eq_true (p := ((((i : Nat) : Int)) : Int) < ((((zs.length : Nat) : Int)) : Int)) (by omega)) ?_)
    refine L_nil ?_
    refine T_n ?_
    refine W_ct rfl ?_
    refine W_skip ?_
    refine T_n ?_
    refine W_seq ?_
    refine W_block ?_
    refine W_seq ?_
    refine W_reg ?_
    refine L_op rfl (X_move (v := (.int .i64 (((i : Nat) : Int)))) rfl ?_)
    refine L_op rfl (X_assign (v := (.int .i64 (((i : Nat) : Int)))) rfl ?_)
    refine L_nil ?_
    refine T_n ?_
    refine W_block ?_
    have hsrj := srt_in hsr
    clear hsr
    refine W_loop (α := Nat × List Int) [7, 16, 17, 18, 19, 20, 21, 22, 23, 24, 25, 26, 27, 28, 29, 30, 31, 32, 33, 34, 35, 36, 37, 38, 39, 40, 41, 42, 43, 44, 45, 46, 47, 48] (fun ⟨j, ys⟩ => [(7, (.int .i64 (((j : Nat) : Int))))]) (fun ⟨j, ys⟩ w_ => j ≤ i ∧ SrtJ ys i j ∧ ys.Perm zs ∧ Own w_ B 23 1 s zs.length (ys.map u32V) ∧ Upd (fun i => obk s = some i) w w_) (fun ⟨j, ys⟩ => j) ⟨rfl, (i, ys), ⟨Nat.le_refl _, hsrj, hpe, hO, hV⟩, Out.refl _ _, ⟨rfl, trivial⟩⟩ ?_
    rintro ⟨j, ys⟩ w3 _ ⟨hji, hsrj, hpe, hO, hV⟩
    have hyl : ys.length = zs.length := hpe.length_eq
    refine W_seq ?_
    refine W_seq ?_
    rcases Bool.eq_false_or_eq_true (decide (0 < j)) with hs4 | hs4
    · rcases Bool.eq_false_or_eq_true (decide (gD ys j < gD ys (j - 1))) with hs5 | hs5
      · have hj0 : 0 < j := by have h_ := of_decide_eq_true hs4; omega
        refine W_draw 13 [[], [], [0, 1], [0, 1, 2], [0, 1, 2, 3], [0, 1, 2, 3], [0, 1, 2, 3, 4, 5], [0, 1, 2, 3, 4, 5, 6], [0, 1, 2, 3], [0, 1, 2, 3], [0, 1, 2, 3, 9], [0, 1, 2, 3, 8, 9, 10], [0, 1, 2, 3, 8, 9, 10, 11], [0, 1, 2, 3, 4, 5, 6, 7, 8, 9, 10, 11, 12], [0, 1, 2, 3, 4, 5, 6, 7, 8, 9, 10, 11, 12, 13]] mixed (by kernel_rfl) ?_
        refine ⟨.det (fun val => (.int .i64 (((j : Nat) : Int)))), ⟨fun _ _ hv => rfl, fun _ _ _ _ _ => trivial⟩, fun val h_ W hx he => ⟨trivial, ?_⟩, ?_⟩
        · replace hx := (Upd.drew _ _).trans hx
          replace hO := hO.ext hx
          have hE := Upd.refl (fun _ => False) W
          refine id (X_move (v := (.int .i64 (((j : Nat) : Int)))) rfl ?_)
          exact ⟨hE, rfl⟩
        refine ⟨.det (fun val => (.int .i64 (0))), ⟨fun _ _ hv => rfl, fun _ _ _ _ _ => trivial⟩, fun val h_ W hx he => ⟨trivial, ?_⟩, ?_⟩
        · replace hx := (Upd.drew _ _).trans hx
          replace hO := hO.ext hx
          have hE := Upd.refl (fun _ => False) W
          refine id (X_move (v := (.int .i64 (0))) rfl ?_)
          exact ⟨hE, rfl⟩
        refine ⟨.det (fun val => (.bool (true))), ⟨fun _ _ hv => rfl, fun _ _ _ _ _ => trivial⟩, fun val h_ W hx he => ⟨trivial, ?_⟩, ?_⟩
        · replace hx := (Upd.drew _ _).trans hx
          replace hO := hO.ext hx
          have hE := Upd.refl (fun _ => False) W
          refine id (X_cmp (k := .i64) (a := ((j : Nat) : Int)) (b := 0) (r := true) rfl rfl rfl (decide_eq_true (p := ((0 : Int) < ((j : Nat) : Int))) (by have h_ := of_decide_eq_true hs4; omega)) ?_)
          exact ⟨hE, rfl⟩
        refine ⟨.det (fun val => (.bool (true))), ⟨fun _ _ hv => rfl, fun _ _ _ _ _ => trivial⟩, fun val h_ W hx he => ⟨trivial, ?_⟩, ?_⟩
        · replace hx := (Upd.drew _ _).trans hx
          replace hO := hO.ext hx
          have hE := Upd.refl (fun _ => False) W
          refine id (X_move (v := (.bool (true))) rfl ?_)
          exact ⟨hE, rfl⟩
        refine ⟨.det (fun val => s), ⟨fun _ _ hv => rfl, fun _ _ _ _ _ => trivial⟩, fun val h_ W hx he => ⟨⟨19, rfl, rfl⟩, ?_⟩, ?_⟩
        · replace hx := (Upd.drew _ _).trans hx
          replace hO := hO.ext hx
          have hE := Upd.refl (fun _ => False) W
          refine id (X_move (v := s) rfl ?_)
          exact ⟨hE, rfl⟩
        refine ⟨.det (fun val => (.int .i64 (((j : Nat) : Int)))), ⟨fun _ _ hv => rfl, fun _ _ _ _ _ => trivial⟩, fun val h_ W hx he => ⟨⟨19, rfl, rfl⟩, ?_⟩, ?_⟩
        · replace hx := (Upd.drew _ _).trans hx
          replace hO := hO.ext hx
          have hE := Upd.refl (fun _ => False) W
          refine id (X_move (v := (.int .i64 (((j : Nat) : Int)))) rfl ?_)
          exact ⟨hE, rfl⟩
        refine ⟨.det (fun val => (pof s ((((j : Nat) : Int) : Int).toNat * 1))), ⟨fun _ _ hv => rfl, fun _ _ _ _ _ => trivial⟩, fun val h_ W hx he => ⟨⟨19, rfl, rfl⟩, ?_⟩, ?_⟩
        · replace hx := (Upd.drew _ _).trans hx
          replace hO := hO.ext hx
          have hE := Upd.refl (fun _ => False) W
          refine id (X_idx (v := s) (n := zs.length) (k := .i64) (i := ((j : Nat) : Int)) S27 rfl hsv rfl (by omega) (by omega) ?_)
          exact ⟨hE, rfl⟩
        refine ⟨.det (fun val => (u32V (gD ys j))), ⟨fun _ _ hv => rfl, fun _ _ _ _ _ => trivial⟩, fun val h_ W hx he => ⟨⟨19, rfl, rfl⟩, ?_⟩, ?_⟩
        · replace hx := (Upd.drew _ _).trans hx
          replace hO := hO.ext hx
          have hE := Upd.refl (fun _ => False) W
          refine id (X_load (v := u32V (gD ys j)) T23 rfl (hO.rd.cell (by rw [show (((j : Nat) : Int) : Int).toNat * 1 = j by omega, List.getElem?_map, gD_at (by omega)]; rfl)) ?_)
          exact ⟨hE, rfl⟩
        refine ⟨.det (fun val => s), ⟨fun _ _ hv => rfl, fun _ _ _ _ _ => trivial⟩, fun val h_ W hx he => ⟨⟨19, rfl, rfl⟩, ?_⟩, ?_⟩
        · replace hx := (Upd.drew _ _).trans hx
          replace hO := hO.ext hx
          have hE := Upd.refl (fun _ => False) W
          refine id (X_move (v := s) rfl ?_)
          exact ⟨hE, rfl⟩
        refine ⟨.det (fun val => (.int .i64 (((j : Nat) : Int)))), ⟨fun _ _ hv => rfl, fun _ _ _ _ _ => trivial⟩, fun val h_ W hx he => ⟨⟨19, rfl, rfl⟩, ?_⟩, ?_⟩
        · replace hx := (Upd.drew _ _).trans hx
          replace hO := hO.ext hx
          have hE := Upd.refl (fun _ => False) W
          refine id (X_move (v := (.int .i64 (((j : Nat) : Int)))) rfl ?_)
          exact ⟨hE, rfl⟩
        refine ⟨.det (fun val => (.int .i64 (((j - 1 : Nat) : Int)))), ⟨fun _ _ hv => rfl, fun _ _ _ _ _ => trivial⟩, fun val h_ W hx he => ⟨⟨19, rfl, rfl⟩, ?_⟩, ?_⟩
        · replace hx := (Upd.drew _ _).trans hx
          replace hO := hO.ext hx
          have hE := Upd.refl (fun _ => False) W
          refine id (X_arith (k := .i64) (a := ((j : Nat) : Int)) (b := 1) (r := ((j - 1 : Nat) : Int)) rfl rfl rfl (isub64 (by omega) (by omega) (by omega)) ?_)
          exact ⟨hE, rfl⟩
        refine ⟨.det (fun val => (pof s ((((j - 1 : Nat) : Int) : Int).toNat * 1))), ⟨fun _ _ hv => rfl, fun _ _ _ _ _ => trivial⟩, fun val h_ W hx he => ⟨⟨19, rfl, rfl⟩, ?_⟩, ?_⟩
        · replace hx := (Upd.drew _ _).trans hx
          replace hO := hO.ext hx
          have hE := Upd.refl (fun _ => False) W
          refine id (X_idx (v := s) (n := zs.length) (k := .i64) (i := ((j - 1 : Nat) : Int)) S27 rfl hsv rfl (by omega) (by omega) ?_)
          exact ⟨hE, rfl⟩
        refine ⟨.det (fun val => (u32V (gD ys (j - 1)))), ⟨fun _ _ hv => rfl, fun _ _ _ _ _ => trivial⟩, fun val h_ W hx he => ⟨⟨19, rfl, rfl⟩, ?_⟩, ?_⟩
        · replace hx := (Upd.drew _ _).trans hx
          replace hO := hO.ext hx
          have hE := Upd.refl (fun _ => False) W
          refine id (X_load (v := u32V (gD ys (j - 1))) T23 rfl (hO.rd.cell (by rw [show (((j - 1 : Nat) : Int) : Int).toNat * 1 = (j - 1) by omega, List.getElem?_map, gD_at (by omega)]; rfl)) ?_)
          exact ⟨hE, rfl⟩
        intro val W6 hx6 he6
        replace hx6 := (Upd.drew _ _).trans hx6
        have hz6 := hx6.size
        replace hO := hO.ext hx6
        replace hV := hV.trans (hx6.mono fun _ _ h => h.elim)
        refine L_gy (dj := 19) rfl rfl rfl (X_fn (vs := [(u32V (gD ys j)), (u32V (gD ys (j - 1)))]) en30 rfl (CT.mono (c_less (gD ys j) (gD ys (j - 1)) _) ?_))
        rintro _ _ ⟨rfl, rfl⟩
        rw [hs5]
        refine L_op rfl (X_pick (t := true) (v := (.bool (true))) rfl rfl ?_)
        refine L_nil ?_
        refine T_n ?_
        refine W_ct rfl ?_
        refine W_skip ?_
        refine T_n ?_
        refine W_seq ?_
        refine W_block ?_
        refine W_drawS 16 [[], [], [], [], [3], [], [], [6], [5, 6, 7], [5, 6, 7, 8], [], [], [10, 11], [10, 11, 12], [0, 1, 5, 6, 7, 8, 9, 10, 11, 12, 13], [0, 1, 5, 6, 7, 8, 9, 10, 11, 12, 13, 14], [0, 1, 2, 3, 4, 5, 6, 7, 8, 9, 10, 11, 12, 13, 14, 15], [0, 1, 2, 3, 4, 5, 6, 7, 8, 9, 10, 11, 12, 13, 14, 15, 16]] (fun j b => (j = 15 ∧ obk s = some b)) mixed (by kernel_rfl) ?_
        refine ⟨.det (fun val => s), ⟨fun _ _ hv => rfl, fun _ _ _ _ _ => trivial⟩, fun val h_ W hx he => ⟨trivial, ?_⟩, ?_⟩
        · replace hx := (Upd.drew _ _).trans hx
          replace hx : Upd (fun b => False) W6 W := hx.mono fun b _ h_ => by obtain ⟨j, _, hne, hm_, hS⟩ := h_; obtain ⟨rfl, hS⟩ := hS; exact absurd hm_ (by decide)
          replace hO := hO.ext hx
          have hE := Upd.refl (fun _ => False) W
          refine id (X_move (v := s) rfl ?_)
          exact ⟨Ext.upd hE, rfl⟩
        refine ⟨.det (fun val => (.int .i64 (((j : Nat) : Int)))), ⟨fun _ _ hv => rfl, fun _ _ _ _ _ => trivial⟩, fun val h_ W hx he => ⟨trivial, ?_⟩, ?_⟩
        · replace hx := (Upd.drew _ _).trans hx
          replace hx : Upd (fun b => False) W6 W := hx.mono fun b _ h_ => by obtain ⟨j, _, hne, hm_, hS⟩ := h_; obtain ⟨rfl, hS⟩ := hS; exact absurd hm_ (by decide)
          replace hO := hO.ext hx
          have hE := Upd.refl (fun _ => False) W
          refine id (X_move (v := (.int .i64 (((j : Nat) : Int)))) rfl ?_)
          exact ⟨Ext.upd hE, rfl⟩
        refine ⟨.det (fun val => s), ⟨fun _ _ hv => rfl, fun _ _ _ _ _ => trivial⟩, fun val h_ W hx he => ⟨trivial, ?_⟩, ?_⟩
        · replace hx := (Upd.drew _ _).trans hx
          replace hx : Upd (fun b => (obk s = some b)) W6 W := hx.mono fun b _ h_ => by obtain ⟨j, _, hne, hm_, hS⟩ := h_; obtain ⟨rfl, hS⟩ := hS; exact hS
          have hE := Upd.refl (fun _ => False) W
          refine id (X_move (v := s) rfl ?_)
          exact ⟨Ext.upd hE, rfl⟩
        refine ⟨.det (fun val => (.int .i64 (((j : Nat) : Int)))), ⟨fun _ _ hv => rfl, fun _ _ _ _ _ => trivial⟩, fun val h_ W hx he => ⟨trivial, ?_⟩, ?_⟩
        · replace hx := (Upd.drew _ _).trans hx
          replace hx : Upd (fun b => (obk s = some b)) W6 W := hx.mono fun b _ h_ => by obtain ⟨j, _, hne, hm_, hS⟩ := h_; obtain ⟨rfl, hS⟩ := hS; exact hS
          have hE := Upd.refl (fun _ => False) W
          refine id (X_move (v := (.int .i64 (((j : Nat) : Int)))) rfl ?_)
          exact ⟨Ext.upd hE, rfl⟩
        refine ⟨.det (fun val => (.int .i64 (((j - 1 : Nat) : Int)))), ⟨fun _ _ hv => rfl, fun _ _ _ _ _ => trivial⟩, fun val h_ W hx he => ⟨trivial, ?_⟩, ?_⟩
        · replace hx := (Upd.drew _ _).trans hx
          replace hx : Upd (fun b => (obk s = some b)) W6 W := hx.mono fun b _ h_ => by obtain ⟨j, _, hne, hm_, hS⟩ := h_; obtain ⟨rfl, hS⟩ := hS; exact hS
          have hE := Upd.refl (fun _ => False) W
          refine id (X_arith (k := .i64) (a := ((j : Nat) : Int)) (b := 1) (r := ((j - 1 : Nat) : Int)) rfl rfl rfl (isub64 (by omega) (by omega) (by omega)) ?_)
          exact ⟨Ext.upd hE, rfl⟩
        refine ⟨.det (fun val => s), ⟨fun _ _ hv => rfl, fun _ _ _ _ _ => trivial⟩, fun val h_ W hx he => ⟨trivial, ?_⟩, ?_⟩
        · replace hx := (Upd.drew _ _).trans hx
          replace hx : Upd (fun b => False) W6 W := hx.mono fun b _ h_ => by obtain ⟨j, _, hne, hm_, hS⟩ := h_; obtain ⟨rfl, hS⟩ := hS; exact absurd hm_ (by decide)
          replace hO := hO.ext hx
          have hE := Upd.refl (fun _ => False) W
          refine id (X_move (v := s) rfl ?_)
          exact ⟨Ext.upd hE, rfl⟩
        refine ⟨.det (fun val => (.int .i64 (((j : Nat) : Int)))), ⟨fun _ _ hv => rfl, fun _ _ _ _ _ => trivial⟩, fun val h_ W hx he => ⟨trivial, ?_⟩, ?_⟩
        · replace hx := (Upd.drew _ _).trans hx
          replace hx : Upd (fun b => False) W6 W := hx.mono fun b _ h_ => by obtain ⟨j, _, hne, hm_, hS⟩ := h_; obtain ⟨rfl, hS⟩ := hS; exact absurd hm_ (by decide)
          replace hO := hO.ext hx
          have hE := Upd.refl (fun _ => False) W
          refine id (X_move (v := (.int .i64 (((j : Nat) : Int)))) rfl ?_)
          exact ⟨Ext.upd hE, rfl⟩
        refine ⟨.det (fun val => (.int .i64 (((j - 1 : Nat) : Int)))), ⟨fun _ _ hv => rfl, fun _ _ _ _ _ => trivial⟩, fun val h_ W hx he => ⟨trivial, ?_⟩, ?_⟩
        · replace hx := (Upd.drew _ _).trans hx
          replace hx : Upd (fun b => False) W6 W := hx.mono fun b _ h_ => by obtain ⟨j, _, hne, hm_, hS⟩ := h_; obtain ⟨rfl, hS⟩ := hS; exact absurd hm_ (by decide)
          replace hO := hO.ext hx
          have hE := Upd.refl (fun _ => False) W
          refine id (X_arith (k := .i64) (a := ((j : Nat) : Int)) (b := 1) (r := ((j - 1 : Nat) : Int)) rfl rfl rfl (isub64 (by omega) (by omega) (by omega)) ?_)
          exact ⟨Ext.upd hE, rfl⟩
        refine ⟨.det (fun val => (pof s ((((j - 1 : Nat) : Int) : Int).toNat * 1))), ⟨fun _ _ hv => rfl, fun _ _ _ _ _ => trivial⟩, fun val h_ W hx he => ⟨trivial, ?_⟩, ?_⟩
        · replace hx := (Upd.drew _ _).trans hx
          replace hx : Upd (fun b => False) W6 W := hx.mono fun b _ h_ => by obtain ⟨j, _, hne, hm_, hS⟩ := h_; obtain ⟨rfl, hS⟩ := hS; exact absurd hm_ (by decide)
          replace hO := hO.ext hx
          have hE := Upd.refl (fun _ => False) W
          refine id (X_idx (v := s) (n := zs.length) (k := .i64) (i := ((j - 1 : Nat) : Int)) S27 rfl hsv rfl (by omega) (by omega) ?_)
          exact ⟨Ext.upd hE, rfl⟩
        refine ⟨.det (fun val => (u32V (gD ys (j - 1)))), ⟨fun _ _ hv => rfl, fun _ _ _ _ _ => trivial⟩, fun val h_ W hx he => ⟨trivial, ?_⟩, ?_⟩
        · replace hx := (Upd.drew _ _).trans hx
          replace hx : Upd (fun b => False) W6 W := hx.mono fun b _ h_ => by obtain ⟨j, _, hne, hm_, hS⟩ := h_; obtain ⟨rfl, hS⟩ := hS; exact absurd hm_ (by decide)
          replace hO := hO.ext hx
          have hE := Upd.refl (fun _ => False) W
          refine id (X_load (v := u32V (gD ys (j - 1))) T23 rfl (hO.rd.cell (by rw [show (((j - 1 : Nat) : Int) : Int).toNat * 1 = (j - 1) by omega, List.getElem?_map, gD_at (by omega)]; rfl)) ?_)
          exact ⟨Ext.upd hE, rfl⟩
        refine ⟨.det (fun val => s), ⟨fun _ _ hv => rfl, fun _ _ _ _ _ => trivial⟩, fun val h_ W hx he => ⟨trivial, ?_⟩, ?_⟩
        · replace hx := (Upd.drew _ _).trans hx
          replace hx : Upd (fun b => False) W6 W := hx.mono fun b _ h_ => by obtain ⟨j, _, hne, hm_, hS⟩ := h_; obtain ⟨rfl, hS⟩ := hS; exact absurd hm_ (by decide)
          replace hO := hO.ext hx
          have hE := Upd.refl (fun _ => False) W
          refine id (X_move (v := s) rfl ?_)
          exact ⟨Ext.upd hE, rfl⟩
        refine ⟨.det (fun val => (.int .i64 (((j : Nat) : Int)))), ⟨fun _ _ hv => rfl, fun _ _ _ _ _ => trivial⟩, fun val h_ W hx he => ⟨trivial, ?_⟩, ?_⟩
        · replace hx := (Upd.drew _ _).trans hx
          replace hx : Upd (fun b => False) W6 W := hx.mono fun b _ h_ => by obtain ⟨j, _, hne, hm_, hS⟩ := h_; obtain ⟨rfl, hS⟩ := hS; exact absurd hm_ (by decide)
          replace hO := hO.ext hx
          have hE := Upd.refl (fun _ => False) W
          refine id (X_move (v := (.int .i64 (((j : Nat) : Int)))) rfl ?_)
          exact ⟨Ext.upd hE, rfl⟩
        refine ⟨.det (fun val => (pof s ((((j : Nat) : Int) : Int).toNat * 1))), ⟨fun _ _ hv => rfl, fun _ _ _ _ _ => trivial⟩, fun val h_ W hx he => ⟨trivial, ?_⟩, ?_⟩
        · replace hx := (Upd.drew _ _).trans hx
          replace hx : Upd (fun b => False) W6 W := hx.mono fun b _ h_ => by obtain ⟨j, _, hne, hm_, hS⟩ := h_; obtain ⟨rfl, hS⟩ := hS; exact absurd hm_ (by decide)
          replace hO := hO.ext hx
          have hE := Upd.refl (fun _ => False) W
          refine id (X_idx (v := s) (n := zs.length) (k := .i64) (i := ((j : Nat) : Int)) S27 rfl hsv rfl (by omega) (by omega) ?_)
          exact ⟨Ext.upd hE, rfl⟩
        refine ⟨.det (fun val => (u32V (gD ys j))), ⟨fun _ _ hv => rfl, fun _ _ _ _ _ => trivial⟩, fun val h_ W hx he => ⟨trivial, ?_⟩, ?_⟩
        · replace hx := (Upd.drew _ _).trans hx
          replace hx : Upd (fun b => False) W6 W := hx.mono fun b _ h_ => by obtain ⟨j, _, hne, hm_, hS⟩ := h_; obtain ⟨rfl, hS⟩ := hS; exact absurd hm_ (by decide)
          replace hO := hO.ext hx
          have hE := Upd.refl (fun _ => False) W
          refine id (X_load (v := u32V (gD ys j)) T23 rfl (hO.rd.cell (by rw [show (((j : Nat) : Int) : Int).toNat * 1 = j by omega, List.getElem?_map, gD_at (by omega)]; rfl)) ?_)
          exact ⟨Ext.upd hE, rfl⟩
        refine ⟨.det (fun val => (pof s ((((j : Nat) : Int) : Int).toNat * 1))), ⟨fun _ _ hv => rfl, fun _ _ _ _ _ => trivial⟩, fun val h_ W hx he => ⟨trivial, ?_⟩, ?_⟩
        · replace hx := (Upd.drew _ _).trans hx
          replace hx : Upd (fun b => False) W6 W := hx.mono fun b _ h_ => by obtain ⟨j, _, hne, hm_, hS⟩ := h_; obtain ⟨rfl, hS⟩ := hS; exact absurd hm_ (by decide)
          replace hO := hO.ext hx
          have hE := Upd.refl (fun _ => False) W
          refine id (X_idx (v := s) (n := zs.length) (k := .i64) (i := ((j : Nat) : Int)) S27 rfl hsv rfl (by omega) (by omega) ?_)
          exact ⟨Ext.upd hE, rfl⟩
        refine ⟨.abs (fun _ _ W_ => Own W_ B 23 1 s zs.length ((ys.set j (gD ys (j - 1))).map u32V)), ⟨fun _ _ _ => rfl, fun _ _ _ _ hu0 h => have hu : Upd (fun b => False) _ _ := hu0.mono fun b _ h_ => (by obtain ⟨j, _, hne, hm_, hS⟩ := h_; obtain ⟨rfl, hS⟩ := hS; exact absurd rfl hne)
           (by have h2 := Own.ext h hu; exact h2)⟩, fun val h_ W hx he => ⟨trivial, ?_⟩, ?_⟩
        · replace hx := (Upd.drew _ _).trans hx
          replace hx : Upd (fun b => False) W6 W := hx.mono fun b _ h_ => by obtain ⟨j, _, hne, hm_, hS⟩ := h_; obtain ⟨rfl, hS⟩ := hS; exact absurd rfl hne
          replace hO := hO.ext hx
          have hE := Upd.refl (fun _ => False) W
          refine X_storeOwn (i := ((j : Nat) : Int).toNat * 1) (u := u32V (gD ys (j - 1))) T23 hO (by omega) rfl rfl rfl ?_
          intro w7 hO7 hu7
          rw [show ((j : Nat) : Int).toNat * 1 = j by omega, ← List.map_set] at hO7
          exact ⟨hu7.mono fun b _ h => ⟨rfl, h⟩, hO7⟩
        intro val W7 hx7 he7
        replace hx7 := (Upd.drew _ _).trans hx7
        replace hx7 : Upd (fun b => (obk s = some b)) W6 W7 := hx7.mono fun b _ h_ => by obtain ⟨j, _, hS⟩ := h_; obtain ⟨rfl, hS⟩ := hS; exact hS
        have hz7 := hx7.size
        replace hV := hV.trans hx7
        obtain ⟨hO7, he7⟩ := he7
        refine L_op rfl (X_idx (v := s) (n := zs.length) (k := .i64) (i := ((j - 1 : Nat) : Int)) S27 rfl hsv rfl (by omega) (by omega) ?_)
        refine L_op0 (X_storeOwn (i := ((j - 1 : Nat) : Int).toNat * 1) (u := u32V (gD ys j)) T23 hO7 (by omega) rfl rfl rfl ?_)
        intro w9 hO9 hu9
        rw [show ((j - 1 : Nat) : Int).toNat * 1 = j - 1 by omega, ← List.map_set] at hO9
        replace hV := hV.trans hu9
        refine L_nil ?_
        refine B_n ?_
        refine T_n ?_
        refine W_reg ?_
        refine L_op rfl (X_move (v := (.int .i64 (((j : Nat) : Int)))) rfl ?_)
        refine L_op rfl (X_arith (k := .i64) (a := ((j : Nat) : Int)) (b := 1) (r := ((j : Nat) : Int) - 1) rfl rfl rfl (isub64 rfl (by omega) (by omega)) ?_)
        refine L_op rfl (X_assign (v := (.int .i64 (((j : Nat) : Int) - 1))) rfl ?_)
        refine L_nil ?_
        refine T_n ?_
        exact ⟨rfl, (j - 1, swapA ys j), ⟨⟨by omega, srt_swap hsrj (by omega) (by omega) hji (of_decide_eq_true hs5), (swapA_perm (by omega) (by omega)).trans hpe, hO9, hV⟩, (by show j - 1 < j; omega)⟩, (Out.mk rfl), ⟨by show Value.int .i64 _ = Value.int .i64 _; congr 1; omega, trivial⟩⟩
      · have hj0 : 0 < j := by have h_ := of_decide_eq_true hs4; omega
        refine W_draw 13 [[], [], [0, 1], [0, 1, 2], [0, 1, 2, 3], [0, 1, 2, 3], [0, 1, 2, 3, 4, 5], [0, 1, 2, 3, 4, 5, 6], [0, 1, 2, 3], [0, 1, 2, 3], [0, 1, 2, 3, 9], [0, 1, 2, 3, 8, 9, 10], [0, 1, 2, 3, 8, 9, 10, 11], [0, 1, 2, 3, 4, 5, 6, 7, 8, 9, 10, 11, 12], [0, 1, 2, 3, 4, 5, 6, 7, 8, 9, 10, 11, 12, 13]] mixed (by kernel_rfl) ?_
        refine ⟨.det (fun val => (.int .i64 (((j : Nat) : Int)))), ⟨fun _ _ hv => rfl, fun _ _ _ _ _ => trivial⟩, fun val h_ W hx he => ⟨trivial, ?_⟩, ?_⟩
        · replace hx := (Upd.drew _ _).trans hx
          replace hO := hO.ext hx
          have hE := Upd.refl (fun _ => False) W
          refine id (X_move (v := (.int .i64 (((j : Nat) : Int)))) rfl ?_)
          exact ⟨hE, rfl⟩
        refine ⟨.det (fun val => (.int .i64 (0))), ⟨fun _ _ hv => rfl, fun _ _ _ _ _ => trivial⟩, fun val h_ W hx he => ⟨trivial, ?_⟩, ?_⟩
        · replace hx := (Upd.drew _ _).trans hx
          replace hO := hO.ext hx
          have hE := Upd.refl (fun _ => False) W
          refine id (X_move (v := (.int .i64 (0))) rfl ?_)
          exact ⟨hE, rfl⟩
        refine ⟨.det (fun val => (.bool (true))), ⟨fun _ _ hv => rfl, fun _ _ _ _ _ => trivial⟩, fun val h_ W hx he => ⟨trivial, ?_⟩, ?_⟩
        · replace hx := (Upd.drew _ _).trans hx
          replace hO := hO.ext hx
          have hE := Upd.refl (fun _ => False) W
          refine id (X_cmp (k := .i64) (a := ((j : Nat) : Int)) (b := 0) (r := true) rfl rfl rfl (decide_eq_true (p := ((0 : Int) < ((j : Nat) : Int))) (by have h_ := of_decide_eq_true hs4; omega)) ?_)
          exact ⟨hE, rfl⟩
        refine ⟨.det (fun val => (.bool (true))), ⟨fun _ _ hv => rfl, fun _ _ _ _ _ => trivial⟩, fun val h_ W hx he => ⟨trivial, ?_⟩, ?_⟩
        · replace hx := (Upd.drew _ _).trans hx
          replace hO := hO.ext hx
          have hE := Upd.refl (fun _ => False) W
          refine id (X_move (v := (.bool (true))) rfl ?_)
          exact ⟨hE, rfl⟩
        refine ⟨.det (fun val => s), ⟨fun _ _ hv => rfl, fun _ _ _ _ _ => trivial⟩, fun val h_ W hx he => ⟨⟨19, rfl, rfl⟩, ?_⟩, ?_⟩
        · replace hx := (Upd.drew _ _).trans hx
          replace hO := hO.ext hx
          have hE := Upd.refl (fun _ => False) W
          refine id (X_move (v := s) rfl ?_)
          exact ⟨hE, rfl⟩
        refine ⟨.det (fun val => (.int .i64 (((j : Nat) : Int)))), ⟨fun _ _ hv => rfl, fun _ _ _ _ _ => trivial⟩, fun val h_ W hx he => ⟨⟨19, rfl, rfl⟩, ?_⟩, ?_⟩
        · replace hx := (Upd.drew _ _).trans hx
          replace hO := hO.ext hx
          have hE := Upd.refl (fun _ => False) W
          refine id (X_move (v := (.int .i64 (((j : Nat) : Int)))) rfl ?_)
          exact ⟨hE, rfl⟩
        refine ⟨.det (fun val => (pof s ((((j : Nat) : Int) : Int).toNat * 1))), ⟨fun _ _ hv => rfl, fun _ _ _ _ _ => trivial⟩, fun val h_ W hx he => ⟨⟨19, rfl, rfl⟩, ?_⟩, ?_⟩
        · replace hx := (Upd.drew _ _).trans hx
          replace hO := hO.ext hx
          have hE := Upd.refl (fun _ => False) W
          refine id (X_idx (v := s) (n := zs.length) (k := .i64) (i := ((j : Nat) : Int)) S27 rfl hsv rfl (by omega) (by omega) ?_)
          exact ⟨hE, rfl⟩
        refine ⟨.det (fun val => (u32V (gD ys j))), ⟨fun _ _ hv => rfl, fun _ _ _ _ _ => trivial⟩, fun val h_ W hx he => ⟨⟨19, rfl, rfl⟩, ?_⟩, ?_⟩
        · replace hx := (Upd.drew _ _).trans hx
          replace hO := hO.ext hx
          have hE := Upd.refl (fun _ => False) W
          refine id (X_load (v := u32V (gD ys j)) T23 rfl (hO.rd.cell (by rw [show (((j : Nat) : Int) : Int).toNat * 1 = j by omega, List.getElem?_map, gD_at (by omega)]; rfl)) ?_)
          exact ⟨hE, rfl⟩
        refine ⟨.det (fun val => s), ⟨fun _ _ hv => rfl, fun _ _ _ _ _ => trivial⟩, fun val h_ W hx he => ⟨⟨19, rfl, rfl⟩, ?_⟩, ?_⟩
        · replace hx := (Upd.drew _ _).trans hx
          replace hO := hO.ext hx
          have hE := Upd.refl (fun _ => False) W
          refine id (X_move (v := s) rfl ?_)
          exact ⟨hE, rfl⟩
        refine ⟨.det (fun val => (.int .i64 (((j : Nat) : Int)))), ⟨fun _ _ hv => rfl, fun _ _ _ _ _ => trivial⟩, fun val h_ W hx he => ⟨⟨19, rfl, rfl⟩, ?_⟩, ?_⟩
        · replace hx := (Upd.drew _ _).trans hx
          replace hO := hO.ext hx
          have hE := Upd.refl (fun _ => False) W
          refine id (X_move (v := (.int .i64 (((j : Nat) : Int)))) rfl ?_)
          exact ⟨hE, rfl⟩
        refine ⟨.det (fun val => (.int .i64 (((j - 1 : Nat) : Int)))), ⟨fun _ _ hv => rfl, fun _ _ _ _ _ => trivial⟩, fun val h_ W hx he => ⟨⟨19, rfl, rfl⟩, ?_⟩, ?_⟩
        · replace hx := (Upd.drew _ _).trans hx
          replace hO := hO.ext hx
          have hE := Upd.refl (fun _ => False) W
          refine id (X_arith (k := .i64) (a := ((j : Nat) : Int)) (b := 1) (r := ((j - 1 : Nat) : Int)) rfl rfl rfl (isub64 (by omega) (by omega) (by omega)) ?_)
          exact ⟨hE, rfl⟩
        refine ⟨.det (fun val => (pof s ((((j - 1 : Nat) : Int) : Int).toNat * 1))), ⟨fun _ _ hv => rfl, fun _ _ _ _ _ => trivial⟩, fun val h_ W hx he => ⟨⟨19, rfl, rfl⟩, ?_⟩, ?_⟩
        · replace hx := (Upd.drew _ _).trans hx
          replace hO := hO.ext hx
          have hE := Upd.refl (fun _ => False) W
          refine id (X_idx (v := s) (n := zs.length) (k := .i64) (i := ((j - 1 : Nat) : Int)) S27 rfl hsv rfl (by omega) (by omega) ?_)
          exact ⟨hE, rfl⟩
        refine ⟨.det (fun val => (u32V (gD ys (j - 1)))), ⟨fun _ _ hv => rfl, fun _ _ _ _ _ => trivial⟩, fun val h_ W hx he => ⟨⟨19, rfl, rfl⟩, ?_⟩, ?_⟩
        · replace hx := (Upd.drew _ _).trans hx
          replace hO := hO.ext hx
          have hE := Upd.refl (fun _ => False) W
          refine id (X_load (v := u32V (gD ys (j - 1))) T23 rfl (hO.rd.cell (by rw [show (((j - 1 : Nat) : Int) : Int).toNat * 1 = (j - 1) by omega, List.getElem?_map, gD_at (by omega)]; rfl)) ?_)
          exact ⟨hE, rfl⟩
        intro val W8 hx8 he8
        replace hx8 := (Upd.drew _ _).trans hx8
        have hz8 := hx8.size
        replace hO := hO.ext hx8
        replace hV := hV.trans (hx8.mono fun _ _ h => h.elim)
        refine L_gy (dj := 19) rfl rfl rfl (X_fn (vs := [(u32V (gD ys j)), (u32V (gD ys (j - 1)))]) en30 rfl (CT.mono (c_less (gD ys j) (gD ys (j - 1)) _) ?_))
        rintro _ _ ⟨rfl, rfl⟩
        rw [hs5]
        refine L_op rfl (X_pick (t := true) (v := (.bool (false))) rfl rfl ?_)
        refine L_nil ?_
        refine T_n ?_
        refine W_cf rfl ?_
        refine W_exit ?_
        refine T_e ?_
        refine T_e ?_
        refine B_x ?_
        refine B_n ?_
        refine T_n ?_
        refine W_reg ?_
        refine L_op rfl (X_move (v := (.int .i64 (((i : Nat) : Int)))) rfl ?_)
        refine L_op rfl (X_arith (k := .i64) (a := ((i : Nat) : Int)) (b := 1) (r := ((i + 1 : Nat) : Int)) rfl rfl rfl (iadd64 (by omega) (by omega) (by omega)) ?_)
        refine L_op rfl (X_assign (v := (.int .i64 (((i + 1 : Nat) : Int)))) rfl ?_)
        refine L_nil ?_
        refine T_n ?_
        exact ⟨rfl, (i + 1, ys), ⟨⟨by omega, srt_out hsrj (.inr (by have h_ := of_decide_eq_false hs5; omega)), hpe, hO, hV⟩, (by show zs.length - (i + 1) < zs.length - i; omega)⟩, (Out.in_ rfl rfl (Out.mk rfl)), ⟨rfl, trivial⟩⟩
    · have hj0 : j = 0 := by have h_ := of_decide_eq_false hs4; omega
      refine W_draw 13 [[], [], [0, 1], [0, 1, 2], [0, 1, 2, 3], [0, 1, 2, 3], [0, 1, 2, 3, 4, 5], [0, 1, 2, 3, 4, 5, 6], [0, 1, 2, 3], [0, 1, 2, 3], [0, 1, 2, 3, 9], [0, 1, 2, 3, 8, 9, 10], [0, 1, 2, 3, 8, 9, 10, 11], [0, 1, 2, 3, 4, 5, 6, 7, 8, 9, 10, 11, 12], [0, 1, 2, 3, 4, 5, 6, 7, 8, 9, 10, 11, 12, 13]] mixed (by kernel_rfl) ?_
      refine ⟨.det (fun val => (.int .i64 (((j : Nat) : Int)))), ⟨fun _ _ hv => rfl, fun _ _ _ _ _ => trivial⟩, fun val h_ W hx he => ⟨trivial, ?_⟩, ?_⟩
      · replace hx := (Upd.drew _ _).trans hx
        replace hO := hO.ext hx
        have hE := Upd.refl (fun _ => False) W
        refine id (X_move (v := (.int .i64 (((j : Nat) : Int)))) rfl ?_)
        exact ⟨hE, rfl⟩
      refine ⟨.det (fun val => (.int .i64 (0))), ⟨fun _ _ hv => rfl, fun _ _ _ _ _ => trivial⟩, fun val h_ W hx he => ⟨trivial, ?_⟩, ?_⟩
      · replace hx := (Upd.drew _ _).trans hx
        replace hO := hO.ext hx
        have hE := Upd.refl (fun _ => False) W
        refine id (X_move (v := (.int .i64 (0))) rfl ?_)
        exact ⟨hE, rfl⟩
      refine ⟨.det (fun val => (.bool (false))), ⟨fun _ _ hv => rfl, fun _ _ _ _ _ => trivial⟩, fun val h_ W hx he => ⟨trivial, ?_⟩, ?_⟩
      · replace hx := (Upd.drew _ _).trans hx
        replace hO := hO.ext hx
        have hE := Upd.refl (fun _ => False) W
        refine id (X_cmp (k := .i64) (a := ((j : Nat) : Int)) (b := 0) (r := false) rfl rfl rfl (decide_eq_false (p := ((0 : Int) < ((j : Nat) : Int))) (by have h_ := of_decide_eq_false hs4; omega)) ?_)
        exact ⟨hE, rfl⟩
      refine ⟨.det (fun val => (.bool (false))), ⟨fun _ _ hv => rfl, fun _ _ _ _ _ => trivial⟩, fun val h_ W hx he => ⟨trivial, ?_⟩, ?_⟩
      · replace hx := (Upd.drew _ _).trans hx
        replace hO := hO.ext hx
        have hE := Upd.refl (fun _ => False) W
        refine id (X_move (v := (.bool (false))) rfl ?_)
        exact ⟨hE, rfl⟩
      refine ⟨.no, ⟨fun _ _ _ => trivial, fun _ _ _ _ _ => trivial⟩, fun val h_ W hx he => ⟨19, rfl, .inl rfl⟩, ?_⟩
      refine ⟨.no, ⟨fun _ _ _ => trivial, fun _ _ _ _ _ => trivial⟩, fun val h_ W hx he => ⟨19, rfl, .inl rfl⟩, ?_⟩
      refine ⟨.no, ⟨fun _ _ _ => trivial, fun _ _ _ _ _ => trivial⟩, fun val h_ W hx he => ⟨19, rfl, .inl rfl⟩, ?_⟩
      refine ⟨.no, ⟨fun _ _ _ => trivial, fun _ _ _ _ _ => trivial⟩, fun val h_ W hx he => ⟨19, rfl, .inl rfl⟩, ?_⟩
      refine ⟨.no, ⟨fun _ _ _ => trivial, fun _ _ _ _ _ => trivial⟩, fun val h_ W hx he => ⟨19, rfl, .inl rfl⟩, ?_⟩
      refine ⟨.no, ⟨fun _ _ _ => trivial, fun _ _ _ _ _ => trivial⟩, fun val h_ W hx he => ⟨19, rfl, .inl rfl⟩, ?_⟩
      refine ⟨.no, ⟨fun _ _ _ => trivial, fun _ _ _ _ _ => trivial⟩, fun val h_ W hx he => ⟨19, rfl, .inl rfl⟩, ?_⟩
      refine ⟨.no, ⟨fun _ _ _ => trivial, fun _ _ _ _ _ => trivial⟩, fun val h_ W hx he => ⟨19, rfl, .inl rfl⟩, ?_⟩
      refine ⟨.no, ⟨fun _ _ _ => trivial, fun _ _ _ _ _ => trivial⟩, fun val h_ W hx he => ⟨19, rfl, .inl rfl⟩, ?_⟩
      intro val W9 hx9 he9
      replace hx9 := (Upd.drew _ _).trans hx9
      have hz9 := hx9.size
      replace hO := hO.ext hx9
      replace hV := hV.trans (hx9.mono fun _ _ h => h.elim)
      refine L_gn (dj := 19) (t := false) rfl rfl rfl rfl ?_
      refine L_op rfl (X_pick (t := false) (v := (.bool (false))) rfl rfl ?_)
      refine L_nil ?_
      refine T_n ?_
      refine W_cf rfl ?_
      refine W_exit ?_
      refine T_e ?_
      refine T_e ?_
      refine B_x ?_
      refine B_n ?_
      refine T_n ?_
      refine W_reg ?_
      refine L_op rfl (X_move (v := (.int .i64 (((i : Nat) : Int)))) rfl ?_)
      refine L_op rfl (X_arith (k := .i64) (a := ((i : Nat) : Int)) (b := 1) (r := ((i + 1 : Nat) : Int)) rfl rfl rfl (iadd64 (by omega) (by omega) (by omega)) ?_)
      refine L_op rfl (X_assign (v := (.int .i64 (((i + 1 : Nat) : Int)))) rfl ?_)
      refine L_nil ?_
      refine T_n ?_
      exact ⟨rfl, (i + 1, ys), ⟨⟨by omega, srt_out hsrj (.inl (by omega)), hpe, hO, hV⟩, (by show zs.length - (i + 1) < zs.length - i; omega)⟩, (Out.in_ rfl rfl (Out.mk rfl)), ⟨rfl, trivial⟩⟩
  · refine L_op rfl (X_cmp (k := .i64) (a := ((i : Nat) : Int)) (b := ((zs.length : Nat) : Int)) (r := false) rfl rfl rfl (decide_eq_false (p := ((((i : Nat) : Int)) : Int) < ((((zs.length : Nat) : Int)) : Int)) (by omega)) ?_)
    refine L_nil ?_
    refine T_n ?_
    refine W_cf rfl ?_
    refine W_exit ?_
    refine T_e ?_
    refine T_e ?_
    refine B_x ?_
    exact BQ_n (End_0 Try.results24 ⟨rfl, ys, hpe, srt_pw (by rw [hpe.length_eq]; exact fun p q h1 h2 => hsr p q h1 (by omega)), hO, hV⟩)
end Go.Proofs.Ytlelcjppakmnaaa
