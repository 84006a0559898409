/-
  The walk of LeafOwn. (Printed by wip/gen/t06x.py of this repo.)
-/
import Derived.Test.YtmddmghgkkjbiaaDoorOwnB
namespace Go.Proofs.YtmddmghgkkjbiaaDoor
open Go Go.SL Go.Proofs
set_option linter.unusedVariables false

theorem c_ownIR (l : Value) (es : List IE) (w : World) (lo up : Nat) (hup : up ≤ w.heap.size) (hl : NRd LT w lo up l es) (hik : ItK es) (hlen : es.length ≤ 1099511627776) : CT Tryd.prog 19 #[l] w fun v w' => ∃ gs, NOwn LT w' 43 5 w.heap.size w'.heap.size v gs ∧ dsI gs = dsI es ∧ Ext w w' := by
  obtain ⟨n0, hn0⟩ : ∃ n, n = w.heap.size := ⟨_, rfl⟩
  have hU : Upd (fun i => n0 ≤ i) w w := Upd.refl _ _
  have hmx := hl.sv.len
  rw [← hn0] at hup
  refine CT_of Tryd.func19 rfl rfl rfl ?_
  refine W_seq ?_
  refine W_reg ?_
  refine L_op rfl (X_assign (v := (.slice none 0 0)) rfl ?_)
  refine L_nil ?_
  refine T_n ?_
  refine W_seq ?_
  refine W_reg ?_
  refine L_op rfl (X_assign (v := (.slice none 0 0)) rfl ?_)
  refine L_nil ?_
  refine T_n ?_
  refine W_seq ?_
  refine W_seq ?_
  refine W_reg ?_
  refine L_op rfl (X_assign (v := (.int .i64 (0))) rfl ?_)
  refine L_nil ?_
  refine T_n ?_
  refine W_block ?_
  refine W_loop (α := Nat × Value × List IE) [3, 4, 5, 6, 7, 8, 9, 10, 11, 12, 13, 14, 15, 16, 17, 18, 19, 20, 21, 22, 23, 24, 25, 26, 27, 28, 29] (fun ⟨i, u, gs⟩ => [(4, (.int .i64 (((i : Nat) : Int)))), (3, u)]) (fun ⟨i, u, gs⟩ w_ => i ≤ es.length ∧ NOwn LT w_ 43 5 n0 w_.heap.size u gs ∧ dsI gs = (dsI es).take i ∧ NRd LT w_ lo up l es ∧ Upd (fun i => n0 ≤ i) w w_) (fun ⟨i, u, gs⟩ => es.length - i) ⟨rfl, (0, .slice none 0 0, []), ⟨Nat.zero_le _, NOwn.nil _ _ _ _ _, rfl, hl, hU⟩, Out.refl _ _, ⟨rfl, rfl, trivial⟩⟩ ?_
  rintro ⟨i, u, gs⟩ w1 _ ⟨hil, hN, hgs, hl, hU⟩
  have hsz_ := hU.size
  obtain ⟨s0, hs0⟩ : ∃ n, n = w1.heap.size := ⟨_, rfl⟩
  rw [← hs0] at hN
  have hgl : gs.length = i := by have h := congrArg List.length hgs; rw [dsI_len, List.length_take, dsI_len] at h; omega
  refine W_seq ?_
  refine W_seq ?_
  refine W_reg ?_
  refine L_op rfl (X_move (v := (.int .i64 (((i : Nat) : Int)))) rfl ?_)
  refine L_op rfl (X_move (v := l) rfl ?_)
  refine L_op rfl (X_len (v := l) (n := es.length) Tryd.underlying22 rfl hl.sv ?_)
  by_cases hc2 : (((i : Nat) : Int) : Int) < (((es.length : Nat) : Int))
  · refine L_op rfl (X_cmp (k := .i64) (a := ((i : Nat) : Int)) (b := ((es.length : Nat) : Int)) (r := true) rfl rfl rfl (decide_eq_true (p := ((((i : Nat) : Int)) : Int) < ((((es.length : Nat) : Int)) : Int)) (by omega)) ?_)
    have hi : i < es.length := by omega
    obtain ⟨e, hei⟩ : ∃ e, es[i]? = some e := ⟨_, List.getElem?_eq_getElem hi⟩
    have hkl := (irdk hl hei).len
    have hvl := (irdv hl hei).len
    obtain ⟨hk_, hv_⟩ := hik i e hei
    refine L_nil ?_
    refine T_n ?_
    refine W_ct rfl ?_
    refine W_skip ?_
    refine T_n ?_
    refine W_seq ?_
    refine W_block ?_
    refine W_seq ?_
    refine W_reg ?_
    refine L_op rfl (X_move (v := l) rfl ?_)
    refine L_op rfl (X_move (v := (.int .i64 (((i : Nat) : Int)))) rfl ?_)
    refine L_op rfl (X_idx (v := l) (n := es.length) (k := .i64) (i := ((i : Nat) : Int)) S22 rfl hl.sv rfl (by omega) (by omega) ?_)
    refine L_op rfl (X_loadA (xs := itC e) A43 rfl (iall hl (Int.toNat_natCast _) hei) rfl ?_)
    refine L_op rfl (X_alloc (z := (.agg #[(.slice none 0 0), (.slice none 0 0), (.int .u8 (0)), (.int .u16 (0)), (.int .u16 (0)), (.int .u32 (0)), (.int .u64 (0)), (.int .u16 (0))])) (c := #[(.slice none 0 0), (.slice none 0 0), (.int .u8 (0)), (.int .u16 (0)), (.int .u16 (0)), (.int .u32 (0)), (.int .u64 (0)), (.int .u16 (0))]) Zv43 rfl ?_)
    intro b3 w3 hn3
    have hbn3 := hn3.num; have hbs3 := hn3.size
    replace hN := hN.ext hn3.ext
    replace hl := hl.ext hn3.ext
    replace hU := hU.trans (Ext.upd hn3.ext)
    have hB3 := hn3.blk
    refine L_op0 (X_storeW (b := b3) (ys := itC e) A43 rfl rfl (ione hl hei) rfl hB3 rfl ?_)
    intro w4 hu4 hb4
    have hz4 := hu4.size
    replace hN := hN.upd hu4 fun i h1 h2 h => by have h : i = b3 := h; omega
    replace hl := hl.upd hu4 fun i h1 h2 h => by have h : i = b3 := h; omega
    replace hU := hU.trans (hu4.mono fun i _ h => by have h : i = b3 := h; show n0 ≤ i; omega)
    replace hB3 := hb4
    refine L_nil ?_
    refine T_n ?_
    refine W_seq ?_
    refine W_reg ?_
    refine L_op rfl (X_buildSlice1 (vs := []) S35 (by decide) rfl rfl (fun _ h => by cases h) ?_)
    intro b5 w5 hn5
    have hbn5 := hn5.num; have hbs5 := hn5.size
    replace hN := hN.ext hn5.ext
    replace hl := hl.ext hn5.ext
    replace hU := hU.trans (Ext.upd hn5.ext)
    replace hB3 := hB3.ext hn5.ext
    have hB5 := hn5.blk
    refine L_op rfl (X_fldP (b := b3) (o := 0) (r := 0) Fd43_0 rfl rfl ?_)
    refine L_op rfl (X_load (p := (ptr b3 (0))) (v := e.1) T35 rfl (hB3.at1 rfl) ?_)
    obtain ⟨tK, htK⟩ : ∃ n, n = w5.heap.size := ⟨_, rfl⟩
    refine L_op rfl (X_append (B := tK) (s := (.slice (some ⟨b5, 0, none⟩) 0 0)) (x := e.1) S35 ⟨_, Tryd.underlying35⟩ rfl rfl (Own.zero _ _ _ _ _) (irdk hl hei) (byteV_one _) (by unfold maxLen; omega) (by omega) (by omega) ?_)
    intro vK wK hOK huK _
    replace hOK := hOK.eq (Nat.zero_add _) (List.nil_append _)
    have hzK := huK.nobk.size
    replace hN := hN.ext huK.nobk
    replace hl := hl.ext huK.nobk
    replace hU := hU.trans (Ext.upd huK.nobk)
    replace hB3 := hB3.ext huK.nobk
    have hOK_c : ∀ b, obk vK = some b → tK ≤ b ∧ b < wK.heap.size := fun b hb => hOK.lt hb
    refine L_op rfl (X_fldP (b := b3) (o := 0) (r := 0) Fd43_0 rfl rfl ?_)
    refine L_op0 (X_store (b := b3) (o := 0) T35 rfl rfl (hOK.sv.one) hB3 (by show (0 : Nat) < 8; decide) ?_)
    intro w6 hu6 hb6
    have hz6 := hu6.size
    replace hN := hN.upd hu6 fun i h1 h2 h => by have h : i = b3 := h; omega
    replace hl := hl.upd hu6 fun i h1 h2 h => by have h : i = b3 := h; omega
    replace hU := hU.trans (hu6.mono fun i _ h => by have h : i = b3 := h; show n0 ≤ i; omega)
    replace hOK := hOK.upd hu6 fun i hi h => by have hi := hOK_c _ hi; have h : i = b3 := h; omega
    replace hB3 : Blk w6 b3 #[vK, e.2.1, (.int .u8 (e.2.2.2.2.1.1)), (.int .u16 (e.2.2.2.2.1.2.1)), (.int .u16 (e.2.2.2.2.1.2.2.1)), (.int .u32 (e.2.2.2.2.1.2.2.2.1)), (.int .u64 (e.2.2.2.2.1.2.2.2.2)), (.int .u16 (e.2.2.2.2.2))] 43 := hb6
    refine L_nil ?_
    refine T_n ?_
    refine W_seq ?_
    refine W_reg ?_
    refine L_op rfl (X_buildSlice1 (vs := []) S35 (by decide) rfl rfl (fun _ h => by cases h) ?_)
    intro b7 w7 hn7
    have hbn7 := hn7.num; have hbs7 := hn7.size
    replace hN := hN.ext hn7.ext
    replace hl := hl.ext hn7.ext
    replace hU := hU.trans (Ext.upd hn7.ext)
    replace hOK := hOK.ext hn7.ext
    replace hB3 := hB3.ext hn7.ext
    have hB7 := hn7.blk
    refine L_op rfl (X_fldP (b := b3) (o := 0) (r := 1) Fd43_1 rfl rfl ?_)
    refine L_op rfl (X_load (p := (ptr b3 (1))) (v := e.2.1) T35 rfl (hB3.at1 rfl) ?_)
    obtain ⟨tV, htV⟩ : ∃ n, n = w7.heap.size := ⟨_, rfl⟩
    refine L_op rfl (X_append (B := tV) (s := (.slice (some ⟨b7, 0, none⟩) 0 0)) (x := e.2.1) S35 ⟨_, Tryd.underlying35⟩ rfl rfl (Own.zero _ _ _ _ _) (irdv hl hei) (byteV_one _) (by unfold maxLen; omega) (by omega) (by omega) ?_)
    intro vV wV hOV huV _
    replace hOV := hOV.eq (Nat.zero_add _) (List.nil_append _)
    have hzV := huV.nobk.size
    replace hN := hN.ext huV.nobk
    replace hl := hl.ext huV.nobk
    replace hU := hU.trans (Ext.upd huV.nobk)
    replace hOK := hOK.ext huV.nobk
    replace hB3 := hB3.ext huV.nobk
    have hOV_c : ∀ b, obk vV = some b → tV ≤ b ∧ b < wV.heap.size := fun b hb => hOV.lt hb
    refine L_op rfl (X_fldP (b := b3) (o := 0) (r := 1) Fd43_1 rfl rfl ?_)
    refine L_op0 (X_store (b := b3) (o := 1) T35 rfl rfl (hOV.sv.one) hB3 (by show (1 : Nat) < 8; decide) ?_)
    intro w8 hu8 hb8
    have hz8 := hu8.size
    replace hN := hN.upd hu8 fun i h1 h2 h => by have h : i = b3 := h; omega
    replace hl := hl.upd hu8 fun i h1 h2 h => by have h : i = b3 := h; omega
    replace hU := hU.trans (hu8.mono fun i _ h => by have h : i = b3 := h; show n0 ≤ i; omega)
    replace hOK := hOK.upd hu8 fun i hi h => by have hi := hOK_c _ hi; have h : i = b3 := h; omega
    replace hOV := hOV.upd hu8 fun i hi h => by have hi := hOV_c _ hi; have h : i = b3 := h; omega
    replace hB3 : Blk w8 b3 #[vK, vV, (.int .u8 (e.2.2.2.2.1.1)), (.int .u16 (e.2.2.2.2.1.2.1)), (.int .u16 (e.2.2.2.2.1.2.2.1)), (.int .u32 (e.2.2.2.2.1.2.2.2.1)), (.int .u64 (e.2.2.2.2.1.2.2.2.2)), (.int .u16 (e.2.2.2.2.2))] 43 := hb8
    refine L_nil ?_
    refine T_n ?_
    refine W_reg ?_
    refine L_op rfl (X_move (v := u) rfl ?_)
    refine L_op rfl (X_loadA (p := (ptr b3 (0))) (xs := itC ((vK, vV, e.2.2) : IE)) A43 rfl hB3.atAll rfl ?_)
    refine L_op rfl (X_buildSliceL (vs := [.agg (itC ((vK, vV, e.2.2) : IE)).toArray]) (c := itC ((vK, vV, e.2.2) : IE)) S22 (by decide) rfl rfl (List.forall_mem_cons.2 ⟨rfl, fun _ h => by cases h⟩) rfl ?_)
    intro bq wq hnq
    have hbnq := hnq.num; have hbsq := hnq.size
    replace hN := hN.ext hnq.ext
    replace hl := hl.ext hnq.ext
    replace hU := hU.trans (Ext.upd hnq.ext)
    replace hOK := hOK.ext hnq.ext
    replace hOV := hOV.ext hnq.ext
    replace hB3 := hB3.ext hnq.ext
    have hBq := hnq.blk
    refine L_op rfl (X_append (B := n0) (n := gs.length) (s := u) (x := (.slice (some ⟨bq, 0, none⟩) 1 1)) S22 ⟨_, Tryd.underlying22⟩ rfl rfl hN.1 (m := 1) (ys := itC ((vK, vV, e.2.2) : IE)) (hBq.rd (o := 0) (n := 1) (c := 1) (sz := 8) (by decide) (by decide) rfl (fun j u hj => by rw [Nat.zero_add]; simpa using hj)) (itC_one hOK.sv.one hOV.sv.one) (by unfold maxLen; omega) (by omega) (by omega) ?_)
    intro v5 w5 hO5 hu5 ho5
    have hz5 := hu5.size
    have hN5 := NOwn.push (L := LT) (e := ((vK, vV, e.2.2) : IE)) (hi' := wq.heap.size) (by decide) hN hO5 hu5 (fun s hs => by have h1 : s = (vK, e.2.2.1) ∨ s = (vV, e.2.2.2.1) := (by simpa [LT] using hs); rcases h1 with rfl | rfl; (· exact ⟨hOK.more (by omega), fun b hb => (hOK.lt hb).2⟩); (· exact ⟨hOV.more (by omega), fun b hb => (hOV.lt hb).2⟩)) (by omega) (by omega)
    replace hl := hl.upd hu5 fun i h1 h2 h => by have := (hN.1.lt h).1; omega
    replace hU := hU.trans (hu5.mono fun i _ h => by have := (hN.1.lt h).1; show n0 ≤ i; omega)
    refine L_op rfl (X_assign (v := v5) rfl ?_)
    refine L_nil ?_
    refine B_n ?_
    refine T_n ?_
    refine W_reg ?_
    refine L_op rfl (X_move (v := (.int .i64 (((i : Nat) : Int)))) rfl ?_)
    refine L_op rfl (X_arith (k := .i64) (a := ((i : Nat) : Int)) (b := 1) (r := ((i + 1 : Nat) : Int)) rfl rfl rfl (iadd64 (by omega) (by omega) (by omega)) ?_)
    refine L_op rfl (X_assign (v := (.int .i64 (((i + 1 : Nat) : Int)))) rfl ?_)
    refine L_nil ?_
    refine T_n ?_
    exact ⟨rfl, (i + 1, v5, gs ++ [((vK, vV, e.2.2) : IE)]), ⟨⟨hi, hN5, by unfold dsI at hgs ⊢; rw [List.map_append, hgs, List.take_add_one, List.getElem?_map, hei]; rfl, hl, hU⟩, (by show es.length - (i + 1) < es.length - i; omega)⟩, (Out.mk rfl), ⟨rfl, rfl, trivial⟩⟩
  · refine L_op rfl (X_cmp (k := .i64) (a := ((i : Nat) : Int)) (b := ((es.length : Nat) : Int)) (r := false) rfl rfl rfl (decide_eq_false (p := ((((i : Nat) : Int)) : Int) < ((((es.length : Nat) : Int)) : Int)) (by omega)) ?_)
    have hie : i = es.length := by omega
    refine L_nil ?_
    refine T_n ?_
    refine W_cf rfl ?_
    refine W_exit ?_
    refine T_e ?_
    refine T_e ?_
    refine B_x ?_
    refine T_n ?_
    refine W_seq ?_
    refine W_reg ?_
    refine L_op rfl (X_move (v := u) rfl ?_)
    refine L_op rfl (X_assign (v := u) rfl ?_)
    refine L_nil ?_
    refine T_n ?_
    refine W_ret ?_
    exact BQ_r (End_1 Tryd.results19 (v := u) rfl ⟨gs, hN.mono (by omega) (by omega), by rw [hgs, List.take_of_length_le (by rw [dsI_len]; omega)], hU.own hn0⟩)

abbrev fstT (gs : List IE) : List Value := gs.flatMap fun (e : IE) => [e.1, e.2.1]
theorem fst_sub (gs : List IE) : (SubT gs).map (fun (x : BE) => x.1) = fstT gs := by
  unfold SubT fstT
  rw [List.map_flatMap]; rfl
theorem fst_at : ∀ {gs : List IE} {i : Nat} {e : IE}, gs[i]? = some e → (fstT gs)[i * 2]? = some e.1 ∧ (fstT gs)[i * 2 + 1]? = some e.2.1
  | [], _, _, h => by simp at h
  | a :: r, 0, e, h => by
    have h : a = e := by simpa using h
    subst h
    exact ⟨rfl, rfl⟩
  | a :: r, i + 1, e, h => by
    have ih := fst_at (gs := r) (i := i) (e := e) (by simpa using h)
    rw [Nat.succ_mul]
    exact ih
theorem fst_set {gs : List IE} {i : Nat} {e : IE} (he : gs[i]? = some e) (d : ID) : fstT (gs.set i (e.1, e.2.1, d)) = fstT gs := by
  unfold fstT
  rw [List.flatMap_def, List.flatMap_def, List.map_set]
  congr 1
  apply List.ext_getElem?
  intro j
  rw [List.getElem?_set]
  split
  · next h =>
    subst h
    have hi := (List.getElem?_eq_some_iff.1 he).1
    rw [if_pos (by rw [List.length_map]; exact hi), List.getElem?_map, he]; rfl
  · rfl
theorem bs_at {gs : List IE} {bs : List BE} (h : bs.map (fun (x : BE) => x.1) = fstT gs) {k : Nat} {x : Value} (hx : (fstT gs)[k]? = some x) : ∃ m, bs[k]? = some (x, m) := by
  rw [← h, List.getElem?_map] at hx
  cases hb : bs[k]? with
  | none => rw [hb] at hx; cases hx
  | some b => rw [hb] at hx; cases hx; exact ⟨b.2, rfl⟩
theorem bs_set {bs : List BE} {k : Nat} {x : Value} {m : List UInt8} (hk : bs[k]? = some (x, m)) (m' : List UInt8) : (bs.set k (x, m')).map (fun (x : BE) => x.1) = bs.map (fun (x : BE) => x.1) := by
  rw [List.map_set]
  apply List.ext_getElem?
  intro j
  rw [List.getElem?_set]
  split
  · next h =>
    subst h
    have hi := (List.getElem?_eq_some_iff.1 hk).1
    rw [if_pos (by rw [List.length_map]; exact hi), List.getElem?_map, hk]; rfl
  · rfl
theorem dist_fst {bs cs : List BE} (h : DistB bs) (he : cs.map (fun (x : BE) => x.1) = bs.map (fun (x : BE) => x.1)) : DistB cs := by
  have h1 : (bs.map (fun (x : BE) => x.1)).Pairwise fun a b => ∀ k, obk a = some k → obk b ≠ some k := List.pairwise_map.2 h
  rw [← he] at h1
  exact List.pairwise_map.1 h1
theorem subs_set {w w' : World} {bs : List BE} {k lo hi : Nat} {x : Value} {m m' : List UInt8} (h : ∀ s ∈ bs, BOwn w 5 lo hi s) (hd : DistB bs) (hk : bs[k]? = some (x, m)) (hO : Own w' lo 5 1 x m'.length (m'.map byteV)) (hu : Upd (fun b => obk x = some b) w w') :
    (∀ s ∈ bs.set k (x, m'), BOwn w' 5 lo hi s) ∧ DistB (bs.set k (x, m')) := by
  refine ⟨fun s hs => ?_, dist_fst hd (bs_set hk m')⟩
  obtain ⟨j, hj, rfl⟩ := List.getElem_of_mem hs
  rw [List.length_set] at hj
  by_cases hkj : k = j
  · subst hkj
    rw [List.getElem_set_self]
    exact ⟨hO, (h _ (List.mem_of_getElem? hk)).2⟩
  · rw [List.getElem_set_ne hkj]
    have hb := h _ (List.getElem_mem hj)
    refine ⟨hb.1.upd hu fun b h1 h2 => ?_, hb.2⟩
    rcases Nat.lt_or_ge k j with h3 | h3
    · exact hd.at hk (List.getElem?_eq_getElem hj) h3 b h2 h1
    · exact hd.at (List.getElem?_eq_getElem hj) hk (by omega) b h1 h2
section orow
variable {w : World} {v : Value} {n k : Nat} {i : Int} {gs : List IE} {e : IE}
theorem okey (h : Rd w 8 v n (gs.flatMap LT.cel)) (hik : i.toNat = k) (he : gs[k]? = some e) : At w (pof v (i.toNat * 8 + 0)) [e.1] := by subst hik; exact h.cell (flat_at (L := LT) he rfl)
theorem oval (h : Rd w 8 v n (gs.flatMap LT.cel)) (hik : i.toNat = k) (he : gs[k]? = some e) : At w (pof v (i.toNat * 8 + 1)) [e.2.1] := by subst hik; exact h.cell (flat_at (L := LT) (j := 1) he rfl)
theorem osize (h : Rd w 8 v n (gs.flatMap LT.cel)) (hik : i.toNat = k) (he : gs[k]? = some e) : At w (pof v (i.toNat * 8 + 7)) [.int .u16 e.2.2.2.2.2] := by subst hik; exact h.cell (flat_at (L := LT) (j := 7) he rfl)
end orow
theorem size_set {gs : List IE} {i : Nat} {e : IE} (he : gs[i]? = some e) (n : Int) : (gs.flatMap LT.cel).set (i * 8 + 7) (.int .u16 n) = (gs.set i (e.1, e.2.1, (e.2.2.1, e.2.2.2.1, e.2.2.2.2.1, n))).flatMap LT.cel := flat_setC (L := LT) he (j := 7) (by decide) rfl

set_option maxRecDepth 10000 in
set_option maxHeartbeats 2000000 in
theorem c_leafOwn (l : Value) (es : List IE) (w : World) (lo up : Nat) (hup : up ≤ w.heap.size) (hl : NRd LT w lo up l es) (hpt : ∀ e ∈ es, ItOk e.2.2) (hT : TabR w) : CT Tryd.prog 7 #[l] w fun v w' => v = .bool true ∧ Ext w w' := by
  obtain ⟨n0, hn0⟩ : ∃ n, n = w.heap.size := ⟨_, rfl⟩
  have hU : Upd (fun i => n0 ≤ i) w w := Upd.refl _ _
  have hn1 := tab_pos hT
  have hmx := hl.sv.len
  rw [← hn0] at hup
  have hpk : ∀ d ∈ dsI es, ItOk d := fun d hd => by obtain ⟨e, he, rfl⟩ := List.mem_map.1 hd; exact hpt e he
  refine CT_of Tryd.func7 rfl rfl rfl ?_
  refine W_seq ?_
  refine W_reg ?_
  refine L_op rfl (X_assign (v := (.bool (false))) rfl ?_)
  refine L_nil ?_
  refine T_n ?_
  refine W_seq ?_
  refine W_seq ?_
  refine W_reg ?_
  refine L_op rfl (X_move (v := l) rfl ?_)
  refine L_op rfl (X_fn (vs := [l]) en8 rfl (CT.mono (c_great l es _ lo up hl) ?_))
  rintro _ _ ⟨⟨gg, rfl, hgg⟩, rfl⟩
  rcases Bool.eq_false_or_eq_true (gg) with hc1 | hc1
  · rw [hc1]
    refine L_nil ?_
    refine T_n ?_
    refine W_ct rfl ?_
    refine W_seq ?_
    refine W_reg ?_
    refine L_op rfl (X_fn (vs := []) en9 rfl (CT.mono (c_wakes _ hT) ?_))
    rintro vb2 w2 ⟨hvb2, hu2⟩
    have hz2 := hu2.size
    replace hU := hU.trans (Ext.upd hu2)
    replace hT := hT.ext hu2
    replace hl := hl.ext hu2
    subst hvb2
    refine L_op rfl (X_assign (v := (.bool (true))) rfl ?_)
    refine L_nil ?_
    refine T_n ?_
    refine W_ret ?_
    refine T_r ?_
    exact BQ_r (End_1 Tryd.results7 (v := .bool true) rfl ⟨rfl, hU.own hn0⟩)
  · rw [hc1]
    refine L_nil ?_
    refine T_n ?_
    refine W_cf rfl ?_
    refine W_skip ?_
    refine T_n ?_
    refine W_seq ?_
    obtain ⟨hn20, hk40⟩ := hgg hc1
    have hik : ItK es := fun j e h => ⟨Nat.le_trans (hk40 j e h).1 (by decide), Nat.le_trans (hk40 j e h).2 (by decide)⟩
    refine W_reg ?_
    refine L_op rfl (X_move (v := l) rfl ?_)
    obtain ⟨sa, hsa⟩ : ∃ n, n = w.heap.size := ⟨_, rfl⟩
    refine L_op rfl (X_fn (vs := [l]) en18 rfl (CT.mono (c_ownI l es _ lo up (by omega) hl hik (by omega)) ?_))
    rintro va w3 ⟨esa, hNa, hdia, hksa, hu3⟩
    have hz3 := hu3.size
    obtain ⟨ua, hupa⟩ : ∃ n, n = w3.heap.size := ⟨_, rfl⟩
    rw [← hsa, ← hupa] at hNa
    replace hU := hU.trans (Ext.upd hu3)
    replace hT := hT.ext hu3
    replace hl := hl.ext hu3
    refine L_op rfl (X_move (v := l) rfl ?_)
    obtain ⟨sr, hsr⟩ : ∃ n, n = w3.heap.size := ⟨_, rfl⟩
    refine L_op rfl (X_fn (vs := [l]) en19 rfl (CT.mono (c_ownIR l es _ lo up (by omega) hl hik (by omega)) ?_))
    rintro vr w4 ⟨esr, hNr, hksr, hu4⟩
    have hz4 := hu4.size
    obtain ⟨ur, hupr⟩ : ∃ n, n = w4.heap.size := ⟨_, rfl⟩
    rw [← hsr, ← hupr] at hNr
    replace hU := hU.trans (Ext.upd hu4)
    replace hT := hT.ext hu4
    replace hl := hl.ext hu4
    replace hNa := hNa.ext hu4
    refine L_op rfl (X_assign (v := va) rfl ?_)
    refine L_op rfl (X_assign (v := vr) rfl ?_)
    refine L_nil ?_
    refine T_n ?_
    refine W_seq ?_
    refine W_seq ?_
    have hela := same_len hksa
    refine W_reg ?_
    refine L_op rfl (X_move (v := va) rfl ?_)
    refine L_op rfl (X_move (v := l) rfl ?_)
    refine L_op rfl (X_fn (vs := [va, l]) en15 rfl (CT.mono (c_sameI va l esa es _ sa ua lo up (by omega) (by omega) hNa.rd hl) ?_))
    rintro _ w5 ⟨⟨g5, rfl, hg5⟩, hu5⟩
    have hz5 := hu5.size
    replace hU := hU.trans (Ext.upd hu5)
    replace hT := hT.ext hu5
    replace hl := hl.ext hu5
    replace hNa := hNa.ext hu5
    replace hNr := hNr.ext hu5
    obtain rfl : g5 = true := hg5.2 hksa
    refine L_op rfl (X_not (b := true) (r := false) rfl rfl ?_)
    refine L_op rfl (X_move (v := (.bool (false))) rfl ?_)
    refine L_gy (dj := 19) rfl rfl rfl (X_move (v := va) rfl ?_)
    refine L_gy (dj := 19) rfl rfl rfl (X_len (v := va) (n := esa.length) Tryd.underlying22 rfl hNa.1.sv ?_)
    refine L_gy (dj := 19) rfl rfl rfl (X_move (v := l) rfl ?_)
    refine L_gy (dj := 19) rfl rfl rfl (X_len (v := l) (n := es.length) Tryd.underlying22 rfl hl.sv ?_)
    refine L_gy (dj := 19) rfl rfl rfl (X_cmp (k := .i64) (a := ((esa.length : Nat) : Int)) (b := ((es.length : Nat) : Int)) (r := false) rfl rfl rfl (decide_eq_false (p := ((((esa.length : Nat) : Int)) : Int) ≠ ((((es.length : Nat) : Int)) : Int)) (by omega)) ?_)
    refine L_op rfl (X_pick (t := false) (v := (.bool (false))) rfl rfl ?_)
    refine L_nil ?_
    refine T_n ?_
    refine W_cf rfl ?_
    refine W_skip ?_
    refine T_n ?_
    refine W_seq ?_
    refine W_seq ?_
    refine W_reg ?_
    refine L_op rfl (X_assign (v := (.int .i64 (0))) rfl ?_)
    refine L_nil ?_
    refine T_n ?_
    refine W_block ?_
    have hbf0 := fst_sub esa
    have hS0 : ∀ s ∈ SubT esa, BOwn w5 5 sa ua s := fun s hs => by obtain ⟨e, he, h⟩ := List.mem_flatMap.1 hs; exact hNa.2.2 e he s h
    have hG0 := hNa.1
    have hua := hNa.2.1
    refine W_loop (α := Nat × List IE × List BE) [5, 6, 7, 26, 27, 28, 29, 30, 31, 32, 33, 34, 35, 36, 37, 38, 39, 40, 41, 42, 43, 44, 45, 46, 47, 48, 49, 50, 51, 52, 53, 54, 55, 56, 57, 58, 59, 60, 61, 62, 63, 64, 65, 66, 67, 68, 69, 70, 71, 72, 73, 74, 75, 76, 77, 78, 79, 80, 81, 82, 83, 84, 85, 86, 87, 88, 89, 90, 91] (fun ⟨i, gs, bs⟩ => [(5, (.int .i64 (((i : Nat) : Int))))]) (fun ⟨i, gs, bs⟩ w_ => i ≤ gs.length ∧ Own w_ sa 43 8 va gs.length (gs.flatMap LT.cel) ∧ bs.map (fun (x : BE) => x.1) = fstT gs ∧ (∀ s ∈ bs, BOwn w_ 5 sa ua s) ∧ DistB bs ∧ NRd LT w_ lo up l es ∧ NOwn LT w_ 43 5 sr ur vr esr ∧ TabR w_ ∧ Upd (fun i => n0 ≤ i) w w_) (fun ⟨i, gs, bs⟩ => gs.length - i) ⟨rfl, (0, esa, SubT esa), ⟨Nat.zero_le _, hG0, hbf0, hS0, hdia, hl, hNr, hT, hU⟩, Out.refl _ _, ⟨rfl, trivial⟩⟩ ?_
    rintro ⟨i, gs, bs⟩ w6 _ ⟨hil, hG, hbf, hS, hdi, hl, hNr, hT, hU⟩
    have hsz_ := hU.size
    have hglen := hG.sv.len
    refine W_seq ?_
    refine W_seq ?_
    refine W_reg ?_
    refine L_op rfl (X_move (v := (.int .i64 (((i : Nat) : Int)))) rfl ?_)
    refine L_op rfl (X_move (v := va) rfl ?_)
    refine L_op rfl (X_len (v := va) (n := gs.length) Tryd.underlying22 rfl hG.sv ?_)
    by_cases hc7 : (((i : Nat) : Int) : Int) < (((gs.length : Nat) : Int))
    · refine L_op rfl (X_cmp (k := .i64) (a := ((i : Nat) : Int)) (b := ((gs.length : Nat) : Int)) (r := true) rfl rfl rfl (decide_eq_true (p := ((((i : Nat) : Int)) : Int) < ((((gs.length : Nat) : Int)) : Int)) (by omega)) ?_)
      have hi : i < gs.length := by omega
      obtain ⟨e, hgi⟩ : ∃ e, gs[i]? = some e := ⟨_, List.getElem?_eq_getElem hi⟩
      obtain ⟨hfk, hfv⟩ := fst_at hgi
      refine L_nil ?_
      refine T_n ?_
      refine W_ct rfl ?_
      refine W_skip ?_
      refine T_n ?_
      refine W_seq ?_
      refine W_block ?_
      refine W_seq ?_
      refine W_seq ?_
      refine W_reg ?_
      refine L_op rfl (X_assign (v := (.int .i64 (0))) rfl ?_)
      refine L_nil ?_
      refine T_n ?_
      refine W_block ?_
      obtain ⟨m0, hm0⟩ := bs_at hbf hfk
      refine W_loop (α := Nat × List BE) [6, 32, 33, 34, 35, 36, 37, 38, 39, 40, 41, 42, 43, 44, 45, 46, 47, 48, 49, 50, 51, 52, 53, 54, 55, 56, 57] (fun ⟨j, bs⟩ => [(6, (.int .i64 (((j : Nat) : Int))))]) (fun ⟨j, bs⟩ w_ => (∃ m, bs[i * 2]? = some (e.1, m) ∧ j ≤ m.length ∧ m.length = m0.length) ∧ Own w_ sa 43 8 va gs.length (gs.flatMap LT.cel) ∧ bs.map (fun (x : BE) => x.1) = fstT gs ∧ (∀ s ∈ bs, BOwn w_ 5 sa ua s) ∧ DistB bs ∧ NRd LT w_ lo up l es ∧ NOwn LT w_ 43 5 sr ur vr esr ∧ TabR w_ ∧ Upd (fun i => n0 ≤ i) w w_) (fun ⟨j, bs⟩ => m0.length - j) ⟨rfl, (0, bs), ⟨⟨m0, hm0, Nat.zero_le _, rfl⟩, hG, hbf, hS, hdi, hl, hNr, hT, hU⟩, Out.refl _ _, ⟨rfl, trivial⟩⟩ ?_
      rintro ⟨j, bs⟩ w8 _ ⟨⟨m, hbm, hjm, hml⟩, hG, hbf, hS, hdi, hl, hNr, hT, hU⟩
      have hsz_ := hU.size
      have hglen := hG.sv.len
      have hM : BOwn w8 5 sa ua (e.1, m) := hS _ (List.mem_of_getElem? hbm)
      refine W_seq ?_
      refine W_seq ?_
      refine W_reg ?_
      refine L_op rfl (X_move (v := (.int .i64 (((j : Nat) : Int)))) rfl ?_)
      refine L_op rfl (X_move (v := va) rfl ?_)
      refine L_op rfl (X_move (v := (.int .i64 (((i : Nat) : Int)))) rfl ?_)
      refine L_op rfl (X_idx (v := va) (n := gs.length) (k := .i64) (i := ((i : Nat) : Int)) S22 rfl hG.sv rfl (by omega) (by omega) ?_)
      refine L_op rfl (X_fldS (v := va) (o := (((i : Nat) : Int) : Int).toNat * 8) Fd43_0 rfl hG.sv (by omega) ?_)
      refine L_op rfl (X_load (v := e.1) T35 rfl (okey hG.rd (Int.toNat_natCast _) hgi) ?_)
      refine L_op rfl (X_len (v := e.1) (n := m.length) Tryd.underlying35 rfl hM.1.sv ?_)
      by_cases hc9 : (((j : Nat) : Int) : Int) < (((m.length : Nat) : Int))
      · refine L_op rfl (X_cmp (k := .i64) (a := ((j : Nat) : Int)) (b := ((m.length : Nat) : Int)) (r := true) rfl rfl rfl (decide_eq_true (p := ((((j : Nat) : Int)) : Int) < ((((m.length : Nat) : Int)) : Int)) (by omega)) ?_)
        have hjm2 : j < m.length := by omega
        have hmx1 : m.length ≤ 9223372036854775807 := hM.1.sv.len
        obtain ⟨x0, hx0⟩ : ∃ x, m[j]? = some x := ⟨_, List.getElem?_eq_getElem hjm2⟩
        refine L_nil ?_
        refine T_n ?_
        refine W_ct rfl ?_
        refine W_skip ?_
        refine T_n ?_
        refine W_seq ?_
        refine W_block ?_
        refine W_draw 15 [[], [], [0, 1], [0, 1, 2], [0, 1, 2, 3], [], [], [], [6, 7], [6, 7, 8], [6, 7, 8, 9], [], [6, 7, 8, 9, 10, 11], [6, 7, 8, 9, 10, 11, 12], [6, 7, 8, 9, 10, 11, 12, 13], [0, 1, 2, 3, 4, 5, 6, 7, 8, 9, 10, 11, 12, 13, 14], [0, 1, 2, 3, 4, 5, 6, 7, 8, 9, 10, 11, 12, 13, 14, 15]] mixed (by kernel_rfl) ?_
        refine ⟨.det (fun val => va), ⟨fun _ _ hv => rfl, fun _ _ _ _ _ => trivial⟩, fun val h_ W hx he => ⟨trivial, ?_⟩, ?_⟩
        · replace hx := (Upd.drew _ _).trans hx
          replace hG := hG.ext hx
          replace hl := hl.ext hx
          replace hNr := hNr.ext hx
          replace hT := hT.ext hx
          replace hM := hM.ext hx
          have hE := Upd.refl (fun _ => False) W
          refine id (X_move (v := va) rfl ?_)
          exact ⟨hE, rfl⟩
        refine ⟨.det (fun val => (.int .i64 (((i : Nat) : Int)))), ⟨fun _ _ hv => rfl, fun _ _ _ _ _ => trivial⟩, fun val h_ W hx he => ⟨trivial, ?_⟩, ?_⟩
        · replace hx := (Upd.drew _ _).trans hx
          replace hG := hG.ext hx
          replace hl := hl.ext hx
          replace hNr := hNr.ext hx
          replace hT := hT.ext hx
          replace hM := hM.ext hx
          have hE := Upd.refl (fun _ => False) W
          refine id (X_move (v := (.int .i64 (((i : Nat) : Int)))) rfl ?_)
          exact ⟨hE, rfl⟩
        refine ⟨.det (fun val => (pof va ((((i : Nat) : Int) : Int).toNat * 8))), ⟨fun _ _ hv => rfl, fun _ _ _ _ _ => trivial⟩, fun val h_ W hx he => ⟨trivial, ?_⟩, ?_⟩
        · replace hx := (Upd.drew _ _).trans hx
          replace hG := hG.ext hx
          replace hl := hl.ext hx
          replace hNr := hNr.ext hx
          replace hT := hT.ext hx
          replace hM := hM.ext hx
          have hE := Upd.refl (fun _ => False) W
          refine id (X_idx (v := va) (n := gs.length) (k := .i64) (i := ((i : Nat) : Int)) S22 rfl hG.sv rfl (by omega) (by omega) ?_)
          exact ⟨hE, rfl⟩
        refine ⟨.det (fun val => (pof va ((((i : Nat) : Int) : Int).toNat * 8 + 0))), ⟨fun _ _ hv => rfl, fun _ _ _ _ _ => trivial⟩, fun val h_ W hx he => ⟨trivial, ?_⟩, ?_⟩
        · replace hx := (Upd.drew _ _).trans hx
          replace hG := hG.ext hx
          replace hl := hl.ext hx
          replace hNr := hNr.ext hx
          replace hT := hT.ext hx
          replace hM := hM.ext hx
          have hE := Upd.refl (fun _ => False) W
          refine id (X_fldS (v := va) (o := (((i : Nat) : Int) : Int).toNat * 8) Fd43_0 rfl hG.sv (by omega) ?_)
          exact ⟨hE, rfl⟩
        refine ⟨.det (fun val => e.1), ⟨fun _ _ hv => rfl, fun _ _ _ _ _ => trivial⟩, fun val h_ W hx he => ⟨trivial, ?_⟩, ?_⟩
        · replace hx := (Upd.drew _ _).trans hx
          replace hG := hG.ext hx
          replace hl := hl.ext hx
          replace hNr := hNr.ext hx
          replace hT := hT.ext hx
          replace hM := hM.ext hx
          have hE := Upd.refl (fun _ => False) W
          refine id (X_load (v := e.1) T35 rfl (okey hG.rd (Int.toNat_natCast _) hgi) ?_)
          exact ⟨hE, rfl⟩
        refine ⟨.det (fun val => (.int .i64 (((j : Nat) : Int)))), ⟨fun _ _ hv => rfl, fun _ _ _ _ _ => trivial⟩, fun val h_ W hx he => ⟨trivial, ?_⟩, ?_⟩
        · replace hx := (Upd.drew _ _).trans hx
          replace hG := hG.ext hx
          replace hl := hl.ext hx
          replace hNr := hNr.ext hx
          replace hT := hT.ext hx
          replace hM := hM.ext hx
          have hE := Upd.refl (fun _ => False) W
          refine id (X_move (v := (.int .i64 (((j : Nat) : Int)))) rfl ?_)
          exact ⟨hE, rfl⟩
        refine ⟨.det (fun val => va), ⟨fun _ _ hv => rfl, fun _ _ _ _ _ => trivial⟩, fun val h_ W hx he => ⟨trivial, ?_⟩, ?_⟩
        · replace hx := (Upd.drew _ _).trans hx
          replace hG := hG.ext hx
          replace hl := hl.ext hx
          replace hNr := hNr.ext hx
          replace hT := hT.ext hx
          replace hM := hM.ext hx
          have hE := Upd.refl (fun _ => False) W
          refine id (X_move (v := va) rfl ?_)
          exact ⟨hE, rfl⟩
        refine ⟨.det (fun val => (.int .i64 (((i : Nat) : Int)))), ⟨fun _ _ hv => rfl, fun _ _ _ _ _ => trivial⟩, fun val h_ W hx he => ⟨trivial, ?_⟩, ?_⟩
        · replace hx := (Upd.drew _ _).trans hx
          replace hG := hG.ext hx
          replace hl := hl.ext hx
          replace hNr := hNr.ext hx
          replace hT := hT.ext hx
          replace hM := hM.ext hx
          have hE := Upd.refl (fun _ => False) W
          refine id (X_move (v := (.int .i64 (((i : Nat) : Int)))) rfl ?_)
          exact ⟨hE, rfl⟩
        refine ⟨.det (fun val => (pof va ((((i : Nat) : Int) : Int).toNat * 8))), ⟨fun _ _ hv => rfl, fun _ _ _ _ _ => trivial⟩, fun val h_ W hx he => ⟨trivial, ?_⟩, ?_⟩
        · replace hx := (Upd.drew _ _).trans hx
          replace hG := hG.ext hx
          replace hl := hl.ext hx
          replace hNr := hNr.ext hx
          replace hT := hT.ext hx
          replace hM := hM.ext hx
          have hE := Upd.refl (fun _ => False) W
          refine id (X_idx (v := va) (n := gs.length) (k := .i64) (i := ((i : Nat) : Int)) S22 rfl hG.sv rfl (by omega) (by omega) ?_)
          exact ⟨hE, rfl⟩
        refine ⟨.det (fun val => (pof va ((((i : Nat) : Int) : Int).toNat * 8 + 0))), ⟨fun _ _ hv => rfl, fun _ _ _ _ _ => trivial⟩, fun val h_ W hx he => ⟨trivial, ?_⟩, ?_⟩
        · replace hx := (Upd.drew _ _).trans hx
          replace hG := hG.ext hx
          replace hl := hl.ext hx
          replace hNr := hNr.ext hx
          replace hT := hT.ext hx
          replace hM := hM.ext hx
          have hE := Upd.refl (fun _ => False) W
          refine id (X_fldS (v := va) (o := (((i : Nat) : Int) : Int).toNat * 8) Fd43_0 rfl hG.sv (by omega) ?_)
          exact ⟨hE, rfl⟩
        refine ⟨.det (fun val => e.1), ⟨fun _ _ hv => rfl, fun _ _ _ _ _ => trivial⟩, fun val h_ W hx he => ⟨trivial, ?_⟩, ?_⟩
        · replace hx := (Upd.drew _ _).trans hx
          replace hG := hG.ext hx
          replace hl := hl.ext hx
          replace hNr := hNr.ext hx
          replace hT := hT.ext hx
          replace hM := hM.ext hx
          have hE := Upd.refl (fun _ => False) W
          refine id (X_load (v := e.1) T35 rfl (okey hG.rd (Int.toNat_natCast _) hgi) ?_)
          exact ⟨hE, rfl⟩
        refine ⟨.det (fun val => (.int .i64 (((j : Nat) : Int)))), ⟨fun _ _ hv => rfl, fun _ _ _ _ _ => trivial⟩, fun val h_ W hx he => ⟨trivial, ?_⟩, ?_⟩
        · replace hx := (Upd.drew _ _).trans hx
          replace hG := hG.ext hx
          replace hl := hl.ext hx
          replace hNr := hNr.ext hx
          replace hT := hT.ext hx
          replace hM := hM.ext hx
          have hE := Upd.refl (fun _ => False) W
          refine id (X_move (v := (.int .i64 (((j : Nat) : Int)))) rfl ?_)
          exact ⟨hE, rfl⟩
        refine ⟨.det (fun val => (pof e.1 ((((j : Nat) : Int) : Int).toNat * 1))), ⟨fun _ _ hv => rfl, fun _ _ _ _ _ => trivial⟩, fun val h_ W hx he => ⟨trivial, ?_⟩, ?_⟩
        · replace hx := (Upd.drew _ _).trans hx
          replace hG := hG.ext hx
          replace hl := hl.ext hx
          replace hNr := hNr.ext hx
          replace hT := hT.ext hx
          replace hM := hM.ext hx
          have hE := Upd.refl (fun _ => False) W
          refine id (X_idx (v := e.1) (n := m.length) (k := .i64) (i := ((j : Nat) : Int)) S35 rfl hM.1.sv rfl (by omega) (by omega) ?_)
          exact ⟨hE, rfl⟩
        refine ⟨.det (fun val => (byteV x0)), ⟨fun _ _ hv => rfl, fun _ _ _ _ _ => trivial⟩, fun val h_ W hx he => ⟨trivial, ?_⟩, ?_⟩
        · replace hx := (Upd.drew _ _).trans hx
          replace hG := hG.ext hx
          replace hl := hl.ext hx
          replace hNr := hNr.ext hx
          replace hT := hT.ext hx
          replace hM := hM.ext hx
          have hE := Upd.refl (fun _ => False) W
          refine id (X_load (v := byteV x0) T5 rfl (hM.1.rd.cellB (by rw [show (((j : Nat) : Int).toNat * 1) = j by omega]; exact hx0)) ?_)
          exact ⟨hE, rfl⟩
        refine ⟨.det (fun val => (.int .u8 ((((x0 ^^^ 1).toNat : Nat) : Int)))), ⟨fun _ _ hv => rfl, fun _ _ _ _ _ => trivial⟩, fun val h_ W hx he => ⟨trivial, ?_⟩, ?_⟩
        · replace hx := (Upd.drew _ _).trans hx
          replace hG := hG.ext hx
          replace hl := hl.ext hx
          replace hNr := hNr.ext hx
          replace hT := hT.ext hx
          replace hM := hM.ext hx
          have hE := Upd.refl (fun _ => False) W
          refine id (X_arith (k := .u8) (a := ((x0.toNat : Nat) : Int)) (b := 1) (r := (((x0 ^^^ 1).toNat : Nat) : Int)) rfl rfl rfl (u8_xor x0 1) ?_)
          exact ⟨hE, rfl⟩
        intro val W10 hx10 he10
        replace hx10 := (Upd.drew _ _).trans hx10
        have hz10 := hx10.size
        replace hG := hG.ext hx10
        replace hS : ∀ s ∈ bs, BOwn _ 5 sa ua s := fun s hs => (hS s hs).ext hx10
        replace hl := hl.ext hx10
        replace hNr := hNr.ext hx10
        replace hT := hT.ext hx10
        replace hU := hU.trans (Ext.upd hx10)
        replace hM := hM.ext hx10
        refine L_op rfl (X_idx (v := e.1) (n := m.length) (k := .i64) (i := ((j : Nat) : Int)) S35 rfl hM.1.sv rfl (by omega) (by omega) ?_)
        refine L_op0 (X_storeOwnC (i := ((j : Nat) : Int).toNat * 1) (u := byteV (x0 ^^^ 1)) T5 hM.1 (by show ((j : Nat) : Int).toNat * 1 < m.length * 1; omega) rfl rfl rfl ?_)
        intro w7 hO7 hu7
        have hz7 := hu7.size
        have hO8 := hO7.eq (n' := (m.set j (x0 ^^^ 1)).length) (xs' := (m.set j (x0 ^^^ 1)).map byteV) (by rw [List.length_set]) (by rw [show ((j : Nat) : Int).toNat * 1 = j by omega, List.map_set])
        obtain ⟨hS8, hdi8⟩ := subs_set hS hdi hbm hO8 hu7
        have hMb := fun b (hb : obk _ = some b) => (⟨(hM.1.lt hb).1, hM.2 b hb⟩ : sa ≤ b ∧ b < ua)
        replace hG := hG.upd hu7 fun b h1 h2 => absurd (hG.types hM.1 h1 h2) (by decide)
        replace hl := hl.upd hu7 fun i h1 h2 h => by have h3 := hMb i h; omega
        replace hNr := hNr.upd hu7 fun i h1 h2 h => by have h3 := hMb i h; omega
        replace hT := hT.upd hu7 fun i h1 h2 h => by have h3 := hMb i h; omega
        replace hU := hU.trans (hu7.mono fun i _ h => by have h3 := hMb i h; show n0 ≤ i; omega)
        refine L_nil ?_
        refine B_n ?_
        refine T_n ?_
        refine W_reg ?_
        refine L_op rfl (X_move (v := (.int .i64 (((j : Nat) : Int)))) rfl ?_)
        refine L_op rfl (X_arith (k := .i64) (a := ((j : Nat) : Int)) (b := 1) (r := ((j + 1 : Nat) : Int)) rfl rfl rfl (iadd64 (by omega) (by omega) (by omega)) ?_)
        refine L_op rfl (X_assign (v := (.int .i64 (((j + 1 : Nat) : Int)))) rfl ?_)
        refine L_nil ?_
        refine T_n ?_
        exact ⟨rfl, (j + 1, bs.set (i * 2) (e.1, m.set j (x0 ^^^ 1))), ⟨⟨⟨m.set j (x0 ^^^ 1), List.getElem?_set_self (List.getElem?_eq_some_iff.1 hbm).1, by rw [List.length_set]; exact hjm2, by rw [List.length_set]; exact hml⟩, hG, by rw [bs_set hbm]; exact hbf, hS8, hdi8, hl, hNr, hT, hU⟩, (by show m0.length - (j + 1) < m0.length - j; omega)⟩, (Out.mk rfl), ⟨rfl, trivial⟩⟩
      · refine L_op rfl (X_cmp (k := .i64) (a := ((j : Nat) : Int)) (b := ((m.length : Nat) : Int)) (r := false) rfl rfl rfl (decide_eq_false (p := ((((j : Nat) : Int)) : Int) < ((((m.length : Nat) : Int)) : Int)) (by omega)) ?_)
        refine L_nil ?_
        refine T_n ?_
        refine W_cf rfl ?_
        refine W_exit ?_
        refine T_e ?_
        refine T_e ?_
        refine B_x ?_
        refine T_n ?_
        refine W_seq ?_
        refine W_seq ?_
        refine W_reg ?_
        refine L_op rfl (X_assign (v := (.int .i64 (0))) rfl ?_)
        refine L_nil ?_
        refine T_n ?_
        refine W_block ?_
        obtain ⟨m0, hm0⟩ := bs_at hbf hfv
        refine W_loop (α := Nat × List BE) [7, 58, 59, 60, 61, 62, 63, 64, 65, 66, 67, 68, 69, 70, 71, 72, 73, 74, 75, 76, 77, 78, 79, 80, 81, 82, 83] (fun ⟨j, bs⟩ => [(7, (.int .i64 (((j : Nat) : Int))))]) (fun ⟨j, bs⟩ w_ => (∃ m, bs[i * 2 + 1]? = some (e.2.1, m) ∧ j ≤ m.length ∧ m.length = m0.length) ∧ Own w_ sa 43 8 va gs.length (gs.flatMap LT.cel) ∧ bs.map (fun (x : BE) => x.1) = fstT gs ∧ (∀ s ∈ bs, BOwn w_ 5 sa ua s) ∧ DistB bs ∧ NRd LT w_ lo up l es ∧ NOwn LT w_ 43 5 sr ur vr esr ∧ TabR w_ ∧ Upd (fun i => n0 ≤ i) w w_) (fun ⟨j, bs⟩ => m0.length - j) ⟨rfl, (0, bs), ⟨⟨m0, hm0, Nat.zero_le _, rfl⟩, hG, hbf, hS, hdi, hl, hNr, hT, hU⟩, Out.refl _ _, ⟨rfl, trivial⟩⟩ ?_
        rintro ⟨j, bs⟩ w11 _ ⟨⟨m, hbm, hjm, hml⟩, hG, hbf, hS, hdi, hl, hNr, hT, hU⟩
        have hsz_ := hU.size
        have hglen := hG.sv.len
        have hM : BOwn w11 5 sa ua (e.2.1, m) := hS _ (List.mem_of_getElem? hbm)
        refine W_seq ?_
        refine W_seq ?_
        refine W_reg ?_
        refine L_op rfl (X_move (v := (.int .i64 (((j : Nat) : Int)))) rfl ?_)
        refine L_op rfl (X_move (v := va) rfl ?_)
        refine L_op rfl (X_move (v := (.int .i64 (((i : Nat) : Int)))) rfl ?_)
        refine L_op rfl (X_idx (v := va) (n := gs.length) (k := .i64) (i := ((i : Nat) : Int)) S22 rfl hG.sv rfl (by omega) (by omega) ?_)
        refine L_op rfl (X_fldS (v := va) (o := (((i : Nat) : Int) : Int).toNat * 8) Fd43_1 rfl hG.sv (by omega) ?_)
        refine L_op rfl (X_load (v := e.2.1) T35 rfl (oval hG.rd (Int.toNat_natCast _) hgi) ?_)
        refine L_op rfl (X_len (v := e.2.1) (n := m.length) Tryd.underlying35 rfl hM.1.sv ?_)
        by_cases hc12 : (((j : Nat) : Int) : Int) < (((m.length : Nat) : Int))
        · refine L_op rfl (X_cmp (k := .i64) (a := ((j : Nat) : Int)) (b := ((m.length : Nat) : Int)) (r := true) rfl rfl rfl (decide_eq_true (p := ((((j : Nat) : Int)) : Int) < ((((m.length : Nat) : Int)) : Int)) (by omega)) ?_)
          have hjm2 : j < m.length := by omega
          have hmx1 : m.length ≤ 9223372036854775807 := hM.1.sv.len
          obtain ⟨x0, hx0⟩ : ∃ x, m[j]? = some x := ⟨_, List.getElem?_eq_getElem hjm2⟩
          refine L_nil ?_
          refine T_n ?_
          refine W_ct rfl ?_
          refine W_skip ?_
          refine T_n ?_
          refine W_seq ?_
          refine W_block ?_
          refine W_draw 15 [[], [], [0, 1], [0, 1, 2], [0, 1, 2, 3], [], [], [], [6, 7], [6, 7, 8], [6, 7, 8, 9], [], [6, 7, 8, 9, 10, 11], [6, 7, 8, 9, 10, 11, 12], [6, 7, 8, 9, 10, 11, 12, 13], [0, 1, 2, 3, 4, 5, 6, 7, 8, 9, 10, 11, 12, 13, 14], [0, 1, 2, 3, 4, 5, 6, 7, 8, 9, 10, 11, 12, 13, 14, 15]] mixed (by kernel_rfl) ?_
          refine ⟨.det (fun val => va), ⟨fun _ _ hv => rfl, fun _ _ _ _ _ => trivial⟩, fun val h_ W hx he => ⟨trivial, ?_⟩, ?_⟩
          · replace hx := (Upd.drew _ _).trans hx
            replace hG := hG.ext hx
            replace hl := hl.ext hx
            replace hNr := hNr.ext hx
            replace hT := hT.ext hx
            replace hM := hM.ext hx
            have hE := Upd.refl (fun _ => False) W
            refine id (X_move (v := va) rfl ?_)
            exact ⟨hE, rfl⟩
          refine ⟨.det (fun val => (.int .i64 (((i : Nat) : Int)))), ⟨fun _ _ hv => rfl, fun _ _ _ _ _ => trivial⟩, fun val h_ W hx he => ⟨trivial, ?_⟩, ?_⟩
          · replace hx := (Upd.drew _ _).trans hx
            replace hG := hG.ext hx
            replace hl := hl.ext hx
            replace hNr := hNr.ext hx
            replace hT := hT.ext hx
            replace hM := hM.ext hx
            have hE := Upd.refl (fun _ => False) W
            refine id (X_move (v := (.int .i64 (((i : Nat) : Int)))) rfl ?_)
            exact ⟨hE, rfl⟩
          refine ⟨.det (fun val => (pof va ((((i : Nat) : Int) : Int).toNat * 8))), ⟨fun _ _ hv => rfl, fun _ _ _ _ _ => trivial⟩, fun val h_ W hx he => ⟨trivial, ?_⟩, ?_⟩
          · replace hx := (Upd.drew _ _).trans hx
            replace hG := hG.ext hx
            replace hl := hl.ext hx
            replace hNr := hNr.ext hx
            replace hT := hT.ext hx
            replace hM := hM.ext hx
            have hE := Upd.refl (fun _ => False) W
            refine id (X_idx (v := va) (n := gs.length) (k := .i64) (i := ((i : Nat) : Int)) S22 rfl hG.sv rfl (by omega) (by omega) ?_)
            exact ⟨hE, rfl⟩
          refine ⟨.det (fun val => (pof va ((((i : Nat) : Int) : Int).toNat * 8 + 1))), ⟨fun _ _ hv => rfl, fun _ _ _ _ _ => trivial⟩, fun val h_ W hx he => ⟨trivial, ?_⟩, ?_⟩
          · replace hx := (Upd.drew _ _).trans hx
            replace hG := hG.ext hx
            replace hl := hl.ext hx
            replace hNr := hNr.ext hx
            replace hT := hT.ext hx
            replace hM := hM.ext hx
            have hE := Upd.refl (fun _ => False) W
            refine id (X_fldS (v := va) (o := (((i : Nat) : Int) : Int).toNat * 8) Fd43_1 rfl hG.sv (by omega) ?_)
            exact ⟨hE, rfl⟩
          refine ⟨.det (fun val => e.2.1), ⟨fun _ _ hv => rfl, fun _ _ _ _ _ => trivial⟩, fun val h_ W hx he => ⟨trivial, ?_⟩, ?_⟩
          · replace hx := (Upd.drew _ _).trans hx
            replace hG := hG.ext hx
            replace hl := hl.ext hx
            replace hNr := hNr.ext hx
            replace hT := hT.ext hx
            replace hM := hM.ext hx
            have hE := Upd.refl (fun _ => False) W
            refine id (X_load (v := e.2.1) T35 rfl (oval hG.rd (Int.toNat_natCast _) hgi) ?_)
            exact ⟨hE, rfl⟩
          refine ⟨.det (fun val => (.int .i64 (((j : Nat) : Int)))), ⟨fun _ _ hv => rfl, fun _ _ _ _ _ => trivial⟩, fun val h_ W hx he => ⟨trivial, ?_⟩, ?_⟩
          · replace hx := (Upd.drew _ _).trans hx
            replace hG := hG.ext hx
            replace hl := hl.ext hx
            replace hNr := hNr.ext hx
            replace hT := hT.ext hx
            replace hM := hM.ext hx
            have hE := Upd.refl (fun _ => False) W
            refine id (X_move (v := (.int .i64 (((j : Nat) : Int)))) rfl ?_)
            exact ⟨hE, rfl⟩
          refine ⟨.det (fun val => va), ⟨fun _ _ hv => rfl, fun _ _ _ _ _ => trivial⟩, fun val h_ W hx he => ⟨trivial, ?_⟩, ?_⟩
          · replace hx := (Upd.drew _ _).trans hx
            replace hG := hG.ext hx
            replace hl := hl.ext hx
            replace hNr := hNr.ext hx
            replace hT := hT.ext hx
            replace hM := hM.ext hx
            have hE := Upd.refl (fun _ => False) W
            refine id (X_move (v := va) rfl ?_)
            exact ⟨hE, rfl⟩
          refine ⟨.det (fun val => (.int .i64 (((i : Nat) : Int)))), ⟨fun _ _ hv => rfl, fun _ _ _ _ _ => trivial⟩, fun val h_ W hx he => ⟨trivial, ?_⟩, ?_⟩
          · replace hx := (Upd.drew _ _).trans hx
            replace hG := hG.ext hx
            replace hl := hl.ext hx
            replace hNr := hNr.ext hx
            replace hT := hT.ext hx
            replace hM := hM.ext hx
            have hE := Upd.refl (fun _ => False) W
            refine id (X_move (v := (.int .i64 (((i : Nat) : Int)))) rfl ?_)
            exact ⟨hE, rfl⟩
          refine ⟨.det (fun val => (pof va ((((i : Nat) : Int) : Int).toNat * 8))), ⟨fun _ _ hv => rfl, fun _ _ _ _ _ => trivial⟩, fun val h_ W hx he => ⟨trivial, ?_⟩, ?_⟩
          · replace hx := (Upd.drew _ _).trans hx
            replace hG := hG.ext hx
            replace hl := hl.ext hx
            replace hNr := hNr.ext hx
            replace hT := hT.ext hx
            replace hM := hM.ext hx
            have hE := Upd.refl (fun _ => False) W
            refine id (X_idx (v := va) (n := gs.length) (k := .i64) (i := ((i : Nat) : Int)) S22 rfl hG.sv rfl (by omega) (by omega) ?_)
            exact ⟨hE, rfl⟩
          refine ⟨.det (fun val => (pof va ((((i : Nat) : Int) : Int).toNat * 8 + 1))), ⟨fun _ _ hv => rfl, fun _ _ _ _ _ => trivial⟩, fun val h_ W hx he => ⟨trivial, ?_⟩, ?_⟩
          · replace hx := (Upd.drew _ _).trans hx
            replace hG := hG.ext hx
            replace hl := hl.ext hx
            replace hNr := hNr.ext hx
            replace hT := hT.ext hx
            replace hM := hM.ext hx
            have hE := Upd.refl (fun _ => False) W
            refine id (X_fldS (v := va) (o := (((i : Nat) : Int) : Int).toNat * 8) Fd43_1 rfl hG.sv (by omega) ?_)
            exact ⟨hE, rfl⟩
          refine ⟨.det (fun val => e.2.1), ⟨fun _ _ hv => rfl, fun _ _ _ _ _ => trivial⟩, fun val h_ W hx he => ⟨trivial, ?_⟩, ?_⟩
          · replace hx := (Upd.drew _ _).trans hx
            replace hG := hG.ext hx
            replace hl := hl.ext hx
            replace hNr := hNr.ext hx
            replace hT := hT.ext hx
            replace hM := hM.ext hx
            have hE := Upd.refl (fun _ => False) W
            refine id (X_load (v := e.2.1) T35 rfl (oval hG.rd (Int.toNat_natCast _) hgi) ?_)
            exact ⟨hE, rfl⟩
          refine ⟨.det (fun val => (.int .i64 (((j : Nat) : Int)))), ⟨fun _ _ hv => rfl, fun _ _ _ _ _ => trivial⟩, fun val h_ W hx he => ⟨trivial, ?_⟩, ?_⟩
          · replace hx := (Upd.drew _ _).trans hx
            replace hG := hG.ext hx
            replace hl := hl.ext hx
            replace hNr := hNr.ext hx
            replace hT := hT.ext hx
            replace hM := hM.ext hx
            have hE := Upd.refl (fun _ => False) W
            refine id (X_move (v := (.int .i64 (((j : Nat) : Int)))) rfl ?_)
            exact ⟨hE, rfl⟩
          refine ⟨.det (fun val => (pof e.2.1 ((((j : Nat) : Int) : Int).toNat * 1))), ⟨fun _ _ hv => rfl, fun _ _ _ _ _ => trivial⟩, fun val h_ W hx he => ⟨trivial, ?_⟩, ?_⟩
          · replace hx := (Upd.drew _ _).trans hx
            replace hG := hG.ext hx
            replace hl := hl.ext hx
            replace hNr := hNr.ext hx
            replace hT := hT.ext hx
            replace hM := hM.ext hx
            have hE := Upd.refl (fun _ => False) W
            refine id (X_idx (v := e.2.1) (n := m.length) (k := .i64) (i := ((j : Nat) : Int)) S35 rfl hM.1.sv rfl (by omega) (by omega) ?_)
            exact ⟨hE, rfl⟩
          refine ⟨.det (fun val => (byteV x0)), ⟨fun _ _ hv => rfl, fun _ _ _ _ _ => trivial⟩, fun val h_ W hx he => ⟨trivial, ?_⟩, ?_⟩
          · replace hx := (Upd.drew _ _).trans hx
            replace hG := hG.ext hx
            replace hl := hl.ext hx
            replace hNr := hNr.ext hx
            replace hT := hT.ext hx
            replace hM := hM.ext hx
            have hE := Upd.refl (fun _ => False) W
            refine id (X_load (v := byteV x0) T5 rfl (hM.1.rd.cellB (by rw [show (((j : Nat) : Int).toNat * 1) = j by omega]; exact hx0)) ?_)
            exact ⟨hE, rfl⟩
          refine ⟨.det (fun val => (.int .u8 ((((x0 ^^^ 1).toNat : Nat) : Int)))), ⟨fun _ _ hv => rfl, fun _ _ _ _ _ => trivial⟩, fun val h_ W hx he => ⟨trivial, ?_⟩, ?_⟩
          · replace hx := (Upd.drew _ _).trans hx
            replace hG := hG.ext hx
            replace hl := hl.ext hx
            replace hNr := hNr.ext hx
            replace hT := hT.ext hx
            replace hM := hM.ext hx
            have hE := Upd.refl (fun _ => False) W
            refine id (X_arith (k := .u8) (a := ((x0.toNat : Nat) : Int)) (b := 1) (r := (((x0 ^^^ 1).toNat : Nat) : Int)) rfl rfl rfl (u8_xor x0 1) ?_)
            exact ⟨hE, rfl⟩
          intro val W13 hx13 he13
          replace hx13 := (Upd.drew _ _).trans hx13
          have hz13 := hx13.size
          replace hG := hG.ext hx13
          replace hS : ∀ s ∈ bs, BOwn _ 5 sa ua s := fun s hs => (hS s hs).ext hx13
          replace hl := hl.ext hx13
          replace hNr := hNr.ext hx13
          replace hT := hT.ext hx13
          replace hU := hU.trans (Ext.upd hx13)
          replace hM := hM.ext hx13
          refine L_op rfl (X_idx (v := e.2.1) (n := m.length) (k := .i64) (i := ((j : Nat) : Int)) S35 rfl hM.1.sv rfl (by omega) (by omega) ?_)
          refine L_op0 (X_storeOwnC (i := ((j : Nat) : Int).toNat * 1) (u := byteV (x0 ^^^ 1)) T5 hM.1 (by show ((j : Nat) : Int).toNat * 1 < m.length * 1; omega) rfl rfl rfl ?_)
          intro w7 hO7 hu7
          have hz7 := hu7.size
          have hO8 := hO7.eq (n' := (m.set j (x0 ^^^ 1)).length) (xs' := (m.set j (x0 ^^^ 1)).map byteV) (by rw [List.length_set]) (by rw [show ((j : Nat) : Int).toNat * 1 = j by omega, List.map_set])
          obtain ⟨hS8, hdi8⟩ := subs_set hS hdi hbm hO8 hu7
          have hMb := fun b (hb : obk _ = some b) => (⟨(hM.1.lt hb).1, hM.2 b hb⟩ : sa ≤ b ∧ b < ua)
          replace hG := hG.upd hu7 fun b h1 h2 => absurd (hG.types hM.1 h1 h2) (by decide)
          replace hl := hl.upd hu7 fun i h1 h2 h => by have h3 := hMb i h; omega
          replace hNr := hNr.upd hu7 fun i h1 h2 h => by have h3 := hMb i h; omega
          replace hT := hT.upd hu7 fun i h1 h2 h => by have h3 := hMb i h; omega
          replace hU := hU.trans (hu7.mono fun i _ h => by have h3 := hMb i h; show n0 ≤ i; omega)
          refine L_nil ?_
          refine B_n ?_
          refine T_n ?_
          refine W_reg ?_
          refine L_op rfl (X_move (v := (.int .i64 (((j : Nat) : Int)))) rfl ?_)
          refine L_op rfl (X_arith (k := .i64) (a := ((j : Nat) : Int)) (b := 1) (r := ((j + 1 : Nat) : Int)) rfl rfl rfl (iadd64 (by omega) (by omega) (by omega)) ?_)
          refine L_op rfl (X_assign (v := (.int .i64 (((j + 1 : Nat) : Int)))) rfl ?_)
          refine L_nil ?_
          refine T_n ?_
          exact ⟨rfl, (j + 1, bs.set (i * 2 + 1) (e.2.1, m.set j (x0 ^^^ 1))), ⟨⟨⟨m.set j (x0 ^^^ 1), List.getElem?_set_self (List.getElem?_eq_some_iff.1 hbm).1, by rw [List.length_set]; exact hjm2, by rw [List.length_set]; exact hml⟩, hG, by rw [bs_set hbm]; exact hbf, hS8, hdi8, hl, hNr, hT, hU⟩, (by show m0.length - (j + 1) < m0.length - j; omega)⟩, (Out.mk rfl), ⟨rfl, trivial⟩⟩
        · refine L_op rfl (X_cmp (k := .i64) (a := ((j : Nat) : Int)) (b := ((m.length : Nat) : Int)) (r := false) rfl rfl rfl (decide_eq_false (p := ((((j : Nat) : Int)) : Int) < ((((m.length : Nat) : Int)) : Int)) (by omega)) ?_)
          refine L_nil ?_
          refine T_n ?_
          refine W_cf rfl ?_
          refine W_exit ?_
          refine T_e ?_
          refine T_e ?_
          refine B_x ?_
          refine T_n ?_
          refine W_reg ?_
          refine L_op rfl (X_move (v := va) rfl ?_)
          refine L_op rfl (X_move (v := (.int .i64 (((i : Nat) : Int)))) rfl ?_)
          refine L_op rfl (X_idx (v := va) (n := gs.length) (k := .i64) (i := ((i : Nat) : Int)) S22 rfl hG.sv rfl (by omega) (by omega) ?_)
          refine L_op rfl (X_fldS (v := va) (o := (((i : Nat) : Int) : Int).toNat * 8) Fd43_3 rfl hG.sv (by omega) ?_)
          refine L_op rfl (X_load (v := .int .u16 e.2.2.2.2.2) T36 rfl (osize hG.rd (Int.toNat_natCast _) hgi) ?_)
          refine L_op rfl (X_arith (k := .u16) (a := e.2.2.2.2.2) (b := 1) (r := (IntKind.u16.wrap (e.2.2.2.2.2 + 1))) rfl rfl rfl rfl ?_)
          refine L_op rfl (X_idx (v := va) (n := gs.length) (k := .i64) (i := ((i : Nat) : Int)) S22 rfl hG.sv rfl (by omega) (by omega) ?_)
          refine L_op rfl (X_fldS (v := va) (o := (((i : Nat) : Int) : Int).toNat * 8) Fd43_3 rfl hG.sv (by omega) ?_)
          refine L_op0 (X_storeOwnC (i := ((i : Nat) : Int).toNat * 8 + 7) (u := .int .u16 (IntKind.u16.wrap (e.2.2.2.2.2 + 1))) T36 hG (by omega) rfl rfl rfl ?_)
          intro w8 hO8 hu8
          have hz8 := hu8.size
          rw [Int.toNat_natCast, size_set hgi] at hO8
          have hG9 := hO8.eq (n' := (gs.set i (e.1, e.2.1, (e.2.2.1, e.2.2.2.1, e.2.2.2.2.1, (IntKind.u16.wrap (e.2.2.2.2.2 + 1))))).length) (by rw [List.length_set]) rfl
          have hGb := fun b (hb : obk va = some b) => (⟨(hG.lt hb).1, hua b hb⟩ : sa ≤ b ∧ b < ua)
          replace hS : ∀ s ∈ bs, BOwn w8 5 sa ua s := fun s hs => ⟨(hS s hs).1.upd hu8 fun b hb h => absurd (hG.types (hS s hs).1 h hb) (by decide), (hS s hs).2⟩
          replace hl := hl.upd hu8 fun i h1 h2 h => by have h3 := hGb i h; omega
          replace hNr := hNr.upd hu8 fun i h1 h2 h => by have h3 := hGb i h; omega
          replace hT := hT.upd hu8 fun i h1 h2 h => by have h3 := hGb i h; omega
          replace hU := hU.trans (hu8.mono fun i _ h => by have h3 := hGb i h; show n0 ≤ i; omega)
          refine L_nil ?_
          refine B_n ?_
          refine T_n ?_
          refine W_reg ?_
          refine L_op rfl (X_move (v := (.int .i64 (((i : Nat) : Int)))) rfl ?_)
          refine L_op rfl (X_arith (k := .i64) (a := ((i : Nat) : Int)) (b := 1) (r := ((i + 1 : Nat) : Int)) rfl rfl rfl (iadd64 (by omega) (by omega) (by omega)) ?_)
          refine L_op rfl (X_assign (v := (.int .i64 (((i + 1 : Nat) : Int)))) rfl ?_)
          refine L_nil ?_
          refine T_n ?_
          exact ⟨rfl, (i + 1, gs.set i (e.1, e.2.1, (e.2.2.1, e.2.2.2.1, e.2.2.2.2.1, (IntKind.u16.wrap (e.2.2.2.2.2 + 1)))), bs), ⟨⟨by rw [List.length_set]; omega, hG9, by rw [fst_set hgi]; exact hbf, hS, hdi, hl, hNr, hT, hU⟩, (by show (gs.set i _).length - (i + 1) < gs.length - i; rw [List.length_set]; omega)⟩, (Out.in_ rfl rfl (Out.in_ rfl rfl (Out.mk rfl))), ⟨rfl, trivial⟩⟩
    · refine L_op rfl (X_cmp (k := .i64) (a := ((i : Nat) : Int)) (b := ((gs.length : Nat) : Int)) (r := false) rfl rfl rfl (decide_eq_false (p := ((((i : Nat) : Int)) : Int) < ((((gs.length : Nat) : Int)) : Int)) (by omega)) ?_)
      refine L_nil ?_
      refine T_n ?_
      refine W_cf rfl ?_
      refine W_exit ?_
      refine T_e ?_
      refine T_e ?_
      refine B_x ?_
      refine T_n ?_
      refine W_seq ?_
      refine W_reg ?_
      refine L_op rfl (X_move (v := l) rfl ?_)
      refine L_op rfl (X_move (v := vr) rfl ?_)
      refine L_op rfl (X_fn (vs := [l, vr]) en13 rfl (CT.mono (c_sameR l vr es esr _ lo up sr ur hl hNr.rd) ?_))
      rintro _ w14 ⟨⟨g14, rfl, hg14⟩, hu14⟩
      have hz14 := hu14.size
      replace hG := hG.ext hu14
      replace hS : ∀ s ∈ bs, BOwn _ 5 sa ua s := fun s hs => (hS s hs).ext hu14
      replace hl := hl.ext hu14
      replace hNr := hNr.ext hu14
      replace hT := hT.ext hu14
      replace hU := hU.trans (Ext.upd hu14)
      obtain rfl : g14 = true := hg14.2 (hksr.symm)
      refine L_op rfl (X_move (v := (.bool (true))) rfl ?_)
      refine L_gy (dj := 95) rfl rfl rfl (X_fn (vs := []) en9 rfl (CT.mono (c_wakes _ hT) ?_))
      rintro vb15 w15 ⟨hvb15, hu15⟩
      have hz15 := hu15.size
      replace hG := hG.ext hu15
      replace hS : ∀ s ∈ bs, BOwn _ 5 sa ua s := fun s hs => (hS s hs).ext hu15
      replace hl := hl.ext hu15
      replace hNr := hNr.ext hu15
      replace hT := hT.ext hu15
      replace hU := hU.trans (Ext.upd hu15)
      subst hvb15
      refine L_op rfl (X_pick (t := true) (v := (.bool (true))) rfl rfl ?_)
      refine L_op rfl (X_assign (v := (.bool (true))) rfl ?_)
      refine L_nil ?_
      refine T_n ?_
      refine W_ret ?_
      exact BQ_r (End_1 Tryd.results7 (v := .bool true) rfl ⟨rfl, hU.own hn0⟩)
end Go.Proofs.YtmddmghgkkjbiaaDoor
