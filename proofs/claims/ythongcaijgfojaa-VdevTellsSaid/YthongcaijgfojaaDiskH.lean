/-
  More contracts of chapter 03: wakes. (Printed by wip/gen/t03h.py of this repo.)
-/
import Derived.Test.YthongcaijgfojaaDiskG
namespace Go.Proofs.Ythongcaijgfojaa
open Go Go.SL Go.Proofs
set_option linter.unusedVariables false

def P7 : Pg := ⟨7 :: List.replicate 255 0, by rw [List.length_cons, List.length_replicate]⟩
theorem built28p : Try.prog.built 28 [(0, .int .u8 7)] = some (P7.1.map byteV).toArray := by
  have h : Try.prog.built 28 [(0, .int .u8 7)] = some (Value.int .u8 7 :: List.replicate 255 (.int .u8 0)).toArray := by kernel_rfl
  rw [h]
  show _ = some (byteV 7 :: (List.replicate 255 (0 : UInt8)).map byteV).toArray
  rw [List.map_replicate]; rfl
theorem hits_nil {cs : List Wr} {n : Int} : hitsW cs n = [] ↔ ∀ e ∈ cs, e.1 ≠ n := by
  unfold hitsW
  rw [List.map_eq_nil_iff, List.filter_eq_nil_iff]
  simp
theorem hits_push (cs : List Wr) (m n : Int) (p : Pg) : hitsW (cs ++ [(m, p)]) n = if m = n then p :: hitsW cs n else hitsW cs n := by
  unfold hitsW
  rw [List.reverse_append]
  simp only [List.reverse_cons, List.reverse_nil, List.nil_append, List.singleton_append, List.filter_cons]
  by_cases h : m = n
  · simp [h]
  · simp [h]
theorem mayD_new (n : Nat) (h1 : 32 ≤ n) (h2 : n ≤ 256) (bs : List Int) (hb : InB n bs bs.length) : MayD n [] bs false := ⟨⟨h1, h2, Nat.zero_le _, fun h => by cases h⟩, fun j c hj => absurd hj (Nat.not_lt_zero j), hb⟩
theorem inB_one {n : Nat} {a : Int} (h0 : 0 ≤ a) (h1 : a < n) : InB n [a] 1 := fun j x hj hx => by
  obtain rfl : j = 0 := by omega
  simp at hx
  subst hx
  exact ⟨h0, h1, fun b h => absurd h (Nat.lt_irrefl 0)⟩
theorem mayD_push {np : Nat} {cs : List Wr} {bs : List Int} {off : Bool} {n : Int} {p : Pg} (h : MayD np cs bs off) (hn : 0 ≤ n) (hn2 : n < np) (ho : off = false) (hl : cs.length < 2000) : MayD np (cs ++ [(n, p)]) bs off := by
  obtain ⟨⟨a1, a2, a3, a4⟩, hc, hb⟩ := h
  refine ⟨⟨a1, a2, by rw [List.length_append]; show cs.length + 1 ≤ 2000; omega, fun h => by rw [ho] at h; cases h⟩, fun j c hj hjc => ?_, hb⟩
  rcases Nat.lt_or_ge j cs.length with h1 | h1
  · rw [List.getElem?_append_left h1] at hjc; exact hc j c h1 hjc
  · rw [List.length_append] at hj
    have hj : j < cs.length + 1 := hj
    rw [List.getElem?_append_right h1, show j - cs.length = 0 by omega] at hjc
    simp at hjc
    subst hjc
    exact ⟨hn, hn2⟩

theorem c_wakes (w : World) : CT Try.prog 10 #[] w fun v w' => v = .bool true ∧ Ext w w' := by
  obtain ⟨n0, hn0⟩ : ∃ n, n = w.heap.size := ⟨_, rfl⟩
  have hU : Upd (fun i => n0 ≤ i) w w := Upd.refl _ _
  refine CT_of Try.func10 rfl rfl rfl ?_
  refine W_seq ?_
  refine W_reg ?_
  refine L_op rfl (X_assign (v := (.bool (false))) rfl ?_)
  refine L_nil ?_
  refine T_n ?_
  refine W_seq ?_
  refine W_reg ?_
  obtain ⟨l1, hl1⟩ : ∃ n, n = w.heap.size := ⟨_, rfl⟩
  refine L_op rfl (X_fn (vs := [(.int .i64 (31))]) en19 rfl (CT.mono (c_new 31 _) ?_))
  rintro v1 w1 ⟨hv1, _, hu1⟩
  rw [hv1 (.inl (by decide))]
  have hz1 := hu1.size
  replace hU := hU.trans (Ext.upd hu1)
  refine L_op rfl (X_move (v := (.tuple #[(.agg #[(.slice none 0 0), (.slice none 0 0), (.slice none 0 0), (.bool (false))]), (.int .i64 (2))])) rfl ?_)
  refine L_op rfl (X_extract (l := [(.agg #[(.slice none 0 0), (.slice none 0 0), (.slice none 0 0), (.bool (false))]), (.int .i64 (2))]) (v := (.agg #[(.slice none 0 0), (.slice none 0 0), (.slice none 0 0), (.bool (false))])) rfl rfl ?_)
  refine L_op rfl (X_extract (l := [(.agg #[(.slice none 0 0), (.slice none 0 0), (.slice none 0 0), (.bool (false))]), (.int .i64 (2))]) (v := (.int .i64 (2))) rfl rfl ?_)
  refine L_op rfl (X_alloc (z := (.agg #[(.slice none 0 0), (.slice none 0 0), (.slice none 0 0), (.bool (false))])) (c := #[(.slice none 0 0), (.slice none 0 0), (.slice none 0 0), (.bool (false))]) Zv26 rfl ?_)
  intro b2 w2 hn2
  have hbn2 := hn2.num; have hbs2 := hn2.size
  replace hU := hU.trans (Ext.upd hn2.ext)
  have hB2 := hn2.blk
  refine L_op0 (X_storeW (b := b2) (ys := [(.slice none 0 0), (.slice none 0 0), (.slice none 0 0), (.bool (false))]) A26 rfl rfl (List.forall_mem_cons.2 ⟨rfl, (List.forall_mem_cons.2 ⟨rfl, (List.forall_mem_cons.2 ⟨rfl, (List.forall_mem_cons.2 ⟨rfl, (fun _ h => by cases h)⟩)⟩)⟩)⟩) rfl hB2 rfl ?_)
  intro w3 hu3 hb3
  have hz3 := hu3.size
  replace hU := hU.trans (hu3.mono fun i _ h => by have h : i = b2 := h; show n0 ≤ i; omega)
  replace hB2 : Blk w3 b2 #[(.slice none 0 0), (.slice none 0 0), (.slice none 0 0), (.bool (false))] 26 := hb3
  refine L_op rfl (X_assign (v := (.int .i64 (2))) rfl ?_)
  refine L_nil ?_
  refine T_n ?_
  refine W_seq ?_
  refine W_reg ?_
  obtain ⟨l4, hl4⟩ : ∃ n, n = w3.heap.size := ⟨_, rfl⟩
  refine L_op rfl (X_fn (vs := [(.int .i64 (32))]) en19 rfl (CT.mono (c_new 32 _) ?_))
  rintro v4 w4 ⟨_, hv4, hu4⟩
  obtain ⟨pv, hv4, hp⟩ := hv4 (by decide)
  rw [hv4]
  have hz4 := hu4.size
  replace hU := hU.trans (Ext.upd hu4)
  replace hB2 := hB2.ext hu4
  obtain ⟨ps, hps⟩ : ∃ ps, ps = List.replicate ((32 : Int)).toNat (default : Pg) := ⟨_, rfl⟩
  rw [← hps] at hp
  have hpl : ps.length = 32 := by rw [hps]; exact List.length_replicate
  obtain ⟨up, hup⟩ : ∃ n, n = w4.heap.size := ⟨_, rfl⟩
  rw [← hl4, ← hup] at hp
  refine L_op rfl (X_move (v := (.tuple #[(.agg #[pv, (.slice none 0 0), (.slice none 0 0), (.bool (false))]), (.int .i64 (0))])) rfl ?_)
  refine L_op rfl (X_extract (l := [(.agg #[pv, (.slice none 0 0), (.slice none 0 0), (.bool (false))]), (.int .i64 (0))]) (v := (.agg #[pv, (.slice none 0 0), (.slice none 0 0), (.bool (false))])) rfl rfl ?_)
  refine L_op rfl (X_extract (l := [(.agg #[pv, (.slice none 0 0), (.slice none 0 0), (.bool (false))]), (.int .i64 (0))]) (v := (.int .i64 (0))) rfl rfl ?_)
  refine L_op rfl (X_alloc (z := (.agg #[(.slice none 0 0), (.slice none 0 0), (.slice none 0 0), (.bool (false))])) (c := #[(.slice none 0 0), (.slice none 0 0), (.slice none 0 0), (.bool (false))]) Zv26 rfl ?_)
  intro b5 w5 hn5
  have hbn5 := hn5.num; have hbs5 := hn5.size
  replace hU := hU.trans (Ext.upd hn5.ext)
  replace hB2 := hB2.ext hn5.ext
  replace hp := hp.ext hn5.ext
  have hB5 := hn5.blk
  refine L_op0 (X_storeW (b := b5) (ys := [pv, (.slice none 0 0), (.slice none 0 0), (.bool (false))]) A26 rfl rfl (List.forall_mem_cons.2 ⟨(hp.1.sv.one), (List.forall_mem_cons.2 ⟨rfl, (List.forall_mem_cons.2 ⟨rfl, (List.forall_mem_cons.2 ⟨rfl, (fun _ h => by cases h)⟩)⟩)⟩)⟩) rfl hB5 rfl ?_)
  intro w6 hu6 hb6
  have hz6 := hu6.size
  replace hU := hU.trans (hu6.mono fun i _ h => by have h : i = b5 := h; show n0 ≤ i; omega)
  replace hB2 := hB2.upd hu6 fun h => by have h : b2 = b5 := h; omega
  replace hp := hp.upd hu6 fun i h1 h2 h => by have h : i = b5 := h; omega
  replace hB5 : Blk w6 b5 #[pv, (.slice none 0 0), (.slice none 0 0), (.bool (false))] 26 := hb6
  refine L_op rfl (X_assign (v := (.int .i64 (0))) rfl ?_)
  refine L_nil ?_
  refine T_n ?_
  refine W_seq ?_
  refine W_seq ?_
  refine W_reg ?_
  refine L_op rfl (X_move (v := (.int .i64 (0))) rfl ?_)
  refine L_op rfl (X_cmp (k := .i64) (a := 0) (b := 0) (r := false) rfl rfl rfl rfl ?_)
  refine L_op rfl (X_move (v := (.bool (false))) rfl ?_)
  refine L_gy (dj := 22) rfl rfl rfl (X_fldP (b := b5) (o := 0) (r := 0) Fd26_0 rfl rfl ?_)
  refine L_gy (dj := 22) rfl rfl rfl (X_load (p := (ptr b5 (0))) (v := pv) T22 rfl (hB5.at1 rfl) ?_)
  refine L_gy (dj := 22) rfl rfl rfl (X_len (v := pv) (n := ps.length) Try.underlying22 rfl hp.1.sv ?_)
  refine L_gy (dj := 22) rfl rfl rfl (X_cmp (k := .i64) (a := ((ps.length : Nat) : Int)) (b := 32) (r := false) rfl rfl rfl (decide_eq_false (p := ((((ps.length : Nat) : Int)) : Int) ≠ ((32) : Int)) (by omega)) ?_)
  refine L_op rfl (X_pick (t := false) (v := (.bool (false))) rfl rfl ?_)
  refine L_nil ?_
  refine T_n ?_
  refine W_cf rfl ?_
  refine W_skip ?_
  refine T_n ?_
  refine W_seq ?_
  refine W_reg ?_
  refine L_op rfl (X_buildSlice1 (vs := [(.int .i64 (5))]) S24 (by decide) rfl rfl (List.forall_mem_cons.2 ⟨rfl, (fun _ h => by cases h)⟩) ?_)
  intro b7 w7 hn7
  have hbn7 := hn7.num; have hbs7 := hn7.size
  replace hU := hU.trans (Ext.upd hn7.ext)
  replace hB2 := hB2.ext hn7.ext
  replace hp := hp.ext hn7.ext
  replace hB5 := hB5.ext hn7.ext
  have hB7 := hn7.blk
  refine L_op rfl (X_fldP (b := b5) (o := 0) (r := 2) Fd26_2 rfl rfl ?_)
  refine L_op0 (X_store (b := b5) (o := 2) T24 rfl rfl rfl hB5 (by show (2 : Nat) < 4; decide) ?_)
  intro w8 hu8 hb8
  have hz8 := hu8.size
  replace hU := hU.trans (hu8.mono fun i _ h => by have h : i = b5 := h; show n0 ≤ i; omega)
  replace hB2 := hB2.upd hu8 fun h => by have h : b2 = b5 := h; omega
  replace hp := hp.upd hu8 fun i h1 h2 h => by have h : i = b5 := h; omega
  replace hB7 := hB7.upd hu8 fun h => by have h : b7 = b5 := h; omega
  replace hB5 : Blk w8 b5 #[pv, (.slice none 0 0), (.slice (some ⟨b7, 0, none⟩) 1 1), (.bool (false))] 26 := hb8
  refine L_nil ?_
  refine T_n ?_
  refine W_seq ?_
  refine W_reg ?_
  refine L_op rfl (X_loadA (p := (ptr b5 (0))) (xs := [pv, (.slice none 0 0), (.slice (some ⟨b7, 0, none⟩) 1 1), (.bool (false))]) A26 rfl hB5.atAll rfl ?_)
  have hbr : NRd LI w8 0 w8.heap.size (.slice (some ⟨b7, 0, none⟩) 1 1) [5] := NRd.of (fun _ => rfl) (hB7.rd (o := 0) (n := 1) (c := 1) (sz := 1) (by decide) (by decide) rfl (fun j u hj => by rw [Nat.zero_add]; simpa [LI] using hj)) (fun b hb => by cases hb; exact ⟨Nat.zero_le _, hB7.lt⟩)
  have hrd : readE ps [] [5] false 5 = (default, 31) := by rw [readE_ok (askE_ok (mayD_new ps.length (by omega) (by omega) [5] (inB_one (by decide) (by omega))) (by decide) (by omega) rfl)]; exact readD_bad rfl (by decide)
  refine L_op rfl (X_fn (vs := [(.agg ([pv, (.slice none 0 0), (.slice (some ⟨b7, 0, none⟩) 1 1), (.bool (false))]).toArray), (.int .i64 (5))]) en11 rfl (CT.mono (c_read pv (.slice none 0 0) (.slice (some ⟨b7, 0, none⟩) 1 1) ps [] [5] false 5 _ 0 w8.heap.size (Nat.le_refl _) (hp.rd.mono (Nat.zero_le _) (by omega)) (NRd.nil _ _ _) hbr) ?_))
  rintro _ w9 ⟨rfl, hu9⟩
  rw [hrd]
  have hz9 := hu9.size
  replace hU := hU.trans (Ext.upd hu9)
  replace hB2 := hB2.ext hu9
  replace hp := hp.ext hu9
  replace hB7 := hB7.ext hu9
  replace hB5 := hB5.ext hu9
  refine L_op rfl (X_move (v := (.tuple #[(pageV default), (.int .i64 (31))])) rfl ?_)
  refine L_op rfl (X_extract (l := [(pageV default), (.int .i64 (31))]) (v := (pageV default)) rfl rfl ?_)
  refine L_op rfl (X_extract (l := [(pageV default), (.int .i64 (31))]) (v := (.int .i64 (31))) rfl rfl ?_)
  refine L_op rfl (X_alloc (z := zv28) (c := zc28.toArray) Zv28 rfl ?_)
  intro b10 w10 hn10
  have hbn10 := hn10.num; have hbs10 := hn10.size
  replace hU := hU.trans (Ext.upd hn10.ext)
  replace hB2 := hB2.ext hn10.ext
  replace hp := hp.ext hn10.ext
  replace hB7 := hB7.ext hn10.ext
  replace hB5 := hB5.ext hn10.ext
  have hB10 := hn10.blk
  rw [zc28_eq] at hB10
  refine L_op0 (X_storeW (b := b10) (ys := ((default : Pg).1.map byteV)) A28 rfl rfl (byteV_one _) (by rw [List.length_map]; exact (default : Pg).2) hB10 (by rw [List.size_toArray]; exact (by rw [List.length_map]; exact List.length_replicate)) ?_)
  intro w11 hu11 hb11
  have hz11 := hu11.size
  replace hU := hU.trans (hu11.mono fun i _ h => by have h : i = b10 := h; show n0 ≤ i; omega)
  replace hB2 := hB2.upd hu11 fun h => by have h : b2 = b10 := h; omega
  replace hp := hp.upd hu11 fun i h1 h2 h => by have h : i = b10 := h; omega
  replace hB7 := hB7.upd hu11 fun h => by have h : b7 = b10 := h; omega
  replace hB5 := hB5.upd hu11 fun h => by have h : b5 = b10 := h; omega
  replace hB10 := hb11
  refine L_op rfl (X_assign (v := (.int .i64 (31))) rfl ?_)
  refine L_nil ?_
  refine T_n ?_
  refine W_seq ?_
  refine W_reg ?_
  refine L_op rfl (X_build built28p ?_)
  refine L_op rfl (X_alloc (z := zv28) (c := zc28.toArray) Zv28 rfl ?_)
  intro b12 w12 hn12
  have hbn12 := hn12.num; have hbs12 := hn12.size
  replace hU := hU.trans (Ext.upd hn12.ext)
  replace hB2 := hB2.ext hn12.ext
  replace hp := hp.ext hn12.ext
  replace hB7 := hB7.ext hn12.ext
  replace hB5 := hB5.ext hn12.ext
  replace hB10 := hB10.ext hn12.ext
  have hB12 := hn12.blk
  rw [zc28_eq] at hB12
  refine L_op0 (X_storeW (b := b12) (ys := (P7.1.map byteV)) A28 rfl rfl (byteV_one _) (by rw [List.length_map]; exact P7.2) hB12 (by rw [List.size_toArray]; exact (by rw [List.length_map]; exact List.length_replicate)) ?_)
  intro w13 hu13 hb13
  have hz13 := hu13.size
  replace hU := hU.trans (hu13.mono fun i _ h => by have h : i = b12 := h; show n0 ≤ i; omega)
  replace hB2 := hB2.upd hu13 fun h => by have h : b2 = b12 := h; omega
  replace hp := hp.upd hu13 fun i h1 h2 h => by have h : i = b12 := h; omega
  replace hB7 := hB7.upd hu13 fun h => by have h : b7 = b12 := h; omega
  replace hB5 := hB5.upd hu13 fun h => by have h : b5 = b12 := h; omega
  replace hB10 := hB10.upd hu13 fun h => by have h : b10 = b12 := h; omega
  replace hB12 := hb13
  refine L_nil ?_
  refine T_n ?_
  refine W_seq ?_
  refine W_reg ?_
  refine L_op rfl (X_loadA (p := (ptr b5 (0))) (xs := [pv, (.slice none 0 0), (.slice (some ⟨b7, 0, none⟩) 1 1), (.bool (false))]) A26 rfl hB5.atAll rfl ?_)
  refine L_op rfl (X_loadA (p := (ptr b12 (0))) (xs := ((P7.1).map byteV)) A28 rfl hB12.atAll (by rw [List.length_map]; exact P7.2) ?_)
  have hbr : NRd LI w13 0 w13.heap.size (.slice (some ⟨b7, 0, none⟩) 1 1) [5] := NRd.of (fun _ => rfl) (hB7.rd (o := 0) (n := 1) (c := 1) (sz := 1) (by decide) (by decide) rfl (fun j u hj => by rw [Nat.zero_add]; simpa [LI] using hj)) (fun b hb => by cases hb; exact ⟨Nat.zero_le _, hB7.lt⟩)
  have hwa : askE ps.length [] [5] false 5 = 0 := askE_ok (mayD_new ps.length (by omega) (by omega) [5] (inB_one (by decide) (by omega))) (by decide) (by omega) rfl
  have hwe : wrE ps.length [] [5] false 5 = 0 := by rw [wrE_ask (fun h => absurd h.2 (by decide))]; exact hwa
  have hwc : writeC ps.length [] [5] false 5 P7 = [(5, P7)] := by unfold writeC; exact if_pos hwe
  obtain ⟨s0, hs0⟩ : ∃ n, n = w13.heap.size := ⟨_, rfl⟩
  refine L_op rfl (X_fn (vs := [(.agg ([pv, (.slice none 0 0), (.slice (some ⟨b7, 0, none⟩) 1 1), (.bool (false))]).toArray), (.int .i64 (5)), (.agg (((P7.1).map byteV)).toArray)]) en12 rfl (CT.mono (c_write pv (.slice none 0 0) (.slice (some ⟨b7, 0, none⟩) 1 1) ps [] [5] false 5 P7 _ 0 w13.heap.size (Nat.le_refl _) (hp.rd.mono (Nat.zero_le _) (by omega)) (NRd.nil _ _ _) hbr (by omega) (by decide) (by decide)) ?_))
  rintro _ w14 ⟨p_2, c_2, i_2, rfl, hP2, hC2, hI2, hu14⟩
  rw [hwe]
  rw [hwc] at hC2
  have hz14 := hu14.size
  replace hU := hU.trans (Ext.upd hu14)
  replace hB2 := hB2.ext hu14
  replace hp := hp.ext hu14
  replace hB7 := hB7.ext hu14
  replace hB5 := hB5.ext hu14
  replace hB10 := hB10.ext hu14
  replace hB12 := hB12.ext hu14
  obtain ⟨us0, hus0⟩ : ∃ n, n = w14.heap.size := ⟨_, rfl⟩
  rw [← hs0, ← hus0] at hP2 hC2 hI2
  refine L_op rfl (X_move (v := (.tuple #[(.agg #[p_2, c_2, i_2, (.bool (false))]), (.int .i64 (0))])) rfl ?_)
  refine L_op rfl (X_extract (l := [(.agg #[p_2, c_2, i_2, (.bool (false))]), (.int .i64 (0))]) (v := (.agg #[p_2, c_2, i_2, (.bool (false))])) rfl rfl ?_)
  refine L_op rfl (X_extract (l := [(.agg #[p_2, c_2, i_2, (.bool (false))]), (.int .i64 (0))]) (v := (.int .i64 (0))) rfl rfl ?_)
  refine L_op rfl (X_alloc (z := (.agg #[(.slice none 0 0), (.slice none 0 0), (.slice none 0 0), (.bool (false))])) (c := #[(.slice none 0 0), (.slice none 0 0), (.slice none 0 0), (.bool (false))]) Zv26 rfl ?_)
  intro b15 w15 hn15
  have hbn15 := hn15.num; have hbs15 := hn15.size
  replace hU := hU.trans (Ext.upd hn15.ext)
  replace hB2 := hB2.ext hn15.ext
  replace hp := hp.ext hn15.ext
  replace hB7 := hB7.ext hn15.ext
  replace hB5 := hB5.ext hn15.ext
  replace hB10 := hB10.ext hn15.ext
  replace hB12 := hB12.ext hn15.ext
  replace hP2 := hP2.ext hn15.ext
  replace hC2 := hC2.ext hn15.ext
  replace hI2 := hI2.ext hn15.ext
  have hB15 := hn15.blk
  refine L_op0 (X_storeW (b := b15) (ys := [p_2, c_2, i_2, (.bool (false))]) A26 rfl rfl (List.forall_mem_cons.2 ⟨(hP2.1.sv.one), (List.forall_mem_cons.2 ⟨(hC2.1.sv.one), (List.forall_mem_cons.2 ⟨(hI2.1.sv.one), (List.forall_mem_cons.2 ⟨rfl, (fun _ h => by cases h)⟩)⟩)⟩)⟩) rfl hB15 rfl ?_)
  intro w16 hu16 hb16
  have hz16 := hu16.size
  replace hU := hU.trans (hu16.mono fun i _ h => by have h : i = b15 := h; show n0 ≤ i; omega)
  replace hB2 := hB2.upd hu16 fun h => by have h : b2 = b15 := h; omega
  replace hp := hp.upd hu16 fun i h1 h2 h => by have h : i = b15 := h; omega
  replace hB7 := hB7.upd hu16 fun h => by have h : b7 = b15 := h; omega
  replace hB5 := hB5.upd hu16 fun h => by have h : b5 = b15 := h; omega
  replace hB10 := hB10.upd hu16 fun h => by have h : b10 = b15 := h; omega
  replace hB12 := hB12.upd hu16 fun h => by have h : b12 = b15 := h; omega
  replace hP2 := hP2.upd hu16 fun i h1 h2 h => by have h : i = b15 := h; omega
  replace hC2 := hC2.upd hu16 fun i h1 h2 h => by have h : i = b15 := h; omega
  replace hI2 := hI2.upd hu16 fun i h1 h2 h => by have h : i = b15 := h; omega
  replace hB15 : Blk w16 b15 #[p_2, c_2, i_2, (.bool (false))] 26 := hb16
  refine L_op rfl (X_assign (v := (.int .i64 (0))) rfl ?_)
  refine L_nil ?_
  refine T_n ?_
  refine W_seq ?_
  refine W_reg ?_
  refine L_op rfl (X_loadA (p := (ptr b15 (0))) (xs := [p_2, c_2, i_2, (.bool (false))]) A26 rfl hB15.atAll rfl ?_)
  have hbr := hI2.rd.mono (Nat.zero_le _) (show us0 ≤ w16.heap.size by omega)
  have hmd : MayD ps.length ([] ++ [((5 : Int), P7)]) [5] false := mayD_push (mayD_new ps.length (by omega) (by omega) [5] (inB_one (by decide) (by omega))) (by decide) (by omega) rfl (by decide)
  have hask : askE ps.length [(5, P7)] [5] false 5 = 0 := askE_ok hmd (by decide) (by omega) rfl
  have hrd : readE ps [(5, P7)] [5] false 5 = (P7, 0) := by rw [readE_ok hask]; exact readD_hit rfl
  refine L_op rfl (X_fn (vs := [(.agg ([p_2, c_2, i_2, (.bool (false))]).toArray), (.int .i64 (5))]) en11 rfl (CT.mono (c_read p_2 c_2 i_2 ps [(5, P7)] [5] false 5 _ 0 w16.heap.size (Nat.le_refl _) (hP2.rd.mono (Nat.zero_le _) (by omega)) (hC2.rd.mono (Nat.zero_le _) (by omega)) hbr) ?_))
  rintro _ w17 ⟨rfl, hu17⟩
  rw [hrd]
  have hz17 := hu17.size
  replace hU := hU.trans (Ext.upd hu17)
  replace hB2 := hB2.ext hu17
  replace hp := hp.ext hu17
  replace hB7 := hB7.ext hu17
  replace hB5 := hB5.ext hu17
  replace hB10 := hB10.ext hu17
  replace hB12 := hB12.ext hu17
  replace hP2 := hP2.ext hu17
  replace hC2 := hC2.ext hu17
  replace hI2 := hI2.ext hu17
  replace hB15 := hB15.ext hu17
  refine L_op rfl (X_move (v := (.tuple #[(pageV P7), (.int .i64 (0))])) rfl ?_)
  refine L_op rfl (X_extract (l := [(pageV P7), (.int .i64 (0))]) (v := (pageV P7)) rfl rfl ?_)
  refine L_op rfl (X_extract (l := [(pageV P7), (.int .i64 (0))]) (v := (.int .i64 (0))) rfl rfl ?_)
  refine L_op rfl (X_alloc (z := zv28) (c := zc28.toArray) Zv28 rfl ?_)
  intro b18 w18 hn18
  have hbn18 := hn18.num; have hbs18 := hn18.size
  replace hU := hU.trans (Ext.upd hn18.ext)
  replace hB2 := hB2.ext hn18.ext
  replace hp := hp.ext hn18.ext
  replace hB7 := hB7.ext hn18.ext
  replace hB5 := hB5.ext hn18.ext
  replace hB10 := hB10.ext hn18.ext
  replace hB12 := hB12.ext hn18.ext
  replace hP2 := hP2.ext hn18.ext
  replace hC2 := hC2.ext hn18.ext
  replace hI2 := hI2.ext hn18.ext
  replace hB15 := hB15.ext hn18.ext
  have hB18 := hn18.blk
  rw [zc28_eq] at hB18
  refine L_op0 (X_storeW (b := b18) (ys := (P7.1.map byteV)) A28 rfl rfl (byteV_one _) (by rw [List.length_map]; exact P7.2) hB18 (by rw [List.size_toArray]; exact (by rw [List.length_map]; exact List.length_replicate)) ?_)
  intro w19 hu19 hb19
  have hz19 := hu19.size
  replace hU := hU.trans (hu19.mono fun i _ h => by have h : i = b18 := h; show n0 ≤ i; omega)
  replace hB2 := hB2.upd hu19 fun h => by have h : b2 = b18 := h; omega
  replace hp := hp.upd hu19 fun i h1 h2 h => by have h : i = b18 := h; omega
  replace hB7 := hB7.upd hu19 fun h => by have h : b7 = b18 := h; omega
  replace hB5 := hB5.upd hu19 fun h => by have h : b5 = b18 := h; omega
  replace hB10 := hB10.upd hu19 fun h => by have h : b10 = b18 := h; omega
  replace hB12 := hB12.upd hu19 fun h => by have h : b12 = b18 := h; omega
  replace hP2 := hP2.upd hu19 fun i h1 h2 h => by have h : i = b18 := h; omega
  replace hC2 := hC2.upd hu19 fun i h1 h2 h => by have h : i = b18 := h; omega
  replace hI2 := hI2.upd hu19 fun i h1 h2 h => by have h : i = b18 := h; omega
  replace hB15 := hB15.upd hu19 fun h => by have h : b15 = b18 := h; omega
  replace hB18 := hb19
  refine L_op rfl (X_assign (v := (.int .i64 (0))) rfl ?_)
  refine L_nil ?_
  refine T_n ?_
  refine W_seq ?_
  refine W_reg ?_
  refine L_op rfl (X_move (v := (.int .i64 (2))) rfl ?_)
  refine L_op rfl (X_cmp (k := .i64) (a := 2) (b := 2) (r := true) rfl rfl rfl rfl ?_)
  refine L_op rfl (X_move (v := (.bool (true))) rfl ?_)
  refine L_gy (dj := 49) rfl rfl rfl (X_move (v := (.int .i64 (31))) rfl ?_)
  refine L_gy (dj := 49) rfl rfl rfl (X_cmp (k := .i64) (a := 31) (b := 31) (r := true) rfl rfl rfl rfl ?_)
  refine L_op rfl (X_pick (t := true) (v := (.bool (true))) rfl rfl ?_)
  refine L_op rfl (X_move (v := (.bool (true))) rfl ?_)
  refine L_gy (dj := 53) rfl rfl rfl (X_move (v := (.int .i64 (0))) rfl ?_)
  refine L_gy (dj := 53) rfl rfl rfl (X_cmp (k := .i64) (a := 0) (b := 0) (r := true) rfl rfl rfl rfl ?_)
  refine L_op rfl (X_pick (t := true) (v := (.bool (true))) rfl rfl ?_)
  refine L_op rfl (X_move (v := (.bool (true))) rfl ?_)
  refine L_gy (dj := 57) rfl rfl rfl (X_move (v := (.int .i64 (0))) rfl ?_)
  refine L_gy (dj := 57) rfl rfl rfl (X_cmp (k := .i64) (a := 0) (b := 0) (r := true) rfl rfl rfl rfl ?_)
  refine L_op rfl (X_pick (t := true) (v := (.bool (true))) rfl rfl ?_)
  refine L_op rfl (X_move (v := (.bool (true))) rfl ?_)
  refine L_gy (dj := 61) rfl rfl rfl (X_loadA (p := (ptr b18 (0))) (xs := ((P7.1).map byteV)) A28 rfl hB18.atAll (by rw [List.length_map]; exact P7.2) ?_)
  refine L_gy (dj := 61) rfl rfl rfl (X_loadA (p := (ptr b12 (0))) (xs := ((P7.1).map byteV)) A28 rfl hB12.atAll (by rw [List.length_map]; exact P7.2) ?_)
  refine L_gy (dj := 61) rfl rfl rfl (X_eqA (n := 256) (l := P7.1) (m := P7.1) (r := true) Try.underlying28 Try.underlying5 (by kernel_rfl) (by kernel_rfl) (by kernel_rfl) rfl rfl (P7.2) (P7.2) (.inl ⟨rfl, (beq_self_eq_true _)⟩) ?_)
  refine L_op rfl (X_pick (t := true) (v := (.bool (true))) rfl rfl ?_)
  refine L_op rfl (X_move (v := (.bool (true))) rfl ?_)
  refine L_gy (dj := 66) rfl rfl rfl (X_fldP (b := b15) (o := 0) (r := 1) Fd26_1 rfl rfl ?_)
  refine L_gy (dj := 66) rfl rfl rfl (X_load (p := (ptr b15 (1))) (v := c_2) T23 rfl (hB15.at1 rfl) ?_)
  refine L_gy (dj := 66) rfl rfl rfl (X_len (v := c_2) (n := 1) Try.underlying23 rfl hC2.1.sv ?_)
  refine L_gy (dj := 66) rfl rfl rfl (X_cmp (k := .i64) (a := 1) (b := 1) (r := true) rfl rfl rfl rfl ?_)
  refine L_op rfl (X_pick (t := true) (v := (.bool (true))) rfl rfl ?_)
  refine L_op rfl (X_assign (v := (.bool (true))) rfl ?_)
  refine L_nil ?_
  refine T_n ?_
  refine W_ret ?_
  exact BQ_r (End_1 Try.results10 (v := .bool true) rfl ⟨rfl, hU.own hn0⟩)
end Go.Proofs.Ythongcaijgfojaa
