/-
 Spaces: pages freed, given. (Printed by wip/gen/t13n.py of this repo.)
-/
import Derived.Test.YtmaikcnjgkoghaaSpM
namespace Go.Proofs.Ytmaikcnjgkoghaa
open Go Go.SL Go.Proofs
set_option linter.unusedVariables false

theorem c_insert (u : Value) (ls : List La) (x : La) (k bx : Nat) (w : World) (lo up : Nat) (hlo : lo ≤ w.heap.size) (hup : up ≤ w.heap.size) (hlen : ls.length ≤ 100000) (hk : k ≤ ls.length) (hN : NOwn LL w 44 5 lo up u ls) (hx : Blk w bx #[.int .i64 x.1, .int .u32 x.2] 44) (hbx : up ≤ bx) :
  CT Try.prog 19 #[u, .int .i64 ((k : Nat) : Int), .slice (some ⟨bx, 0, none⟩) 1 1] w fun v w' => NOwn LL w' 44 5 lo w'.heap.size v (ls.take k ++ x :: ls.drop k) ∧ Upd (fun b => obk u = some b) w w' := by
 rcases Nat.eq_or_lt_of_le hk with rfl | hlt
 ·rw [List.take_length, List.drop_length]
  exact c_insertE u ls x bx w lo up hlo hlen hN hx
 ·obtain ⟨_, a, c, rfl, hnc, hcm, hcase⟩ := id hN.1
  obtain ⟨g, _, rfl, _⟩ := hcase.resolve_left (by omega)
  exact c_insertM g c ls x k bx w lo up hlo hup hlen hlt hN hx hbx

theorem c_free (s : Sp) (n t : Int) (w : World) (lo up : Nat) (hup : up ≤ w.heap.size) (hs : s.Rd w lo up) (hLu : s.us.length ≤ 1048576) (hLl : s.ls.length ≤ 100000) : CT Try.prog 9 #[(.agg #[(.int .i64 (s.sz)), s.uv, s.lv]), (.int .i64 (n)), (.int .u32 (t))] w fun v w' => (¬ HeldS s n → ∃ o : Sp, v = .tuple #[.agg #[.int .i64 o.sz, o.uv, o.lv], .int .i64 2] ∧ o.Ow w' w.heap.size w'.heap.size ∧ o.sz = s.sz ∧ o.us = s.us ∧ o.ls = s.ls) ∧ (HeldS s n → ∃ (o : Sp) (k : Nat), v = .tuple #[.agg #[.int .i64 o.sz, o.uv, o.lv], .int .i64 0] ∧ o.Ow w' w.heap.size w'.heap.size ∧ o.sz = s.sz ∧ o.us = s.us ∧ PosL s.ls n k ∧ o.ls = s.ls.take k ++ (n, t) :: s.ls.drop k) ∧ Ext w w' := by
 obtain ⟨n0, hn0⟩ : ∃ n, n = w.heap.size := ⟨_, rfl⟩
 have hU : Upd (fun i => n0 ≤ i) w w := Upd.refl _ _
 have hul := hs.1.sv.len; have hll := hs.2.sv.len
 rw [← hn0] at hup
 refine CT_of Try.func9 rfl rfl rfl ?_
 refine W_seq ?_
 refine W_reg ?_
 refine L_op rfl (X_box (v := (.agg #[(.int .i64 (s.sz)), s.uv, s.lv])) (c := ([(.int .i64 (s.sz)), s.uv, s.lv]).toArray) rfl rfl ?_)
 intro b1 w1 hn1
 have hbn1 := hn1.num; have hbs1 := hn1.size
 replace hs := hs.ext hn1.ext
 replace hU := hU.trans (Ext.upd hn1.ext)
 have hB1 := hn1.blk
 refine L_op rfl (X_alloc (z := (.agg #[(.int .i64 (0)), (.slice none 0 0), (.slice none 0 0)])) (c := #[(.int .i64 (0)), (.slice none 0 0), (.slice none 0 0)]) Zv25 rfl ?_)
 intro b2 w2 hn2
 have hbn2 := hn2.num; have hbs2 := hn2.size
 replace hs := hs.ext hn2.ext
 replace hU := hU.trans (Ext.upd hn2.ext)
 replace hB1 := hB1.ext hn2.ext
 have hB2 := hn2.blk
 refine L_op rfl (X_assign (v := (.int .i64 (0))) rfl ?_)
 refine L_nil ?_
 refine T_n ?_
 refine W_seq ?_
 refine W_reg ?_
 refine L_op rfl (X_loadA (p := (ptr b1 (0))) (xs := [(.int .i64 (s.sz)), s.uv, s.lv]) A25 rfl hB1.atAll rfl ?_)
 obtain ⟨s0, hs0⟩ : ∃ n, n = w2.heap.size := ⟨_, rfl⟩
 have hcr_ := c_own s w2 lo up (by omega) hs hLu (by omega)
 refine L_op rfl (X_fn (vs := [(.agg ([(.int .i64 (s.sz)), s.uv, s.lv]).toArray)]) en16 rfl ?_)
 refine CT.mono hcr_ ?_
 clear hcr_
 rintro _ w3 ⟨u2, l2, rfl, hU2, hL2, hu3⟩
 have hz3 := hu3.size
 obtain ⟨us0, hus0⟩ : ∃ n, n = w3.heap.size := ⟨_, rfl⟩
 rw [← hs0, ← hus0] at hU2 hL2
 replace hs := hs.ext hu3
 replace hU := hU.trans (Ext.upd hu3)
 replace hB1 := hB1.ext hu3
 replace hB2 := hB2.ext hu3
 refine L_op rfl (X_alloc (z := (.agg #[(.int .i64 (0)), (.slice none 0 0), (.slice none 0 0)])) (c := #[(.int .i64 (0)), (.slice none 0 0), (.slice none 0 0)]) Zv25 rfl ?_)
 intro b4 w4 hn4
 have hbn4 := hn4.num; have hbs4 := hn4.size
 replace hs := hs.ext hn4.ext
 replace hU := hU.trans (Ext.upd hn4.ext)
 replace hB1 := hB1.ext hn4.ext
 replace hB2 := hB2.ext hn4.ext
 replace hU2 := hU2.ext hn4.ext
 replace hL2 := hL2.ext hn4.ext
 have hB4 := hn4.blk
 refine L_op0 (X_storeW (b := b4) (ys := [(.int .i64 (s.sz)), u2, l2]) A25 rfl rfl (List.forall_mem_cons.2 ⟨rfl, (List.forall_mem_cons.2 ⟨(hU2.1.sv.one), (List.forall_mem_cons.2 ⟨(hL2.1.sv.one), (fun _ h => by cases h)⟩)⟩)⟩) rfl hB4 rfl ?_)
 intro w5 hu5 hb5
 have hz5 := hu5.size
 replace hs := hs.upd hu5 fun i h1 h2 h => by have h : i = b4 := h; omega
 replace hU := hU.trans (hu5.mono fun i _ h => by have h : i = b4 := h; show n0 ≤ i; omega)
 replace hB1 := hB1.upd hu5 fun h => by have h : b1 = b4 := h; omega
 replace hB2 := hB2.upd hu5 fun h => by have h : b2 = b4 := h; omega
 replace hU2 := hU2.upd hu5 fun i h1 h2 h => by have h : i = b4 := h; omega
 replace hL2 := hL2.upd hu5 fun i h1 h2 h => by have h : i = b4 := h; omega
 replace hB4 : Blk w5 b4 #[(.int .i64 (s.sz)), u2, l2] 25 := hb5
 refine L_nil ?_
 refine T_n ?_
 refine W_seq ?_
 refine W_seq ?_
 refine W_reg ?_
 refine L_op rfl (X_loadA (p := (ptr b1 (0))) (xs := [(.int .i64 (s.sz)), s.uv, s.lv]) A25 rfl hB1.atAll rfl ?_)
 refine L_op rfl (X_move (v := (.int .i64 (n))) rfl ?_)
 have hcr_ := c_held s n w5 lo up (by omega) hs
 refine L_op rfl (X_fn (vs := [(.agg ([(.int .i64 (s.sz)), s.uv, s.lv]).toArray), (.int .i64 (n))]) en17 rfl ?_)
 refine CT.mono hcr_ ?_
 clear hcr_
 rintro _ w6 ⟨⟨g_, rfl, hg_⟩, hu6⟩
 have hz6 := hu6.size
 replace hs := hs.ext hu6
 replace hU := hU.trans (Ext.upd hu6)
 replace hB1 := hB1.ext hu6
 replace hB2 := hB2.ext hu6
 replace hU2 := hU2.ext hu6
 replace hL2 := hL2.ext hu6
 replace hB4 := hB4.ext hu6
 rcases Bool.eq_false_or_eq_true (g_) with hc7 | hc7
 ·rw [hc7]
  refine L_op rfl (X_not (b := true) (r := false) rfl rfl ?_)
  refine L_nil ?_
  refine T_n ?_
  refine W_cf rfl ?_
  refine W_skip ?_
  refine T_n ?_
  refine W_seq ?_
  refine W_reg ?_
  refine L_op rfl (X_loadA (p := (ptr b1 (0))) (xs := [(.int .i64 (s.sz)), s.uv, s.lv]) A25 rfl hB1.atAll rfl ?_)
  refine L_op rfl (X_move (v := (.int .i64 (n))) rfl ?_)
  have hH := hg_.1 hc7
  have hM := hH.1
  have hcr_ := c_place s n w6 lo up hs (may_rise hM) (by have := hM.1.1; have := hH.2; omega)
  refine L_op rfl (X_fn (vs := [(.agg ([(.int .i64 (s.sz)), s.uv, s.lv]).toArray), (.int .i64 (n))]) en18 rfl ?_)
  refine CT.mono hcr_ ?_
  clear hcr_
  rintro _ w8 ⟨k_, rfl, hpos, hu8⟩
  have hz8 := hu8.size
  replace hs := hs.ext hu8
  replace hU := hU.trans (Ext.upd hu8)
  replace hB1 := hB1.ext hu8
  replace hB2 := hB2.ext hu8
  replace hU2 := hU2.ext hu8
  replace hL2 := hL2.ext hu8
  replace hB4 := hB4.ext hu8
  rw [hH.2.2.2.2]
  refine L_op rfl (X_move (v := (.tuple #[(.int .i64 (((k_ : Nat) : Int))), (.bool (false))])) rfl ?_)
  refine L_op rfl (X_extract (l := [(.int .i64 (((k_ : Nat) : Int))), (.bool (false))]) (v := (.int .i64 (((k_ : Nat) : Int)))) rfl rfl ?_)
  refine L_op rfl (X_extract (l := [(.int .i64 (((k_ : Nat) : Int))), (.bool (false))]) (v := (.bool (false))) rfl rfl ?_)
  refine L_op rfl (X_assign (v := (.int .i64 (((k_ : Nat) : Int)))) rfl ?_)
  refine L_op rfl (X_assign (v := (.bool (false))) rfl ?_)
  refine L_nil ?_
  refine T_n ?_
  refine W_seq ?_
  refine W_reg ?_
  refine L_op rfl (X_fldP (b := b4) (o := 0) (r := 2) Fd25_2 rfl rfl ?_)
  refine L_op rfl (X_load (p := (ptr b4 (2))) (v := l2) T23 rfl (hB4.at1 rfl) ?_)
  refine L_op rfl (X_move (v := (.int .i64 (((k_ : Nat) : Int)))) rfl ?_)
  refine L_op rfl (X_move (v := (.int .i64 (n))) rfl ?_)
  refine L_op rfl (X_move (v := (.int .u32 (t))) rfl ?_)
  refine L_op rfl (X_build (built44 n t) ?_)
  refine L_op rfl (X_buildSliceL (vs := [(.agg #[(.int .i64 (n)), (.int .u32 (t))])]) (c := [(.int .i64 (n)), (.int .u32 (t))]) S23 (by decide) rfl rfl (List.forall_mem_cons.2 ⟨rfl, (fun _ h => by cases h)⟩) rfl ?_)
  intro b9 w9 hn9
  have hbn9 := hn9.num; have hbs9 := hn9.size
  replace hs := hs.ext hn9.ext
  replace hU := hU.trans (Ext.upd hn9.ext)
  replace hB1 := hB1.ext hn9.ext
  replace hB2 := hB2.ext hn9.ext
  replace hU2 := hU2.ext hn9.ext
  replace hL2 := hL2.ext hn9.ext
  replace hB4 := hB4.ext hn9.ext
  have hB9 := hn9.blk
  have hcr_ := c_insert l2 s.ls (n, t) k_ b9 w9 s0 us0 (by omega) (by omega) (by omega) hpos.1 hL2 hB9 (by omega)
  refine L_op rfl (X_fn (vs := [l2, (.int .i64 (((k_ : Nat) : Int))), (.slice (some ⟨b9, 0, none⟩) 1 1)]) en19 rfl ?_)
  refine CT.mono hcr_ ?_
  clear hcr_
  rintro l3 w7 ⟨hL3, hu7⟩
  have hz7_ := hu7.size
  replace hU2 := nown_up (fun _ => rfl) hU2 hu7 fun b h1 h2 => absurd (hU2.1.types hL2.1 h1 h2) (by decide)
  replace hs := hs.upd hu7 fun i h1 h2 h => by have h1_ := hL2.1.lt h; have h2_ := hL2.2.1 _ h; omega
  replace hU := hU.trans (hu7.mono fun i _ h => by have h1_ := hL2.1.lt h; have h2_ := hL2.2.1 _ h; show n0 ≤ i; omega)
  replace hB1 := hB1.upd hu7 fun h => by have h1_ := hL2.1.lt h; have h2_ := hL2.2.1 _ h; omega
  replace hB2 := hB2.upd hu7 fun h => by have h1_ := hL2.1.lt h; have h2_ := hL2.2.1 _ h; omega
  replace hB4 := hB4.upd hu7 fun h => by have h1_ := hL2.1.lt h; have h2_ := hL2.2.1 _ h; omega
  obtain ⟨u3, hu3_⟩ : ∃ n, n = w7.heap.size := ⟨_, rfl⟩
  rw [← hu3_] at hL3
  refine L_op rfl (X_fldP (b := b4) (o := 0) (r := 2) Fd25_2 rfl rfl ?_)
  have hb0_ := hB4
  refine L_op0 (X_store (b := b4) (o := 2) T23 rfl rfl (hL3.1.sv.one) hB4 (by show (2 : Nat) < 3; decide) ?_)
  intro w10 hu10 hb10
  have hz10 := hu10.size
  replace hs := hs.upd hu10 fun i h1 h2 h => by have h : i = b4 := h; omega
  replace hU := hU.trans (hu10.mono fun i _ h => by have h : i = b4 := h; show n0 ≤ i; omega)
  replace hB1 := hB1.upd hu10 fun h => by have h : b1 = b4 := h; omega
  replace hB2 := hB2.upd hu10 fun h => by have h : b2 = b4 := h; omega
  replace hU2 := hU2.upd hu10 fun i h1 h2 h => by have h : i = b4 := h; omega
  replace hL3 := nown_bl (fun _ => rfl) hL3 hb0_ hu10 (by decide)
  replace hB4 : Blk w10 b4 #[(.int .i64 (s.sz)), u2, l3] 25 := hb10
  refine L_nil ?_
  refine T_n ?_
  refine W_seq ?_
  refine W_reg ?_
  refine L_op rfl (X_loadA (p := (ptr b4 (0))) (xs := [(.int .i64 (s.sz)), u2, l3]) A25 rfl hB4.atAll rfl ?_)
  have hb0_ := hB2
  refine L_op0 (X_storeW (b := b2) (ys := [(.int .i64 (s.sz)), u2, l3]) A25 rfl rfl (List.forall_mem_cons.2 ⟨rfl, (List.forall_mem_cons.2 ⟨(hU2.1.sv.one), (List.forall_mem_cons.2 ⟨(hL3.1.sv.one), (fun _ h => by cases h)⟩)⟩)⟩) rfl hB2 rfl ?_)
  intro w11 hu11 hb11
  have hz11 := hu11.size
  replace hs := hs.upd hu11 fun i h1 h2 h => by have h : i = b2 := h; omega
  replace hU := hU.trans (hu11.mono fun i _ h => by have h : i = b2 := h; show n0 ≤ i; omega)
  replace hB1 := hB1.upd hu11 fun h => by have h : b1 = b2 := h; omega
  replace hU2 := hU2.upd hu11 fun i h1 h2 h => by have h : i = b2 := h; omega
  replace hL3 := nown_bl (fun _ => rfl) hL3 hb0_ hu11 (by decide)
  replace hB4 := hB4.upd hu11 fun h => by have h : b4 = b2 := h; omega
  replace hB2 : Blk w11 b2 #[(.int .i64 (s.sz)), u2, l3] 25 := hb11
  refine L_op rfl (X_assign (v := (.int .i64 (0))) rfl ?_)
  refine L_nil ?_
  refine T_n ?_
  refine W_ret ?_
  exact BQ_r (End_2 Try.results9 (RV_A A25 rfl hB2.atAll rfl) (v2 := .int .i64 0) rfl ⟨fun h_ => absurd hH h_, fun _ => ⟨⟨s.sz, u2, l3, s.us, s.ls.take k_ ++ (n, t) :: s.ls.drop k_⟩, k_, rfl, ⟨hU2.mono (by omega) (by omega), hL3.mono (by omega) (by omega)⟩, rfl, rfl, hpos, rfl⟩, hU.own hn0⟩)
 ·rw [hc7]
  refine L_op rfl (X_not (b := false) (r := true) rfl rfl ?_)
  refine L_nil ?_
  refine T_n ?_
  refine W_ct rfl ?_
  refine W_seq ?_
  refine W_reg ?_
  refine L_op rfl (X_loadA (p := (ptr b4 (0))) (xs := [(.int .i64 (s.sz)), u2, l2]) A25 rfl hB4.atAll rfl ?_)
  refine L_op0 (X_storeW (b := b2) (ys := [(.int .i64 (s.sz)), u2, l2]) A25 rfl rfl (List.forall_mem_cons.2 ⟨rfl, (List.forall_mem_cons.2 ⟨(hU2.1.sv.one), (List.forall_mem_cons.2 ⟨(hL2.1.sv.one), (fun _ h => by cases h)⟩)⟩)⟩) rfl hB2 rfl ?_)
  intro w12 hu12 hb12
  have hz12 := hu12.size
  replace hs := hs.upd hu12 fun i h1 h2 h => by have h : i = b2 := h; omega
  replace hU := hU.trans (hu12.mono fun i _ h => by have h : i = b2 := h; show n0 ≤ i; omega)
  replace hB1 := hB1.upd hu12 fun h => by have h : b1 = b2 := h; omega
  replace hU2 := hU2.upd hu12 fun i h1 h2 h => by have h : i = b2 := h; omega
  replace hL2 := hL2.upd hu12 fun i h1 h2 h => by have h : i = b2 := h; omega
  replace hB4 := hB4.upd hu12 fun h => by have h : b4 = b2 := h; omega
  replace hB2 : Blk w12 b2 #[(.int .i64 (s.sz)), u2, l2] 25 := hb12
  refine L_op rfl (X_assign (v := (.int .i64 (2))) rfl ?_)
  refine L_nil ?_
  refine T_n ?_
  refine W_ret ?_
  refine T_r ?_
  exact BQ_r (End_2 Try.results9 (RV_A A25 rfl hB2.atAll rfl) (v2 := .int .i64 2) rfl ⟨fun _ => ⟨⟨s.sz, u2, l2, s.us, s.ls⟩, rfl, ⟨hU2.mono (by omega) (by omega), hL2.mono (by omega) (by omega)⟩, rfl, rfl, rfl⟩, fun h_ => (by have h2_ := hg_.2 h_; rw [hc7] at h2_; cases h2_), hU.own hn0⟩)

theorem c_give (s : Sp) (n : Int) (w : World) (lo up : Nat) (hup : up ≤ w.heap.size) (hs : s.Rd w lo up) (hLu : s.us.length ≤ 1048576) (hLl : s.ls.length ≤ 100000) : CT Try.prog 15 #[(.agg #[(.int .i64 (s.sz)), s.uv, s.lv]), (.int .i64 (n))] w fun v w' => (¬ HeldS s n → ∃ o : Sp, v = .tuple #[.agg #[.int .i64 o.sz, o.uv, o.lv], .int .i64 2] ∧ o.Ow w' w.heap.size w'.heap.size ∧ o.sz = s.sz ∧ o.us = s.us ∧ o.ls = s.ls) ∧ (HeldS s n → ∃ o : Sp, v = .tuple #[.agg #[.int .i64 o.sz, o.uv, o.lv], .int .i64 0] ∧ o.Ow w' w.heap.size w'.heap.size ∧ o.sz = s.sz ∧ o.us = s.us.set n.toNat false ∧ o.ls = s.ls) ∧ Ext w w' := by
 obtain ⟨n0, hn0⟩ : ∃ n, n = w.heap.size := ⟨_, rfl⟩
 have hU : Upd (fun i => n0 ≤ i) w w := Upd.refl _ _
 have hul := hs.1.sv.len; have hll := hs.2.sv.len
 rw [← hn0] at hup
 refine CT_of Try.func15 rfl rfl rfl ?_
 refine W_seq ?_
 refine W_reg ?_
 refine L_op rfl (X_box (v := (.agg #[(.int .i64 (s.sz)), s.uv, s.lv])) (c := ([(.int .i64 (s.sz)), s.uv, s.lv]).toArray) rfl rfl ?_)
 intro b1 w1 hn1
 have hbn1 := hn1.num; have hbs1 := hn1.size
 replace hs := hs.ext hn1.ext
 replace hU := hU.trans (Ext.upd hn1.ext)
 have hB1 := hn1.blk
 refine L_op rfl (X_alloc (z := (.agg #[(.int .i64 (0)), (.slice none 0 0), (.slice none 0 0)])) (c := #[(.int .i64 (0)), (.slice none 0 0), (.slice none 0 0)]) Zv25 rfl ?_)
 intro b2 w2 hn2
 have hbn2 := hn2.num; have hbs2 := hn2.size
 replace hs := hs.ext hn2.ext
 replace hU := hU.trans (Ext.upd hn2.ext)
 replace hB1 := hB1.ext hn2.ext
 have hB2 := hn2.blk
 refine L_op rfl (X_assign (v := (.int .i64 (0))) rfl ?_)
 refine L_nil ?_
 refine T_n ?_
 refine W_seq ?_
 refine W_reg ?_
 refine L_op rfl (X_loadA (p := (ptr b1 (0))) (xs := [(.int .i64 (s.sz)), s.uv, s.lv]) A25 rfl hB1.atAll rfl ?_)
 obtain ⟨s0, hs0⟩ : ∃ n, n = w2.heap.size := ⟨_, rfl⟩
 have hcr_ := c_own s w2 lo up (by omega) hs hLu (by omega)
 refine L_op rfl (X_fn (vs := [(.agg ([(.int .i64 (s.sz)), s.uv, s.lv]).toArray)]) en16 rfl ?_)
 refine CT.mono hcr_ ?_
 clear hcr_
 rintro _ w3 ⟨u2, l2, rfl, hU2, hL2, hu3⟩
 have hz3 := hu3.size
 obtain ⟨us0, hus0⟩ : ∃ n, n = w3.heap.size := ⟨_, rfl⟩
 rw [← hs0, ← hus0] at hU2 hL2
 replace hs := hs.ext hu3
 replace hU := hU.trans (Ext.upd hu3)
 replace hB1 := hB1.ext hu3
 replace hB2 := hB2.ext hu3
 refine L_op rfl (X_alloc (z := (.agg #[(.int .i64 (0)), (.slice none 0 0), (.slice none 0 0)])) (c := #[(.int .i64 (0)), (.slice none 0 0), (.slice none 0 0)]) Zv25 rfl ?_)
 intro b4 w4 hn4
 have hbn4 := hn4.num; have hbs4 := hn4.size
 replace hs := hs.ext hn4.ext
 replace hU := hU.trans (Ext.upd hn4.ext)
 replace hB1 := hB1.ext hn4.ext
 replace hB2 := hB2.ext hn4.ext
 replace hU2 := hU2.ext hn4.ext
 replace hL2 := hL2.ext hn4.ext
 have hB4 := hn4.blk
 refine L_op0 (X_storeW (b := b4) (ys := [(.int .i64 (s.sz)), u2, l2]) A25 rfl rfl (List.forall_mem_cons.2 ⟨rfl, (List.forall_mem_cons.2 ⟨(hU2.1.sv.one), (List.forall_mem_cons.2 ⟨(hL2.1.sv.one), (fun _ h => by cases h)⟩)⟩)⟩) rfl hB4 rfl ?_)
 intro w5 hu5 hb5
 have hz5 := hu5.size
 replace hs := hs.upd hu5 fun i h1 h2 h => by have h : i = b4 := h; omega
 replace hU := hU.trans (hu5.mono fun i _ h => by have h : i = b4 := h; show n0 ≤ i; omega)
 replace hB1 := hB1.upd hu5 fun h => by have h : b1 = b4 := h; omega
 replace hB2 := hB2.upd hu5 fun h => by have h : b2 = b4 := h; omega
 replace hU2 := hU2.upd hu5 fun i h1 h2 h => by have h : i = b4 := h; omega
 replace hL2 := hL2.upd hu5 fun i h1 h2 h => by have h : i = b4 := h; omega
 replace hB4 : Blk w5 b4 #[(.int .i64 (s.sz)), u2, l2] 25 := hb5
 refine L_nil ?_
 refine T_n ?_
 refine W_seq ?_
 refine W_seq ?_
 refine W_reg ?_
 refine L_op rfl (X_loadA (p := (ptr b1 (0))) (xs := [(.int .i64 (s.sz)), s.uv, s.lv]) A25 rfl hB1.atAll rfl ?_)
 refine L_op rfl (X_move (v := (.int .i64 (n))) rfl ?_)
 have hcr_ := c_held s n w5 lo up (by omega) hs
 refine L_op rfl (X_fn (vs := [(.agg ([(.int .i64 (s.sz)), s.uv, s.lv]).toArray), (.int .i64 (n))]) en17 rfl ?_)
 refine CT.mono hcr_ ?_
 clear hcr_
 rintro _ w6 ⟨⟨g_, rfl, hg_⟩, hu6⟩
 have hz6 := hu6.size
 replace hs := hs.ext hu6
 replace hU := hU.trans (Ext.upd hu6)
 replace hB1 := hB1.ext hu6
 replace hB2 := hB2.ext hu6
 replace hU2 := hU2.ext hu6
 replace hL2 := hL2.ext hu6
 replace hB4 := hB4.ext hu6
 rcases Bool.eq_false_or_eq_true (g_) with hc7 | hc7
 ·rw [hc7]
  refine L_op rfl (X_not (b := true) (r := false) rfl rfl ?_)
  refine L_nil ?_
  refine T_n ?_
  refine W_cf rfl ?_
  refine W_skip ?_
  refine T_n ?_
  refine W_seq ?_
  refine W_reg ?_
  refine L_op rfl (X_fldP (b := b4) (o := 0) (r := 1) Fd25_1 rfl rfl ?_)
  refine L_op rfl (X_load (p := (ptr b4 (1))) (v := u2) T22 rfl (hB4.at1 rfl) ?_)
  refine L_op rfl (X_move (v := (.int .i64 (n))) rfl ?_)
  have hH := hg_.1 hc7
  have hH1 := hH.2.1; have hH2 := hH.2.2.1; have hH3 := hH.1.1.1.2.2
  refine L_op rfl (X_idx (v := u2) (n := s.us.length) (k := .i64) (i := n) S22 rfl hU2.1.sv rfl (by omega) (by omega) ?_)
  refine L_op0 (X_storeOwnC (i := n.toNat * 1) (v := u2) (u := .bool false) T4 hU2.1 (by show _ < s.us.length * 1; omega) rfl rfl rfl ?_)
  intro w6 hO6 hu6
  have hz6_ := hu6.size
  rw [show n.toNat * 1 = n.toNat by omega, lbo_set hH.2.2.2.1] at hO6
  have hU6 : NOwn LBo w6 4 5 s0 us0 u2 (s.us.set n.toNat false) := NOwn.of (fun _ => rfl) (hO6.eq (by rw [List.length_set]) rfl) hU2.2.1
  replace hL2 := nown_up (fun _ => rfl) hL2 hu6 fun b h1 h2 => absurd (hL2.1.types hU2.1 h1 h2) (by decide)
  replace hs := hs.upd hu6 fun i h1 h2 h => by have h1_ := hU2.1.lt h; have h2_ := hU2.2.1 _ h; omega
  replace hU := hU.trans (hu6.mono fun i _ h => by have h1_ := hU2.1.lt h; have h2_ := hU2.2.1 _ h; show n0 ≤ i; omega)
  replace hB1 := hB1.upd hu6 fun h => by have h1_ := hU2.1.lt h; have h2_ := hU2.2.1 _ h; omega
  replace hB2 := hB2.upd hu6 fun h => by have h1_ := hU2.1.lt h; have h2_ := hU2.2.1 _ h; omega
  replace hB4 := hB4.upd hu6 fun h => by have h1_ := hU2.1.lt h; have h2_ := hU2.2.1 _ h; omega
  replace hU2 := hU6
  refine L_nil ?_
  refine T_n ?_
  refine W_seq ?_
  refine W_reg ?_
  refine L_op rfl (X_loadA (p := (ptr b4 (0))) (xs := [(.int .i64 (s.sz)), u2, l2]) A25 rfl hB4.atAll rfl ?_)
  refine L_op0 (X_storeW (b := b2) (ys := [(.int .i64 (s.sz)), u2, l2]) A25 rfl rfl (List.forall_mem_cons.2 ⟨rfl, (List.forall_mem_cons.2 ⟨(hU2.1.sv.one), (List.forall_mem_cons.2 ⟨(hL2.1.sv.one), (fun _ h => by cases h)⟩)⟩)⟩) rfl hB2 rfl ?_)
  intro w8 hu8 hb8
  have hz8 := hu8.size
  replace hs := hs.upd hu8 fun i h1 h2 h => by have h : i = b2 := h; omega
  replace hU := hU.trans (hu8.mono fun i _ h => by have h : i = b2 := h; show n0 ≤ i; omega)
  replace hB1 := hB1.upd hu8 fun h => by have h : b1 = b2 := h; omega
  replace hB4 := hB4.upd hu8 fun h => by have h : b4 = b2 := h; omega
  replace hU2 := hU2.upd hu8 fun i h1 h2 h => by have h : i = b2 := h; omega
  replace hL2 := hL2.upd hu8 fun i h1 h2 h => by have h : i = b2 := h; omega
  replace hB2 : Blk w8 b2 #[(.int .i64 (s.sz)), u2, l2] 25 := hb8
  refine L_op rfl (X_assign (v := (.int .i64 (0))) rfl ?_)
  refine L_nil ?_
  refine T_n ?_
  refine W_ret ?_
  exact BQ_r (End_2 Try.results15 (RV_A A25 rfl hB2.atAll rfl) (v2 := .int .i64 0) rfl ⟨fun h_ => absurd hH h_, fun _ => ⟨⟨s.sz, u2, l2, s.us.set n.toNat false, s.ls⟩, rfl, ⟨hU2.mono (by omega) (by omega), hL2.mono (by omega) (by omega)⟩, rfl, rfl, rfl⟩, hU.own hn0⟩)
 ·rw [hc7]
  refine L_op rfl (X_not (b := false) (r := true) rfl rfl ?_)
  refine L_nil ?_
  refine T_n ?_
  refine W_ct rfl ?_
  refine W_seq ?_
  refine W_reg ?_
  refine L_op rfl (X_loadA (p := (ptr b4 (0))) (xs := [(.int .i64 (s.sz)), u2, l2]) A25 rfl hB4.atAll rfl ?_)
  refine L_op0 (X_storeW (b := b2) (ys := [(.int .i64 (s.sz)), u2, l2]) A25 rfl rfl (List.forall_mem_cons.2 ⟨rfl, (List.forall_mem_cons.2 ⟨(hU2.1.sv.one), (List.forall_mem_cons.2 ⟨(hL2.1.sv.one), (fun _ h => by cases h)⟩)⟩)⟩) rfl hB2 rfl ?_)
  intro w9 hu9 hb9
  have hz9 := hu9.size
  replace hs := hs.upd hu9 fun i h1 h2 h => by have h : i = b2 := h; omega
  replace hU := hU.trans (hu9.mono fun i _ h => by have h : i = b2 := h; show n0 ≤ i; omega)
  replace hB1 := hB1.upd hu9 fun h => by have h : b1 = b2 := h; omega
  replace hU2 := hU2.upd hu9 fun i h1 h2 h => by have h : i = b2 := h; omega
  replace hL2 := hL2.upd hu9 fun i h1 h2 h => by have h : i = b2 := h; omega
  replace hB4 := hB4.upd hu9 fun h => by have h : b4 = b2 := h; omega
  replace hB2 : Blk w9 b2 #[(.int .i64 (s.sz)), u2, l2] 25 := hb9
  refine L_op rfl (X_assign (v := (.int .i64 (2))) rfl ?_)
  refine L_nil ?_
  refine T_n ?_
  refine W_ret ?_
  refine T_r ?_
  exact BQ_r (End_2 Try.results15 (RV_A A25 rfl hB2.atAll rfl) (v2 := .int .i64 2) rfl ⟨fun _ => ⟨⟨s.sz, u2, l2, s.us, s.ls⟩, rfl, ⟨hU2.mono (by omega) (by omega), hL2.mono (by omega) (by omega)⟩, rfl, rfl, rfl⟩, fun h_ => (by have h2_ := hg_.2 h_; rw [hc7] at h2_; cases h2_), hU.own hn0⟩)
end Go.Proofs.Ytmaikcnjgkoghaa
