/-
 Spaces: a page freed while none waits. (Printed by wip/gen/t13i.py of this repo.)
-/
import Derived.Test.YtmaikcnjgkoghaaSpH
namespace Go.Proofs.Ytmaikcnjgkoghaa
open Go Go.SL Go.Proofs
set_option linter.unusedVariables false

theorem built44 (a t : Int) : Try.prog.built 44 [(0, .int .i64 a), (1, .int .u32 t)] = some #[.int .i64 a, .int .u32 t] := by kernel_rfl

theorem nown_bl {ε : Type} {L : Lay ε} {w w' : World} {er eb lo hi b t : Nat} {v : Value} {es : List ε} {cs : Array Value} (hs : ∀ e, L.sub e = []) (h : NOwn L w er eb lo hi v es) (hb : Blk w b cs t) (hu : Upd (fun i => i = b) w w') (ht : er ≠ t) : NOwn L w' er eb lo hi v es := by
 refine NOwn.of hs (h.1.upd hu ?_) h.2.1
 rintro b' hb' rfl
 obtain ⟨c, h1⟩ := h.1.block hb'
 unfold Blk at h1 hb
 rw [h1] at hb
 simp only [Option.some.injEq, Obj.cells.injEq] at hb
 exact ht hb.2.1

theorem c_free0 (s : Sp) (n t : Int) (w : World) (lo up : Nat) (hup : up ≤ w.heap.size) (hs : s.Rd w lo up) (hLu : s.us.length ≤ 1048576) (hls : s.ls = []) (hLl : s.ls.length ≤ 100000) : CT Try.prog 9 #[(.agg #[(.int .i64 (s.sz)), s.uv, s.lv]), (.int .i64 (n)), (.int .u32 (t))] w fun v w' => (¬ HeldS s n → ∃ o : Sp, v = .tuple #[.agg #[.int .i64 o.sz, o.uv, o.lv], .int .i64 2] ∧ o.Ow w' w.heap.size w'.heap.size ∧ o.sz = s.sz ∧ o.us = s.us ∧ o.ls = s.ls) ∧ (HeldS s n → ∃ o : Sp, v = .tuple #[.agg #[.int .i64 o.sz, o.uv, o.lv], .int .i64 0] ∧ o.Ow w' w.heap.size w'.heap.size ∧ o.sz = s.sz ∧ o.us = s.us ∧ o.ls = s.ls ++ [(n, t)]) ∧ Ext w w' := by
 obtain ⟨n0, hn0⟩ : ∃ n, n = w.heap.size := ⟨_, rfl⟩
 have hU : Upd (fun i => n0 ≤ i) w w := Upd.refl _ _
 have hul := hs.1.sv.len; have hll := hs.2.sv.len
 rw [← hn0] at hup
 refine CT_of Try.func9 rfl rfl rfl ?_
 refine W_seq ?_
 refine W_reg ?_
 refine L_op rfl (X_box (v := (.agg #[(.int .i64 (s.sz)), s.uv, s.lv])) (c := ([(.int .i64 (s.sz)), s.uv, s.lv]).toArray) rfl rfl ?_)
 intro b1 w1 hn1
 have hbn1 := hn1.num; have hbs1 := hn1.size
 replace hs := hs.ext hn1.ext
 replace hU := hU.trans (Ext.upd hn1.ext)
 have hB1 := hn1.blk
 refine L_op rfl (X_alloc (z := (.agg #[(.int .i64 (0)), (.slice none 0 0), (.slice none 0 0)])) (c := #[(.int .i64 (0)), (.slice none 0 0), (.slice none 0 0)]) Zv25 rfl ?_)
 intro b2 w2 hn2
 have hbn2 := hn2.num; have hbs2 := hn2.size
 replace hs := hs.ext hn2.ext
 replace hU := hU.trans (Ext.upd hn2.ext)
 replace hB1 := hB1.ext hn2.ext
 have hB2 := hn2.blk
 refine L_op rfl (X_assign (v := (.int .i64 (0))) rfl ?_)
 refine L_nil ?_
 refine T_n ?_
 refine W_seq ?_
 refine W_reg ?_
 refine L_op rfl (X_loadA (p := (ptr b1 (0))) (xs := [(.int .i64 (s.sz)), s.uv, s.lv]) A25 rfl hB1.atAll rfl ?_)
 obtain ⟨s0, hs0⟩ : ∃ n, n = w2.heap.size := ⟨_, rfl⟩
 have hcr_ := c_own s w2 lo up (by omega) hs hLu (by omega)
 refine L_op rfl (X_fn (vs := [(.agg ([(.int .i64 (s.sz)), s.uv, s.lv]).toArray)]) en16 rfl ?_)
 refine CT.mono hcr_ ?_
 clear hcr_
 rintro _ w3 ⟨u2, l2, rfl, hU2, hL2, hu3⟩
 have hz3 := hu3.size
 obtain ⟨us0, hus0⟩ : ∃ n, n = w3.heap.size := ⟨_, rfl⟩
 rw [← hs0, ← hus0] at hU2 hL2
 replace hs := hs.ext hu3
 replace hU := hU.trans (Ext.upd hu3)
 replace hB1 := hB1.ext hu3
 replace hB2 := hB2.ext hu3
 refine L_op rfl (X_alloc (z := (.agg #[(.int .i64 (0)), (.slice none 0 0), (.slice none 0 0)])) (c := #[(.int .i64 (0)), (.slice none 0 0), (.slice none 0 0)]) Zv25 rfl ?_)
 intro b4 w4 hn4
 have hbn4 := hn4.num; have hbs4 := hn4.size
 replace hs := hs.ext hn4.ext
 replace hU := hU.trans (Ext.upd hn4.ext)
 replace hB1 := hB1.ext hn4.ext
 replace hB2 := hB2.ext hn4.ext
 replace hU2 := hU2.ext hn4.ext
 replace hL2 := hL2.ext hn4.ext
 have hB4 := hn4.blk
 refine L_op0 (X_storeW (b := b4) (ys := [(.int .i64 (s.sz)), u2, l2]) A25 rfl rfl (List.forall_mem_cons.2 ⟨rfl, (List.forall_mem_cons.2 ⟨(hU2.1.sv.one), (List.forall_mem_cons.2 ⟨(hL2.1.sv.one), (fun _ h => by cases h)⟩)⟩)⟩) rfl hB4 rfl ?_)
 intro w5 hu5 hb5
 have hz5 := hu5.size
 replace hs := hs.upd hu5 fun i h1 h2 h => by have h : i = b4 := h; omega
 replace hU := hU.trans (hu5.mono fun i _ h => by have h : i = b4 := h; show n0 ≤ i; omega)
 replace hB1 := hB1.upd hu5 fun h => by have h : b1 = b4 := h; omega
 replace hB2 := hB2.upd hu5 fun h => by have h : b2 = b4 := h; omega
 replace hU2 := hU2.upd hu5 fun i h1 h2 h => by have h : i = b4 := h; omega
 replace hL2 := hL2.upd hu5 fun i h1 h2 h => by have h : i = b4 := h; omega
 replace hB4 : Blk w5 b4 #[(.int .i64 (s.sz)), u2, l2] 25 := hb5
 refine L_nil ?_
 refine T_n ?_
 refine W_seq ?_
 refine W_seq ?_
 refine W_reg ?_
 refine L_op rfl (X_loadA (p := (ptr b1 (0))) (xs := [(.int .i64 (s.sz)), s.uv, s.lv]) A25 rfl hB1.atAll rfl ?_)
 refine L_op rfl (X_move (v := (.int .i64 (n))) rfl ?_)
 have hcr_ := c_held s n w5 lo up (by omega) hs
 refine L_op rfl (X_fn (vs := [(.agg ([(.int .i64 (s.sz)), s.uv, s.lv]).toArray), (.int .i64 (n))]) en17 rfl ?_)
 refine CT.mono hcr_ ?_
 clear hcr_
 rintro _ w6 ⟨⟨g_, rfl, hg_⟩, hu6⟩
 have hz6 := hu6.size
 replace hs := hs.ext hu6
 replace hU := hU.trans (Ext.upd hu6)
 replace hB1 := hB1.ext hu6
 replace hB2 := hB2.ext hu6
 replace hU2 := hU2.ext hu6
 replace hL2 := hL2.ext hu6
 replace hB4 := hB4.ext hu6
 rcases Bool.eq_false_or_eq_true (g_) with hc7 | hc7
 ·rw [hc7]
  refine L_op rfl (X_not (b := true) (r := false) rfl rfl ?_)
  refine L_nil ?_
  refine T_n ?_
  refine W_cf rfl ?_
  refine W_skip ?_
  refine T_n ?_
  refine W_seq ?_
  refine W_reg ?_
  refine L_op rfl (X_loadA (p := (ptr b1 (0))) (xs := [(.int .i64 (s.sz)), s.uv, s.lv]) A25 rfl hB1.atAll rfl ?_)
  refine L_op rfl (X_move (v := (.int .i64 (n))) rfl ?_)
  have hH := hg_.1 hc7
  have hM := hH.1
  have hcr_ := c_place s n w6 lo up hs (may_rise hM) (by have := hM.1.1; have := hH.2; omega)
  refine L_op rfl (X_fn (vs := [(.agg ([(.int .i64 (s.sz)), s.uv, s.lv]).toArray), (.int .i64 (n))]) en18 rfl ?_)
  refine CT.mono hcr_ ?_
  clear hcr_
  rintro _ w8 ⟨k_, rfl, hpos, hu8⟩
  have hz8 := hu8.size
  replace hs := hs.ext hu8
  replace hU := hU.trans (Ext.upd hu8)
  replace hB1 := hB1.ext hu8
  replace hB2 := hB2.ext hu8
  replace hU2 := hU2.ext hu8
  replace hL2 := hL2.ext hu8
  replace hB4 := hB4.ext hu8
  rw [hH.2.2.2.2]
  refine L_op rfl (X_move (v := (.tuple #[(.int .i64 (((k_ : Nat) : Int))), (.bool (false))])) rfl ?_)
  refine L_op rfl (X_extract (l := [(.int .i64 (((k_ : Nat) : Int))), (.bool (false))]) (v := (.int .i64 (((k_ : Nat) : Int)))) rfl rfl ?_)
  refine L_op rfl (X_extract (l := [(.int .i64 (((k_ : Nat) : Int))), (.bool (false))]) (v := (.bool (false))) rfl rfl ?_)
  refine L_op rfl (X_assign (v := (.int .i64 (((k_ : Nat) : Int)))) rfl ?_)
  refine L_op rfl (X_assign (v := (.bool (false))) rfl ?_)
  refine L_nil ?_
  refine T_n ?_
  refine W_seq ?_
  refine W_reg ?_
  refine L_op rfl (X_fldP (b := b4) (o := 0) (r := 2) Fd25_2 rfl rfl ?_)
  refine L_op rfl (X_load (p := (ptr b4 (2))) (v := l2) T23 rfl (hB4.at1 rfl) ?_)
  refine L_op rfl (X_move (v := (.int .i64 (((k_ : Nat) : Int)))) rfl ?_)
  refine L_op rfl (X_move (v := (.int .i64 (n))) rfl ?_)
  refine L_op rfl (X_move (v := (.int .u32 (t))) rfl ?_)
  refine L_op rfl (X_build (built44 n t) ?_)
  refine L_op rfl (X_buildSliceL (vs := [(.agg #[(.int .i64 (n)), (.int .u32 (t))])]) (c := [(.int .i64 (n)), (.int .u32 (t))]) S23 (by decide) rfl rfl (List.forall_mem_cons.2 ⟨rfl, (fun _ h => by cases h)⟩) rfl ?_)
  intro b9 w9 hn9
  have hbn9 := hn9.num; have hbs9 := hn9.size
  replace hs := hs.ext hn9.ext
  replace hU := hU.trans (Ext.upd hn9.ext)
  replace hB1 := hB1.ext hn9.ext
  replace hB2 := hB2.ext hn9.ext
  replace hU2 := hU2.ext hn9.ext
  replace hL2 := hL2.ext hn9.ext
  replace hB4 := hB4.ext hn9.ext
  have hB9 := hn9.blk
  have hk0 : k_ = s.ls.length := by have h_ := hpos.1; rw [hls] at h_ ⊢; exact Nat.le_zero.1 h_
  subst hk0
  have hcr_ := c_insertE l2 s.ls (n, t) b9 w9 s0 us0 (by omega) (by omega) hL2 hB9
  refine L_op rfl (X_fn (vs := [l2, (.int .i64 (((s.ls.length : Nat) : Int))), (.slice (some ⟨b9, 0, none⟩) 1 1)]) en19 rfl ?_)
  refine CT.mono hcr_ ?_
  clear hcr_
  rintro l3 w7 ⟨hL3, hu7⟩
  have hz7_ := hu7.size
  replace hU2 := nown_up (fun _ => rfl) hU2 hu7 fun b h1 h2 => absurd (hU2.1.types hL2.1 h1 h2) (by decide)
  replace hs := hs.upd hu7 fun i h1 h2 h => by have h1_ := hL2.1.lt h; have h2_ := hL2.2.1 _ h; omega
  replace hU := hU.trans (hu7.mono fun i _ h => by have h1_ := hL2.1.lt h; have h2_ := hL2.2.1 _ h; show n0 ≤ i; omega)
  replace hB1 := hB1.upd hu7 fun h => by have h1_ := hL2.1.lt h; have h2_ := hL2.2.1 _ h; omega
  replace hB2 := hB2.upd hu7 fun h => by have h1_ := hL2.1.lt h; have h2_ := hL2.2.1 _ h; omega
  replace hB4 := hB4.upd hu7 fun h => by have h1_ := hL2.1.lt h; have h2_ := hL2.2.1 _ h; omega
  obtain ⟨u3, hu3_⟩ : ∃ n, n = w7.heap.size := ⟨_, rfl⟩
  rw [← hu3_] at hL3
  refine L_op rfl (X_fldP (b := b4) (o := 0) (r := 2) Fd25_2 rfl rfl ?_)
  have hb0_ := hB4
  refine L_op0 (X_store (b := b4) (o := 2) T23 rfl rfl (hL3.1.sv.one) hB4 (by show (2 : Nat) < 3; decide) ?_)
  intro w10 hu10 hb10
  have hz10 := hu10.size
  replace hs := hs.upd hu10 fun i h1 h2 h => by have h : i = b4 := h; omega
  replace hU := hU.trans (hu10.mono fun i _ h => by have h : i = b4 := h; show n0 ≤ i; omega)
  replace hB1 := hB1.upd hu10 fun h => by have h : b1 = b4 := h; omega
  replace hB2 := hB2.upd hu10 fun h => by have h : b2 = b4 := h; omega
  replace hU2 := hU2.upd hu10 fun i h1 h2 h => by have h : i = b4 := h; omega
  replace hL3 := nown_bl (fun _ => rfl) hL3 hb0_ hu10 (by decide)
  replace hB4 : Blk w10 b4 #[(.int .i64 (s.sz)), u2, l3] 25 := hb10
  refine L_nil ?_
  refine T_n ?_
  refine W_seq ?_
  refine W_reg ?_
  refine L_op rfl (X_loadA (p := (ptr b4 (0))) (xs := [(.int .i64 (s.sz)), u2, l3]) A25 rfl hB4.atAll rfl ?_)
  have hb0_ := hB2
  refine L_op0 (X_storeW (b := b2) (ys := [(.int .i64 (s.sz)), u2, l3]) A25 rfl rfl (List.forall_mem_cons.2 ⟨rfl, (List.forall_mem_cons.2 ⟨(hU2.1.sv.one), (List.forall_mem_cons.2 ⟨(hL3.1.sv.one), (fun _ h => by cases h)⟩)⟩)⟩) rfl hB2 rfl ?_)
  intro w11 hu11 hb11
  have hz11 := hu11.size
  replace hs := hs.upd hu11 fun i h1 h2 h => by have h : i = b2 := h; omega
  replace hU := hU.trans (hu11.mono fun i _ h => by have h : i = b2 := h; show n0 ≤ i; omega)
  replace hB1 := hB1.upd hu11 fun h => by have h : b1 = b2 := h; omega
  replace hU2 := hU2.upd hu11 fun i h1 h2 h => by have h : i = b2 := h; omega
  replace hL3 := nown_bl (fun _ => rfl) hL3 hb0_ hu11 (by decide)
  replace hB4 := hB4.upd hu11 fun h => by have h : b4 = b2 := h; omega
  replace hB2 : Blk w11 b2 #[(.int .i64 (s.sz)), u2, l3] 25 := hb11
  refine L_op rfl (X_assign (v := (.int .i64 (0))) rfl ?_)
  refine L_nil ?_
  refine T_n ?_
  refine W_ret ?_
  exact BQ_r (End_2 Try.results9 (RV_A A25 rfl hB2.atAll rfl) (v2 := .int .i64 0) rfl ⟨fun h_ => absurd hH h_, fun _ => ⟨⟨s.sz, u2, l3, s.us, s.ls ++ [(n, t)]⟩, rfl, ⟨hU2.mono (by omega) (by omega), hL3.mono (by omega) (by omega)⟩, rfl, rfl, rfl⟩, hU.own hn0⟩)
 ·rw [hc7]
  refine L_op rfl (X_not (b := false) (r := true) rfl rfl ?_)
  refine L_nil ?_
  refine T_n ?_
  refine W_ct rfl ?_
  refine W_seq ?_
  refine W_reg ?_
  refine L_op rfl (X_loadA (p := (ptr b4 (0))) (xs := [(.int .i64 (s.sz)), u2, l2]) A25 rfl hB4.atAll rfl ?_)
  refine L_op0 (X_storeW (b := b2) (ys := [(.int .i64 (s.sz)), u2, l2]) A25 rfl rfl (List.forall_mem_cons.2 ⟨rfl, (List.forall_mem_cons.2 ⟨(hU2.1.sv.one), (List.forall_mem_cons.2 ⟨(hL2.1.sv.one), (fun _ h => by cases h)⟩)⟩)⟩) rfl hB2 rfl ?_)
  intro w12 hu12 hb12
  have hz12 := hu12.size
  replace hs := hs.upd hu12 fun i h1 h2 h => by have h : i = b2 := h; omega
  replace hU := hU.trans (hu12.mono fun i _ h => by have h : i = b2 := h; show n0 ≤ i; omega)
  replace hB1 := hB1.upd hu12 fun h => by have h : b1 = b2 := h; omega
  replace hU2 := hU2.upd hu12 fun i h1 h2 h => by have h : i = b2 := h; omega
  replace hL2 := hL2.upd hu12 fun i h1 h2 h => by have h : i = b2 := h; omega
  replace hB4 := hB4.upd hu12 fun h => by have h : b4 = b2 := h; omega
  replace hB2 : Blk w12 b2 #[(.int .i64 (s.sz)), u2, l2] 25 := hb12
  refine L_op rfl (X_assign (v := (.int .i64 (2))) rfl ?_)
  refine L_nil ?_
  refine T_n ?_
  refine W_ret ?_
  refine T_r ?_
  exact BQ_r (End_2 Try.results9 (RV_A A25 rfl hB2.atAll rfl) (v2 := .int .i64 2) rfl ⟨fun _ => ⟨⟨s.sz, u2, l2, s.us, s.ls⟩, rfl, ⟨hU2.mono (by omega) (by omega), hL2.mono (by omega) (by omega)⟩, rfl, rfl, rfl⟩, fun h_ => (by have h2_ := hg_.2 h_; rw [hc7] at h2_; cases h2_), hU.own hn0⟩)
end Go.Proofs.Ytmaikcnjgkoghaa
