/-
 Spaces: a page taken. (Printed by wip/gen/t13g.py of this repo.)
-/
import Derived.Test.YtmaikcnjgkoghaaSpF
import Derived.Test.YtmaikcnjgkoghaaBaseWS
namespace Go.Proofs.Ytmaikcnjgkoghaa
open Go Go.SL Go.Proofs
set_option linter.unusedVariables false

def Sp.Ow (w : World) (lo hi : Nat) (s : Sp) : Prop := NOwn LBo w 4 5 lo hi s.uv s.us ∧ NOwn LL w 44 5 lo hi s.lv s.ls
theorem Sp.Ow.rd {w : World} {s : Sp} {lo hi : Nat} (h : s.Ow w lo hi) : s.Rd w lo hi := ⟨h.1.rd, h.2.rd⟩
theorem Sp.Ow.upd {w w' : World} {D : Nat → Prop} {s : Sp} {lo hi : Nat} (h : s.Ow w lo hi) (hu : Upd D w w') (hd : ∀ b, lo ≤ b → b < hi → ¬ D b) : s.Ow w' lo hi := ⟨h.1.upd hu hd, h.2.upd hu hd⟩
theorem Sp.Ow.ext {w w' : World} {s : Sp} {lo hi : Nat} (h : s.Ow w lo hi) (hu : Ext w w') : s.Ow w' lo hi := h.upd hu fun _ _ _ hx => hx
theorem Sp.Ow.mono {w : World} {s : Sp} {lo hi lo' hi' : Nat} (h : s.Ow w lo hi) (h1 : lo' ≤ lo) (h2 : hi ≤ hi') : s.Ow w lo' hi' := ⟨h.1.mono h1 h2, h.2.mono h1 h2⟩
open Classical in
/-- the lowest page taken -/
noncomputable def takeD (sz : Int) (us : List Bool) (ls : List La) (u : Int) (ps : List Int) : Int × List Bool × List La × Int :=
 if MayS sz us ls then match opL sz us ls u ps with
  | [] => (0, us, ls, 130)
  | n :: _ => ((n : Int), us.set n true, keepL ls n, 0)
 else (0, us, ls, 2)
theorem take_no {sz : Int} {us : List Bool} {ls : List La} {u : Int} {ps : List Int} (h : ¬ MayS sz us ls) : takeD sz us ls u ps = (0, us, ls, 2) := if_neg h
theorem take_nil {sz : Int} {us : List Bool} {ls : List La} {u : Int} {ps : List Int} (h : MayS sz us ls) (h2 : opL sz us ls u ps = []) : takeD sz us ls u ps = (0, us, ls, 130) := by
 unfold takeD
 rw [if_pos h, h2]
theorem take_hit {sz : Int} {us : List Bool} {ls : List La} {u : Int} {ps : List Int} {n : Nat} (h : MayS sz us ls) (h2 : (opL sz us ls u ps)[0]? = some n) : takeD sz us ls u ps = ((n : Int), us.set n true, keepL ls n, 0) := by
 unfold takeD
 rw [if_pos h]
 cases hh : opL sz us ls u ps with
 | nil => rw [hh] at h2; cases h2
 | cons a r => rw [hh] at h2; cases h2; rfl
theorem op_lt {sz : Int} {us : List Bool} {ls : List La} {u : Int} {ps : List Int} {k n : Nat} (h : (opL sz us ls u ps)[k]? = some n) : n < us.length := by
 unfold opL at h
 split at h
 ·have := List.mem_of_getElem? h
  exact List.mem_range.1 (List.mem_filter.1 this).1
 ·cases h
theorem nown_up {ε : Type} {L : Lay ε} {w w' : World} {D : Nat → Prop} {er eb lo hi : Nat} {v : Value} {es : List ε} (hs : ∀ e, L.sub e = []) (h : NOwn L w er eb lo hi v es) (hu : Upd D w w') (hd : ∀ b, obk v = some b → ¬ D b) : NOwn L w' er eb lo hi v es :=
 NOwn.of hs (h.1.upd hu hd) h.2.1
theorem lbo_set {us : List Bool} {n : Nat} {b c : Bool} (h : us[n]? = some b) : (us.flatMap LBo.cel).set n (.bool c) = (us.set n c).flatMap LBo.cel := by
 have := flat_setC (L := LBo) (i := n) (j := 0) (e := b) (e' := c) (u := .bool c) h (by decide) rfl
 rwa [show n * LBo.sz + 0 = n by show n * 1 + 0 = n; omega] at this

set_option maxRecDepth 10000 in
set_option maxHeartbeats 1000000 in
theorem c_take (s : Sp) (u : Int) (pv : Value) (ps : List Int) (w : World) (lo up lo2 up2 : Nat) (hup : up ≤ w.heap.size) (hup2 : up2 ≤ w.heap.size) (hok : s.Ok) (hu0_ : 0 ≤ u) (hu1_ : u < 4294967296) (hs : s.Rd w lo up) (hp : NRd LU w lo2 up2 pv ps) (hLu : s.us.length ≤ 1048576) (hLl : s.ls.length ≤ 1048576) : CT Try.prog 13 #[(.agg #[(.int .i64 (s.sz)), s.uv, s.lv]), (.int .u32 (u)), pv] w fun v w' => ∃ o : Sp, v = .tuple #[.int .i64 (takeD s.sz s.us s.ls u ps).1, .agg #[.int .i64 o.sz, o.uv, o.lv], .int .i64 (takeD s.sz s.us s.ls u ps).2.2.2] ∧ o.Ow w' w.heap.size w'.heap.size ∧ o.sz = s.sz ∧ o.us = (takeD s.sz s.us s.ls u ps).2.1 ∧ o.ls = (takeD s.sz s.us s.ls u ps).2.2.1 ∧ Ext w w' := by
 obtain ⟨n0, hn0⟩ : ∃ n, n = w.heap.size := ⟨_, rfl⟩
 have hU : Upd (fun i => n0 ≤ i) w w := Upd.refl _ _
 have hul := hs.1.sv.len; have hll := hs.2.sv.len
 rw [← hn0] at hup hup2
 refine CT_of Try.func13 rfl rfl rfl ?_
 refine W_seq ?_
 refine W_reg ?_
 refine L_op rfl (X_box (v := (.agg #[(.int .i64 (s.sz)), s.uv, s.lv])) (c := ([(.int .i64 (s.sz)), s.uv, s.lv]).toArray) rfl rfl ?_)
 intro b1 w1 hn1
 have hbn1 := hn1.num; have hbs1 := hn1.size
 replace hs := hs.ext hn1.ext
 replace hU := hU.trans (Ext.upd hn1.ext)
 replace hp := hp.ext hn1.ext
 have hB1 := hn1.blk
 refine L_op rfl (X_alloc (z := (.int .i64 (0))) (c := #[(.int .i64 (0))]) Zv3 rfl ?_)
 intro b2 w2 hn2
 have hbn2 := hn2.num; have hbs2 := hn2.size
 replace hs := hs.ext hn2.ext
 replace hU := hU.trans (Ext.upd hn2.ext)
 replace hp := hp.ext hn2.ext
 replace hB1 := hB1.ext hn2.ext
 have hB2 := hn2.blk
 refine L_op rfl (X_alloc (z := (.agg #[(.int .i64 (0)), (.slice none 0 0), (.slice none 0 0)])) (c := #[(.int .i64 (0)), (.slice none 0 0), (.slice none 0 0)]) Zv25 rfl ?_)
 intro b3 w3 hn3
 have hbn3 := hn3.num; have hbs3 := hn3.size
 replace hs := hs.ext hn3.ext
 replace hU := hU.trans (Ext.upd hn3.ext)
 replace hp := hp.ext hn3.ext
 replace hB1 := hB1.ext hn3.ext
 replace hB2 := hB2.ext hn3.ext
 have hB3 := hn3.blk
 refine L_op rfl (X_alloc (z := (.int .i64 (0))) (c := #[(.int .i64 (0))]) Zv29 rfl ?_)
 intro b4 w4 hn4
 have hbn4 := hn4.num; have hbs4 := hn4.size
 replace hs := hs.ext hn4.ext
 replace hU := hU.trans (Ext.upd hn4.ext)
 replace hp := hp.ext hn4.ext
 replace hB1 := hB1.ext hn4.ext
 replace hB2 := hB2.ext hn4.ext
 replace hB3 := hB3.ext hn4.ext
 have hB4 := hn4.blk
 refine L_nil ?_
 refine T_n ?_
 refine W_seq ?_
 refine W_reg ?_
 refine L_op rfl (X_loadA (p := (ptr b1 (0))) (xs := [(.int .i64 (s.sz)), s.uv, s.lv]) A25 rfl hB1.atAll rfl ?_)
 obtain ⟨s0, hs0⟩ : ∃ n, n = w4.heap.size := ⟨_, rfl⟩
 have hcr_ := c_own s w4 lo up (by omega) hs hLu hLl
 refine L_op rfl (X_fn (vs := [(.agg ([(.int .i64 (s.sz)), s.uv, s.lv]).toArray)]) en16 rfl ?_)
 refine CT.mono hcr_ ?_
 clear hcr_
 rintro _ w5 ⟨u2, l2, rfl, hU2, hL2, hu5⟩
 have hz5 := hu5.size
 obtain ⟨us0, hus0⟩ : ∃ n, n = w5.heap.size := ⟨_, rfl⟩
 rw [← hs0, ← hus0] at hU2 hL2
 replace hs := hs.ext hu5
 replace hU := hU.trans (Ext.upd hu5)
 replace hp := hp.ext hu5
 replace hB1 := hB1.ext hu5
 replace hB2 := hB2.ext hu5
 replace hB3 := hB3.ext hu5
 replace hB4 := hB4.ext hu5
 refine L_op0 (X_storeW (b := b3) (ys := [(.int .i64 (s.sz)), u2, l2]) A25 rfl rfl (List.forall_mem_cons.2 ⟨rfl, (List.forall_mem_cons.2 ⟨(hU2.1.sv.one), (List.forall_mem_cons.2 ⟨(hL2.1.sv.one), (fun _ h => by cases h)⟩)⟩)⟩) rfl hB3 rfl ?_)
 intro w6 hu6 hb6
 have hz6 := hu6.size
 replace hs := hs.upd hu6 fun i h1 h2 h => by have h : i = b3 := h; omega
 replace hU := hU.trans (hu6.mono fun i _ h => by have h : i = b3 := h; show n0 ≤ i; omega)
 replace hp := hp.upd hu6 fun i h1 h2 h => by have h : i = b3 := h; omega
 replace hB1 := hB1.upd hu6 fun h => by have h : b1 = b3 := h; omega
 replace hB2 := hB2.upd hu6 fun h => by have h : b2 = b3 := h; omega
 replace hB4 := hB4.upd hu6 fun h => by have h : b4 = b3 := h; omega
 replace hU2 := hU2.upd hu6 fun i h1 h2 h => by have h : i = b3 := h; omega
 replace hL2 := hL2.upd hu6 fun i h1 h2 h => by have h : i = b3 := h; omega
 replace hB3 : Blk w6 b3 #[(.int .i64 (s.sz)), u2, l2] 25 := hb6
 refine L_nil ?_
 refine T_n ?_
 refine W_seq ?_
 refine W_seq ?_
 refine W_reg ?_
 refine L_op rfl (X_loadA (p := (ptr b1 (0))) (xs := [(.int .i64 (s.sz)), s.uv, s.lv]) A25 rfl hB1.atAll rfl ?_)
 have hcr_ := c_may s w6 lo up (by omega) hs
 refine L_op rfl (X_fn (vs := [(.agg ([(.int .i64 (s.sz)), s.uv, s.lv]).toArray)]) en11 rfl ?_)
 refine CT.mono hcr_ ?_
 clear hcr_
 rintro _ w7 ⟨⟨g_, rfl, hg_⟩, hu7⟩
 have hz7 := hu7.size
 replace hs := hs.ext hu7
 replace hU := hU.trans (Ext.upd hu7)
 replace hp := hp.ext hu7
 replace hB1 := hB1.ext hu7
 replace hB2 := hB2.ext hu7
 replace hB4 := hB4.ext hu7
 replace hU2 := hU2.ext hu7
 replace hL2 := hL2.ext hu7
 replace hB3 := hB3.ext hu7
 rcases Bool.eq_false_or_eq_true (g_) with hc8 | hc8
 ·rw [hc8]
  refine L_op rfl (X_not (b := true) (r := false) rfl rfl ?_)
  refine L_nil ?_
  refine T_n ?_
  refine W_cf rfl ?_
  refine W_skip ?_
  refine T_n ?_
  refine W_seq ?_
  refine W_seq ?_
  refine W_reg ?_
  refine L_op rfl (X_loadA (p := (ptr b1 (0))) (xs := [(.int .i64 (s.sz)), s.uv, s.lv]) A25 rfl hB1.atAll rfl ?_)
  refine L_op rfl (X_move (v := (.int .u32 (u))) rfl ?_)
  refine L_op rfl (X_move (v := pv) rfl ?_)
  obtain ⟨nb, hnb⟩ : ∃ n, n = w7.heap.size := ⟨_, rfl⟩
  have hcr_ := c_open s u pv ps w7 lo up lo2 up2 hs hp
  refine L_op rfl (X_fn (vs := [(.agg ([(.int .i64 (s.sz)), s.uv, s.lv]).toArray), (.int .u32 (u)), pv]) en22 rfl ?_)
  refine CT.mono hcr_ ?_
  clear hcr_
  rintro _ w9 ⟨rfl, hK1, hK2, hK3, hu9, hz9⟩
  rw [← hnb] at hK1 hK2 hK3 ⊢
  replace hs := hs.ext hu9
  replace hU := hU.trans (Ext.upd hu9)
  replace hp := hp.ext hu9
  replace hB1 := hB1.ext hu9
  replace hB2 := hB2.ext hu9
  replace hB4 := hB4.ext hu9
  replace hU2 := hU2.ext hu9
  replace hL2 := hL2.ext hu9
  replace hB3 := hB3.ext hu9
  refine L_nil ?_
  refine T_n ?_
  refine W_block ?_
  obtain ⟨nL, hnL⟩ : ∃ n, n = w9.heap.size := ⟨_, rfl⟩
  refine W_rangeS (lb := [ptr nb 0, ptr (nb + 1) 0, ptr (nb + 2) 0]) (xs := (opX s.sz s.us s.ls u ps)) rfl en30 (c_open1 s u pv ps nb (nb + 1) (nb + 2) _ lo up lo2 up2 (by omega) (by omega) hok hu0_ hu1_ hK1 hK2 hK3 hs hp) (Upd.refl _ _) rfl (fun x hx => by unfold opX at hx; obtain ⟨y, _, rfl⟩ := List.mem_map.1 hx; rfl) (fun b => b = b2 ∨ b = b3 ∨ b = b4 ∨ (s0 ≤ b ∧ ¬ us0 ≤ b)) (fun b hb => ⟨fun h2 => by have h2 : b = nb ∨ b = nb + 1 ∨ b = nb + 2 ∨ (lo ≤ b ∧ b < up) ∨ (lo2 ≤ b ∧ b < up2) := h2; have hb : b = b2 ∨ b = b3 ∨ b = b4 ∨ (s0 ≤ b ∧ ¬ us0 ≤ b) := hb; rcases h2 with h2 | h2 | h2 | h2 | h2 <;> omega, by have hb : b = b2 ∨ b = b3 ∨ b = b4 ∨ (s0 ≤ b ∧ ¬ us0 ≤ b) := hb; omega⟩) (fun b h h2 => by have h2 : b = nb ∨ b = nb + 1 ∨ b = nb + 2 ∨ (lo ≤ b ∧ b < up) ∨ (lo2 ≤ b ∧ b < up2) := h2; rcases h2 with h2 | h2 | h2 | h2 | h2 <;> omega) (fun k W => k = 0 ∧ Blk W b2 #[.int .i64 0] 3 ∧ Blk W b3 #[.int .i64 s.sz, u2, l2] 25 ∧ Blk W b4 #[.int .i64 0] 29 ∧ NOwn LBo W 4 5 s0 us0 u2 s.us ∧ NOwn LL W 44 5 s0 us0 l2 s.ls ∧ us0 ≤ W.heap.size ∧ Upd (fun i => n0 ≤ i) w W) (fun k e W => e = .ret ∧ k = 0 ∧ ∃ (n : Nat) (l3 : Value), (opL s.sz s.us s.ls u ps)[0]? = some n ∧ Blk W b2 #[.int .i64 ((n : Nat) : Int)] 3 ∧ Blk W b3 #[.int .i64 s.sz, u2, l3] 25 ∧ Blk W b4 #[.int .i64 0] 29 ∧ NOwn LBo W 4 5 s0 us0 u2 (s.us.set n true) ∧ NOwn LL W 44 5 s0 us0 l3 (keepL s.ls n) ∧ us0 ≤ W.heap.size ∧ Upd (fun i => n0 ≤ i) w W) (fun k W W2 hI hu => by obtain ⟨hk, h2, h3, h4, h5, h6, hsw, hU⟩ := hI; exact ⟨hk, h2.upd hu fun h => by { rcases h with h | h <;> omega }, h3.upd hu fun h => by { rcases h with h | h <;> omega }, h4.upd hu fun h => by { rcases h with h | h <;> omega }, h5.upd hu fun i h1 h2 h => by { rcases h with h | h <;> omega }, h6.upd hu fun i h1 h2 h => by { rcases h with h | h <;> omega }, by have := hu.size; omega, hU.trans (hu.mono fun i _ h => by { show n0 ≤ i; rcases h with h | h <;> omega })⟩) (fun k e W W2 hI hu => by obtain ⟨he, hk, n, l3, hn, h2, h3, h4, h5, h6, hsw, hU⟩ := hI; exact ⟨he, hk, n, l3, hn, h2.upd hu fun h => by { rcases h with h | h <;> omega }, h3.upd hu fun h => by { rcases h with h | h <;> omega }, h4.upd hu fun h => by { rcases h with h | h <;> omega }, h5.upd hu fun i h1 h2 h => by { rcases h with h | h <;> omega }, h6.upd hu fun i h1 h2 h => by { rcases h with h | h <;> omega }, by have := hu.size; omega, hU.trans (hu.mono fun i _ h => by { show n0 ≤ i; rcases h with h | h <;> omega })⟩) ?_ ?_ ?_ ?_
  ·intro W hx_ hs_
   exact ⟨rfl, hB2.ext hx_, hB3.ext hx_, hB4.ext hx_, hU2.ext hx_, hL2.ext hx_, by have := hx_.size; omega, hU.trans (Ext.upd hx_)⟩
  ·intro k x W hk_ hI_ hsz_ hlp_
   obtain ⟨rfl, hB2, hB3, hB4, hU2, hL2, husw, hU⟩ := hI_
   obtain ⟨n, hn, rfl⟩ := opX_in hk_
   have hnl := op_lt hn
   have hD := Upd.refl (fun b => b = b2 ∨ b = b3 ∨ b = b4 ∨ (s0 ≤ b ∧ ¬ us0 ≤ b)) W
   refine W_reg ?_
   refine L_op rfl (X_alloc (z := (.int .i64 (0))) (c := #[(.int .i64 (0))]) Zv3 rfl ?_)
   intro b10 w10 hn10
   have hbn10 := hn10.num; have hbs10 := hn10.size
   replace hB2 := hB2.ext hn10.ext
   replace hB3 := hB3.ext hn10.ext
   replace hB4 := hB4.ext hn10.ext
   replace hU2 := hU2.ext hn10.ext
   replace hL2 := hL2.ext hn10.ext
   replace hU := hU.trans (Ext.upd hn10.ext)
   replace hD := hD.trans (Ext.upd hn10.ext)
   have hB10 := hn10.blk
   refine L_op0 (X_store (b := b10) (o := 0) T3 rfl rfl rfl hB10 (by show (0 : Nat) < 1; decide) ?_)
   intro w11 hu11 hb11
   have hz11 := hu11.size
   replace hB2 := hB2.upd hu11 fun h => by have h : b2 = b10 := h; omega
   replace hB3 := hB3.upd hu11 fun h => by have h : b3 = b10 := h; omega
   replace hB4 := hB4.upd hu11 fun h => by have h : b4 = b10 := h; omega
   replace hU2 := hU2.upd hu11 fun i h1 h2 h => by have h : i = b10 := h; omega
   replace hL2 := hL2.upd hu11 fun i h1 h2 h => by have h : i = b10 := h; omega
   replace hU := hU.trans (hu11.mono fun i _ h => by have h : i = b10 := h; show n0 ≤ i; omega)
   replace hD := hD.comp hu11 (fun _ _ h => h) fun i hi h => by have h : i = b10 := h; show i = b2 ∨ i = b3 ∨ i = b4 ∨ (s0 ≤ i ∧ ¬ us0 ≤ i); omega
   replace hB10 : Blk w11 b10 #[(.int .i64 (((n : Nat) : Int)))] 3 := hb11
   refine L_nil ?_
   refine T_n ⟨hD, fun W2 hu2_ hlp2_ => ?_⟩
   have hsz2_ := hu2_.size
   replace hB2 := hB2.upd hu2_ fun h => by have h : b2 = nL + 1 := (by rw [hnL]; exact h); omega
   replace hB3 := hB3.upd hu2_ fun h => by have h : b3 = nL + 1 := (by rw [hnL]; exact h); omega
   replace hB4 := hB4.upd hu2_ fun h => by have h : b4 = nL + 1 := (by rw [hnL]; exact h); omega
   replace hU2 := hU2.upd hu2_ fun i h1 h2 h => by have h : i = nL + 1 := (by rw [hnL]; exact h); omega
   replace hL2 := hL2.upd hu2_ fun i h1 h2 h => by have h : i = nL + 1 := (by rw [hnL]; exact h); omega
   replace hU := hU.trans (hu2_.mono fun i _ h => by have h : i = nL + 1 := (by rw [hnL]; exact h); show n0 ≤ i; omega)
   replace hB10 := hB10.upd hu2_ fun h => by have h : b10 = nL + 1 := (by rw [hnL]; exact h); omega
   have hD := Upd.refl (fun b => b = b2 ∨ b = b3 ∨ b = b4 ∨ (s0 ≤ b ∧ ¬ us0 ≤ b)) W2
   refine W_block ?_
   refine W_seq ?_
   refine W_reg ?_
   refine L_op rfl (X_fldP (b := b3) (o := 0) (r := 1) Fd25_1 rfl rfl ?_)
   refine L_op rfl (X_load (p := (ptr b3 (1))) (v := u2) T22 rfl (hB3.at1 rfl) ?_)
   refine L_op rfl (X_load (p := (ptr b10 (0))) (v := (.int .i64 (((n : Nat) : Int)))) T3 rfl (hB10.at1 rfl) ?_)
   refine L_op rfl (X_idx (v := u2) (n := s.us.length) (k := .i64) (i := ((n : Nat) : Int)) S22 rfl hU2.1.sv rfl (by omega) (by omega) ?_)
   obtain ⟨bn_, hbn_⟩ : ∃ b, s.us[n]? = some b := ⟨_, List.getElem?_eq_getElem hnl⟩
   refine L_op0 (X_storeOwnC (i := ((n : Nat) : Int).toNat * 1) (v := u2) (u := .bool true) T4 hU2.1 (by show _ < s.us.length * 1; omega) rfl rfl rfl ?_)
   intro w6 hO6 hu6
   have hz6_ := hu6.size
   rw [show ((n : Nat) : Int).toNat * 1 = n by omega, lbo_set hbn_] at hO6
   have hU6 : NOwn LBo w6 4 5 s0 us0 u2 (s.us.set n true) := NOwn.of (fun _ => rfl) (hO6.eq (by rw [List.length_set]) rfl) hU2.2.1
   replace hL2 := nown_up (fun _ => rfl) hL2 hu6 fun b h1 h2 => absurd (hL2.1.types hU2.1 h1 h2) (by decide)
   replace hB2 := hB2.upd hu6 fun h => by have h1_ := hU2.1.lt h; have h2_ := hU2.2.1 _ h; omega
   replace hB3 := hB3.upd hu6 fun h => by have h1_ := hU2.1.lt h; have h2_ := hU2.2.1 _ h; omega
   replace hB4 := hB4.upd hu6 fun h => by have h1_ := hU2.1.lt h; have h2_ := hU2.2.1 _ h; omega
   replace hU := hU.trans (hu6.mono fun i _ h => by have h1_ := hU2.1.lt h; have h2_ := hU2.2.1 _ h; show n0 ≤ i; omega)
   replace hB10 := hB10.upd hu6 fun h => by have h1_ := hU2.1.lt h; have h2_ := hU2.2.1 _ h; omega
   replace hD := hD.comp hu6 (fun _ _ h => h) fun i hi h => by have h1_ := hU2.1.lt h; have h2_ := hU2.2.1 _ h; show i = b2 ∨ i = b3 ∨ i = b4 ∨ (s0 ≤ i ∧ ¬ us0 ≤ i); omega
   replace hU2 := hU6
   refine L_nil ?_
   refine T_n ?_
   refine W_seq ?_
   refine W_reg ?_
   refine L_op rfl (X_fldP (b := b3) (o := 0) (r := 2) Fd25_2 rfl rfl ?_)
   refine L_op rfl (X_load (p := (ptr b3 (2))) (v := l2) T23 rfl (hB3.at1 rfl) ?_)
   refine L_op rfl (X_makeFunc (vs := [(ptr b10 (0))]) rfl ?_)
   have hcr_ := c_delete l2 s.ls ((n : Nat) : Int) b10 w6 s0 us0 hL2 (by omega) hB10 (.inr (by omega))
   refine L_op rfl (X_fn (vs := [l2, (.func (.func 24) #[] #[(ptr b10 (0))])]) en23 rfl ?_)
   refine CT.mono hcr_ ?_
   clear hcr_
   rintro l3 w7 ⟨ds, hL3, rfl, hob, hu7⟩
   have hz7_ := hu7.size
   replace hU2 := nown_up (fun _ => rfl) hU2 hu7 fun b h1 h2 => absurd (hU2.1.types hL2.1 h1 h2) (by decide)
   replace hB2 := hB2.upd hu7 fun h => by have h1_ := hL2.1.lt h; have h2_ := hL2.2.1 _ h; omega
   replace hB3 := hB3.upd hu7 fun h => by have h1_ := hL2.1.lt h; have h2_ := hL2.2.1 _ h; omega
   replace hB4 := hB4.upd hu7 fun h => by have h1_ := hL2.1.lt h; have h2_ := hL2.2.1 _ h; omega
   replace hU := hU.trans (hu7.mono fun i _ h => by have h1_ := hL2.1.lt h; have h2_ := hL2.2.1 _ h; show n0 ≤ i; omega)
   replace hB10 := hB10.upd hu7 fun h => by have h1_ := hL2.1.lt h; have h2_ := hL2.2.1 _ h; omega
   replace hD := hD.comp hu7 (fun _ _ h => h) fun i hi h => by have h1_ := hL2.1.lt h; have h2_ := hL2.2.1 _ h; show i = b2 ∨ i = b3 ∨ i = b4 ∨ (s0 ≤ i ∧ ¬ us0 ≤ i); omega
   refine L_op rfl (X_fldP (b := b3) (o := 0) (r := 2) Fd25_2 rfl rfl ?_)
   refine L_op0 (X_store (b := b3) (o := 2) T23 rfl rfl (hL3.1.sv.one) hB3 (by show (2 : Nat) < 3; decide) ?_)
   intro w12 hu12 hb12
   have hz12 := hu12.size
   replace hB2 := hB2.upd hu12 fun h => by have h : b2 = b3 := h; omega
   replace hB4 := hB4.upd hu12 fun h => by have h : b4 = b3 := h; omega
   replace hU := hU.trans (hu12.mono fun i _ h => by have h : i = b3 := h; show n0 ≤ i; omega)
   replace hB10 := hB10.upd hu12 fun h => by have h : b10 = b3 := h; omega
   replace hD := hD.comp hu12 (fun _ _ h => h) fun i hi h => by have h : i = b3 := h; show i = b2 ∨ i = b3 ∨ i = b4 ∨ (s0 ≤ i ∧ ¬ us0 ≤ i); omega
   replace hU2 := hU2.upd hu12 fun i h1 h2 h => by have h : i = b3 := h; omega
   replace hL3 := hL3.upd hu12 fun i h1 h2 h => by have h : i = b3 := h; omega
   replace hB3 : Blk w12 b3 #[(.int .i64 (s.sz)), u2, l3] 25 := hb12
   refine L_nil ?_
   refine T_n ?_
   refine W_seq ?_
   obtain ⟨bb, hbb⟩ : ∃ n, n = b2 := ⟨_, rfl⟩
   refine W_drawS 3 [[], [], [0], [0, 1, 2], [0, 1, 2, 3]] (fun j b => (j = 2 ∧ b = bb)) mixed (by kernel_rfl) ?_
   refine ⟨.det (fun val => (.int .i64 (((n : Nat) : Int)))), ⟨fun _ _ hv => rfl, fun _ _ _ _ _ => trivial⟩, fun val h_ W hx he => ⟨trivial, ?_⟩, ?_⟩
   ·replace hx := (Upd.drew _ _).trans hx
    replace hx : Upd (fun b => False) w12 W := hx.mono fun b _ h_ => by obtain ⟨j, _, hne, hm_, hS⟩ := h_; obtain ⟨rfl, hS⟩ := hS; exact absurd hm_ (by decide)
    replace hB10 := hB10.ext hx
    have hE := Upd.refl (fun _ => False) W
    refine id (X_load (p := (ptr b10 (0))) (v := (.int .i64 (((n : Nat) : Int)))) T3 rfl (hB10.at1 rfl) ?_)
    exact ⟨Ext.upd hE, rfl⟩
   refine ⟨.det (fun val => (.agg ([(.int .i64 (s.sz)), u2, l3]).toArray)), ⟨fun _ _ hv => rfl, fun _ _ _ _ _ => trivial⟩, fun val h_ W hx he => ⟨trivial, ?_⟩, ?_⟩
   ·replace hx := (Upd.drew _ _).trans hx
    replace hx : Upd (fun b => (b = bb)) w12 W := hx.mono fun b _ h_ => by obtain ⟨j, _, hne, hm_, hS⟩ := h_; obtain ⟨rfl, hS⟩ := hS; exact hS
    replace hB3 := hB3.upd hx fun h => by have h : b3 = bb := h; omega
    have hE := Upd.refl (fun _ => False) W
    refine id (X_loadA (p := (ptr b3 (0))) (xs := [(.int .i64 (s.sz)), u2, l3]) A25 rfl hB3.atAll rfl ?_)
    exact ⟨Ext.upd hE, rfl⟩
   refine ⟨.abs (fun _ _ W_ => Blk W_ b2 #[.int .i64 ((n : Nat) : Int)] 3), ⟨fun _ _ _ => rfl, fun _ _ _ _ hu0 h => have hu : Upd (fun b => False) _ _ := hu0.mono fun b _ h_ => (by obtain ⟨j, _, hne, hm_, hS⟩ := h_; obtain ⟨rfl, hS⟩ := hS; exact absurd rfl hne)
    Blk.ext h hu⟩, fun val h_ W hx he => ⟨trivial, ?_⟩, ?_⟩
   ·replace hx := (Upd.drew _ _).trans hx
    replace hx : Upd (fun b => False) w12 W := hx.mono fun b _ h_ => by obtain ⟨j, _, hne, hm_, hS⟩ := h_; obtain ⟨rfl, hS⟩ := hS; exact absurd rfl hne
    replace hB2 := hB2.ext hx
    refine X_store (b := b2) (o := 0) (v := .int .i64 ((n : Nat) : Int)) T3 rfl rfl rfl hB2 (by decide) ?_
    intro w8 hu8 hb8
    exact ⟨hu8.mono fun b_ _ h => ⟨rfl, h.trans hbb.symm⟩, hb8⟩
   intro val W13 hx13 he13
   replace hx13 := (Upd.drew _ _).trans hx13
   replace hx13 : Upd (fun b => (b = bb)) w12 W13 := hx13.mono fun b _ h_ => by obtain ⟨j, _, hS⟩ := h_; obtain ⟨rfl, hS⟩ := hS; exact hS
   have hz13 := hx13.size
   replace hB4 := hB4.upd hx13 fun h => by have h : b4 = bb := h; omega
   replace hU := hU.trans (hx13.mono fun i _ h => by have h : i = bb := h; show n0 ≤ i; omega)
   replace hB10 := hB10.upd hx13 fun h => by have h : b10 = bb := h; omega
   replace hD := hD.comp hx13 (fun _ _ h => h) fun i hi h => by have h : i = bb := h; show i = b2 ∨ i = b3 ∨ i = b4 ∨ (s0 ≤ i ∧ ¬ us0 ≤ i); omega
   replace hU2 := hU2.upd hx13 fun i h1 h2 h => by have h : i = bb := h; omega
   replace hL3 := hL3.upd hx13 fun i h1 h2 h => by have h : i = bb := h; omega
   replace hB3 := hB3.upd hx13 fun h => by have h : b3 = bb := h; omega
   obtain ⟨hB2, he13⟩ := he13
   refine L_op0 (X_storeW (b := b3) (ys := [(.int .i64 (s.sz)), u2, l3]) A25 rfl rfl (List.forall_mem_cons.2 ⟨rfl, (List.forall_mem_cons.2 ⟨(hU2.1.sv.one), (List.forall_mem_cons.2 ⟨(hL3.1.sv.one), (fun _ h => by cases h)⟩)⟩)⟩) rfl hB3 rfl ?_)
   intro w14 hu14 hb14
   have hz14 := hu14.size
   replace hB4 := hB4.upd hu14 fun h => by have h : b4 = b3 := h; omega
   replace hU := hU.trans (hu14.mono fun i _ h => by have h : i = b3 := h; show n0 ≤ i; omega)
   replace hB10 := hB10.upd hu14 fun h => by have h : b10 = b3 := h; omega
   replace hD := hD.comp hu14 (fun _ _ h => h) fun i hi h => by have h : i = b3 := h; show i = b2 ∨ i = b3 ∨ i = b4 ∨ (s0 ≤ i ∧ ¬ us0 ≤ i); omega
   replace hU2 := hU2.upd hu14 fun i h1 h2 h => by have h : i = b3 := h; omega
   replace hL3 := hL3.upd hu14 fun i h1 h2 h => by have h : i = b3 := h; omega
   replace hB2 := hB2.upd hu14 fun h => by have h : b2 = b3 := h; omega
   replace hB3 : Blk w14 b3 #[(.int .i64 (s.sz)), u2, l3] 25 := hb14
   refine L_op0 (X_store (b := b4) (o := 0) T29 rfl rfl rfl hB4 (by show (0 : Nat) < 1; decide) ?_)
   intro w15 hu15 hb15
   have hz15 := hu15.size
   replace hU := hU.trans (hu15.mono fun i _ h => by have h : i = b4 := h; show n0 ≤ i; omega)
   replace hB10 := hB10.upd hu15 fun h => by have h : b10 = b4 := h; omega
   replace hD := hD.comp hu15 (fun _ _ h => h) fun i hi h => by have h : i = b4 := h; show i = b2 ∨ i = b3 ∨ i = b4 ∨ (s0 ≤ i ∧ ¬ us0 ≤ i); omega
   replace hU2 := hU2.upd hu15 fun i h1 h2 h => by have h : i = b4 := h; omega
   replace hL3 := hL3.upd hu15 fun i h1 h2 h => by have h : i = b4 := h; omega
   replace hB2 := hB2.upd hu15 fun h => by have h : b2 = b4 := h; omega
   replace hB3 := hB3.upd hu15 fun h => by have h : b3 = b4 := h; omega
   replace hB4 : Blk w15 b4 #[(.int .i64 (0))] 29 := hb15
   refine L_nil ?_
   refine T_n ?_
   refine W_ret ?_
   refine B_r ?_
   exact RQ_r hD ⟨rfl, rfl, n, l3, hn, hB2, hB3, hB4, hU2, hL3, by omega, hU⟩
  ·intro W hI_ hd_
   obtain ⟨hl0, hB2, hB3, hB4, hU2, hL2, husw, hU⟩ := hI_
   rw [opX_len] at hl0
   have hnil := List.eq_nil_of_length_eq_zero hl0
   have hd : Dfd W nL := by rw [hnL]; exact hd_
   have hsz_ := hU.size
   refine B_n ?_
   refine T_n ?_
   refine W_seq ?_
   refine W_draw 2 [[], [], [0, 1], [0, 1, 2]] mixed (by kernel_rfl) ?_
   refine ⟨.det (fun val => (.agg ([(.int .i64 (s.sz)), u2, l2]).toArray)), ⟨fun _ _ hv => rfl, fun _ _ _ _ _ => trivial⟩, fun val h_ W hx he => ⟨trivial, ?_⟩, ?_⟩
   ·replace hx := (Upd.drew _ _).trans hx
    replace hB3 := hB3.ext hx
    refine id (X_loadA (p := (ptr b3 (0))) (xs := [(.int .i64 (s.sz)), u2, l2]) A25 rfl hB3.atAll rfl ?_)
    exact ⟨Upd.refl _ _, rfl⟩
   refine ⟨.det (fun val => undef), ⟨fun _ _ hv => rfl, fun _ _ _ _ _ => trivial⟩, fun val h_ W hx he => ⟨trivial, ?_⟩, ?_⟩
   ·replace hx := (Upd.drew _ _).trans hx
    replace hB2 := hB2.ext hx
    refine id (X_storeSame T3 rfl rfl rfl hB2 rfl ?_)
    exact ⟨Upd.refl _ _, rfl⟩
   intro val W16 hx16 he16
   replace hx16 := (Upd.drew _ _).trans hx16
   have hz16 := hx16.size
   replace hB2 := hB2.ext hx16
   replace hB3 := hB3.ext hx16
   replace hB4 := hB4.ext hx16
   replace hU2 := hU2.ext hx16
   replace hL2 := hL2.ext hx16
   replace hU := hU.trans (Ext.upd hx16)
   replace hd := hd.ext hx16
   refine L_op0 (X_storeW (b := b3) (ys := [(.int .i64 (s.sz)), u2, l2]) A25 rfl rfl (List.forall_mem_cons.2 ⟨rfl, (List.forall_mem_cons.2 ⟨(hU2.1.sv.one), (List.forall_mem_cons.2 ⟨(hL2.1.sv.one), (fun _ h => by cases h)⟩)⟩)⟩) rfl hB3 rfl ?_)
   intro w17 hu17 hb17
   have hz17 := hu17.size
   replace hB2 := hB2.upd hu17 fun h => by have h : b2 = b3 := h; omega
   replace hB4 := hB4.upd hu17 fun h => by have h : b4 = b3 := h; omega
   replace hU2 := hU2.upd hu17 fun i h1 h2 h => by have h : i = b3 := h; omega
   replace hL2 := hL2.upd hu17 fun i h1 h2 h => by have h : i = b3 := h; omega
   replace hU := hU.trans (hu17.mono fun i _ h => by have h : i = b3 := h; show n0 ≤ i; omega)
   replace hd := hd.upd hu17 fun h => by have h : nL = b3 := h; omega
   replace hB3 : Blk w17 b3 #[(.int .i64 (s.sz)), u2, l2] 25 := hb17
   refine L_op0 (X_store (b := b4) (o := 0) T29 rfl rfl rfl hB4 (by show (0 : Nat) < 1; decide) ?_)
   intro w18 hu18 hb18
   have hz18 := hu18.size
   replace hB2 := hB2.upd hu18 fun h => by have h : b2 = b4 := h; omega
   replace hU2 := hU2.upd hu18 fun i h1 h2 h => by have h : i = b4 := h; omega
   replace hL2 := hL2.upd hu18 fun i h1 h2 h => by have h : i = b4 := h; omega
   replace hU := hU.trans (hu18.mono fun i _ h => by have h : i = b4 := h; show n0 ≤ i; omega)
   replace hd := hd.upd hu18 fun h => by have h : nL = b4 := h; omega
   replace hB3 := hB3.upd hu18 fun h => by have h : b3 = b4 := h; omega
   replace hB4 : Blk w18 b4 #[(.int .i64 (130))] 29 := hb18
   refine L_nil ?_
   refine T_n ?_
   refine W_ret ?_
   have htk : takeD s.sz s.us s.ls u ps = (0, s.us, s.ls, 130) := take_nil (hg_.1 hc8) hnil
   refine BQ_r (End_m (hnL ▸ hd) fun w9 hu9 => ?_)
   have hz9 := hu9.size
   exact End_3 Try.results13 (v1 := .int .i64 0) (v3 := .int .i64 130) (RV_1 T3 rfl ((hB2.upd hu9 fun h => by have h : b2 = nL := (by rw [hnL]; exact h); omega).at1 rfl)) (RV_A A25 rfl (hB3.upd hu9 fun h => by have h : b3 = nL := (by rw [hnL]; exact h); omega).atAll rfl) (RV_1 T29 rfl ((hB4.upd hu9 fun h => by have h : b4 = nL := (by rw [hnL]; exact h); omega).at1 rfl)) ⟨⟨s.sz, u2, l2, s.us, s.ls⟩, by rw [htk], ⟨(hU2.upd hu9 fun i h1 h2 h => by have h : i = nL := (by rw [hnL]; exact h); omega).mono (by omega) (by omega), (hL2.upd hu9 fun i h1 h2 h => by have h : i = nL := (by rw [hnL]; exact h); omega).mono (by omega) (by omega)⟩, rfl, by rw [htk], by rw [htk], (hU.trans (hu9.mono fun i _ h => by have h : i = nL := (by rw [hnL]; exact h); show n0 ≤ i; omega)).own hn0⟩
  ·intro k e W hk_ hI_ hd_ he_
   obtain ⟨rfl, rfl, n, l3, hn, hB2, hB3, hB4, hU2, hL3, husw, hU⟩ := hI_
   have hd : Dfd W nL := by rw [hnL]; exact hd_
   have hsz_ := hU.size
   refine B_r ?_
   refine T_r ?_
   have htk : takeD s.sz s.us s.ls u ps = ((n : Int), s.us.set n true, keepL s.ls n, 0) := take_hit (hg_.1 hc8) hn
   refine BQ_r (End_m (hnL ▸ hd) fun w9 hu9 => ?_)
   have hz9 := hu9.size
   exact End_3 Try.results13 (v1 := .int .i64 ((n : Nat) : Int)) (v3 := .int .i64 0) (RV_1 T3 rfl ((hB2.upd hu9 fun h => by have h : b2 = nL := (by rw [hnL]; exact h); omega).at1 rfl)) (RV_A A25 rfl (hB3.upd hu9 fun h => by have h : b3 = nL := (by rw [hnL]; exact h); omega).atAll rfl) (RV_1 T29 rfl ((hB4.upd hu9 fun h => by have h : b4 = nL := (by rw [hnL]; exact h); omega).at1 rfl)) ⟨⟨s.sz, u2, l3, s.us.set n true, keepL s.ls n⟩, by rw [htk], ⟨(hU2.upd hu9 fun i h1 h2 h => by have h : i = nL := (by rw [hnL]; exact h); omega).mono (by omega) (by omega), (hL3.upd hu9 fun i h1 h2 h => by have h : i = nL := (by rw [hnL]; exact h); omega).mono (by omega) (by omega)⟩, rfl, by rw [htk], by rw [htk], (hU.trans (hu9.mono fun i _ h => by have h : i = nL := (by rw [hnL]; exact h); show n0 ≤ i; omega)).own hn0⟩
 ·rw [hc8]
  refine L_op rfl (X_not (b := false) (r := true) rfl rfl ?_)
  refine L_nil ?_
  refine T_n ?_
  refine W_ct rfl ?_
  refine W_seq ?_
  refine W_draw 2 [[], [], [0, 1], [0, 1, 2]] mixed (by kernel_rfl) ?_
  refine ⟨.det (fun val => (.agg ([(.int .i64 (s.sz)), u2, l2]).toArray)), ⟨fun _ _ hv => rfl, fun _ _ _ _ _ => trivial⟩, fun val h_ W hx he => ⟨trivial, ?_⟩, ?_⟩
  ·replace hx := (Upd.drew _ _).trans hx
   replace hB3 := hB3.ext hx
   refine id (X_loadA (p := (ptr b3 (0))) (xs := [(.int .i64 (s.sz)), u2, l2]) A25 rfl hB3.atAll rfl ?_)
   exact ⟨Upd.refl _ _, rfl⟩
  refine ⟨.det (fun val => undef), ⟨fun _ _ hv => rfl, fun _ _ _ _ _ => trivial⟩, fun val h_ W hx he => ⟨trivial, ?_⟩, ?_⟩
  ·replace hx := (Upd.drew _ _).trans hx
   replace hB2 := hB2.ext hx
   refine id (X_storeSame T3 rfl rfl rfl hB2 rfl ?_)
   exact ⟨Upd.refl _ _, rfl⟩
  intro val W19 hx19 he19
  replace hx19 := (Upd.drew _ _).trans hx19
  have hz19 := hx19.size
  replace hs := hs.ext hx19
  replace hU := hU.trans (Ext.upd hx19)
  replace hp := hp.ext hx19
  replace hB1 := hB1.ext hx19
  replace hB2 := hB2.ext hx19
  replace hB4 := hB4.ext hx19
  replace hU2 := hU2.ext hx19
  replace hL2 := hL2.ext hx19
  replace hB3 := hB3.ext hx19
  refine L_op0 (X_storeW (b := b3) (ys := [(.int .i64 (s.sz)), u2, l2]) A25 rfl rfl (List.forall_mem_cons.2 ⟨rfl, (List.forall_mem_cons.2 ⟨(hU2.1.sv.one), (List.forall_mem_cons.2 ⟨(hL2.1.sv.one), (fun _ h => by cases h)⟩)⟩)⟩) rfl hB3 rfl ?_)
  intro w20 hu20 hb20
  have hz20 := hu20.size
  replace hs := hs.upd hu20 fun i h1 h2 h => by have h : i = b3 := h; omega
  replace hU := hU.trans (hu20.mono fun i _ h => by have h : i = b3 := h; show n0 ≤ i; omega)
  replace hp := hp.upd hu20 fun i h1 h2 h => by have h : i = b3 := h; omega
  replace hB1 := hB1.upd hu20 fun h => by have h : b1 = b3 := h; omega
  replace hB2 := hB2.upd hu20 fun h => by have h : b2 = b3 := h; omega
  replace hB4 := hB4.upd hu20 fun h => by have h : b4 = b3 := h; omega
  replace hU2 := hU2.upd hu20 fun i h1 h2 h => by have h : i = b3 := h; omega
  replace hL2 := hL2.upd hu20 fun i h1 h2 h => by have h : i = b3 := h; omega
  replace hB3 : Blk w20 b3 #[(.int .i64 (s.sz)), u2, l2] 25 := hb20
  refine L_op0 (X_store (b := b4) (o := 0) T29 rfl rfl rfl hB4 (by show (0 : Nat) < 1; decide) ?_)
  intro w21 hu21 hb21
  have hz21 := hu21.size
  replace hs := hs.upd hu21 fun i h1 h2 h => by have h : i = b4 := h; omega
  replace hU := hU.trans (hu21.mono fun i _ h => by have h : i = b4 := h; show n0 ≤ i; omega)
  replace hp := hp.upd hu21 fun i h1 h2 h => by have h : i = b4 := h; omega
  replace hB1 := hB1.upd hu21 fun h => by have h : b1 = b4 := h; omega
  replace hB2 := hB2.upd hu21 fun h => by have h : b2 = b4 := h; omega
  replace hU2 := hU2.upd hu21 fun i h1 h2 h => by have h : i = b4 := h; omega
  replace hL2 := hL2.upd hu21 fun i h1 h2 h => by have h : i = b4 := h; omega
  replace hB3 := hB3.upd hu21 fun h => by have h : b3 = b4 := h; omega
  replace hB4 : Blk w21 b4 #[(.int .i64 (2))] 29 := hb21
  refine L_nil ?_
  refine T_n ?_
  refine W_ret ?_
  refine T_r ?_
  have htk : takeD s.sz s.us s.ls u ps = (0, s.us, s.ls, 2) := take_no (fun h_ => by have h2_ := hg_.2 h_; rw [hc8] at h2_; cases h2_)
  exact BQ_r (End_3 Try.results13 (v1 := .int .i64 0) (v3 := .int .i64 2) (RV_1 T3 rfl (hB2.at1 rfl)) (RV_A A25 rfl hB3.atAll rfl) (RV_1 T29 rfl (hB4.at1 rfl)) ⟨⟨s.sz, u2, l2, s.us, s.ls⟩, by rw [htk], ⟨hU2.mono (by omega) (by omega), hL2.mono (by omega) (by omega)⟩, rfl, by rw [htk], by rw [htk], hU.own hn0⟩)
end Go.Proofs.Ytmaikcnjgkoghaa
