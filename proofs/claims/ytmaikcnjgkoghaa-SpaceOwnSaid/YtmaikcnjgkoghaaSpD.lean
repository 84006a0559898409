/-
 Spaces: the pages that may be taken. (Printed by wip/gen/t13d.py of this repo.)
-/
import Derived.Test.YtmaikcnjgkoghaaSpC
namespace Go.Proofs.Ytmaikcnjgkoghaa
open Go Go.SL Go.Proofs
set_option linter.unusedVariables false

/-- may a page be taken? -/
def freeB (us : List Bool) (ls : List La) (u : Int) (ps : List Int) (k : Nat) : Bool :=
 match us[k]? with
 | some false => true
 | some true => match wt ls k with
  | some t => decide (t + 4 ≤ u) && !(ps.any fun p => decide (p < t))
  | none => false
 | none => false
theorem free_f {us : List Bool} {ls : List La} {u : Int} {ps : List Int} {k : Nat} (h : us[k]? = some false) : freeB us ls u ps k = true := by unfold freeB; rw [h]
theorem free_n {us : List Bool} {ls : List La} {u : Int} {ps : List Int} {k : Nat} (h : us[k]? = some true) (h2 : wt ls k = none) : freeB us ls u ps k = false := by unfold freeB; rw [h, h2]
theorem free_t {us : List Bool} {ls : List La} {u t : Int} {ps : List Int} {k : Nat} (h : us[k]? = some true) (h2 : wt ls k = some t) : freeB us ls u ps k = (decide (t + 4 ≤ u) && !(ps.any fun p => decide (p < t))) := by unfold freeB; rw [h, h2]
theorem any_pin {ps : List Int} {t : Int} : (ps.any fun p => decide (p < t)) = true ↔ ∃ p ∈ ps, p < t := by simp
theorem free_u {us : List Bool} {ls : List La} {u t : Int} {ps : List Int} {k : Nat} (h : us[k]? = some true) (h2 : wt ls k = some t) (hu : u < t + 4) : freeB us ls u ps k = false := by rw [free_t h h2, decide_eq_false (by omega)]; rfl
theorem free_p {us : List Bool} {ls : List La} {u t : Int} {ps : List Int} {k : Nat} (h : us[k]? = some true) (h2 : wt ls k = some t) (hp : ∃ p ∈ ps, p < t) : freeB us ls u ps k = false := by rw [free_t h h2, any_pin.2 hp]; exact Bool.and_false _
theorem free_y {us : List Bool} {ls : List La} {u t : Int} {ps : List Int} {k : Nat} (h : us[k]? = some true) (h2 : wt ls k = some t) (hu : ¬ u < t + 4) (hp : ¬ ∃ p ∈ ps, p < t) : freeB us ls u ps k = true := by
 have h3 : (ps.any fun p => decide (p < t)) = false := by
  cases e : ps.any fun p => decide (p < t) with
  | false => rfl
  | true => exact absurd (any_pin.1 e) hp
 rw [free_t h h2, decide_eq_true (by omega), h3]; rfl
open Classical in
/-- the pages that may be taken -/
noncomputable def opL (sz : Int) (us : List Bool) (ls : List La) (u : Int) (ps : List Int) : List Nat := if MayS sz us ls then (List.range us.length).filter (freeB us ls u ps) else []
noncomputable def opX (sz : Int) (us : List Bool) (ls : List La) (u : Int) (ps : List Int) : List (List Value) := (opL sz us ls u ps).map fun k => [.int .i64 ((k : Nat) : Int)]
theorem opL_may {sz : Int} {us : List Bool} {ls : List La} {u : Int} {ps : List Int} (h : MayS sz us ls) : opL sz us ls u ps = (List.range us.length).filter (freeB us ls u ps) := if_pos h
theorem opL_no {sz : Int} {us : List Bool} {ls : List La} {u : Int} {ps : List Int} (h : ¬ MayS sz us ls) : opL sz us ls u ps = [] := if_neg h
theorem opX_len {sz : Int} {us : List Bool} {ls : List La} {u : Int} {ps : List Int} : (opX sz us ls u ps).length = (opL sz us ls u ps).length := by unfold opX; rw [List.length_map]
def cntF (f : Nat → Bool) (i : Nat) : Nat := ((List.range i).filter f).length
theorem cnt_hit {f : Nat → Bool} {i : Nat} (h : f i = true) : cntF f (i + 1) = cntF f i + 1 := by
 unfold cntF
 rw [List.range_succ, List.filter_append, List.length_append]
 simp [h]
theorem cnt_miss {f : Nat → Bool} {i : Nat} (h : f i = false) : cntF f (i + 1) = cntF f i := by
 unfold cntF
 rw [List.range_succ, List.filter_append, List.length_append]
 simp [h]
theorem cnt_at {f : Nat → Bool} {i n : Nat} (h : f i = true) (hi : i < n) : ((List.range n).filter f)[cntF f i]? = some i := by
 obtain ⟨d, rfl⟩ : ∃ d, n = (i + 1) + d := ⟨n - (i + 1), by omega⟩
 rw [List.range_add, List.filter_append, List.range_succ, List.filter_append, List.append_assoc]
 unfold cntF
 rw [List.getElem?_append_right (Nat.le_refl _), Nat.sub_self]
 simp [h]
theorem opX_at {sz : Int} {us : List Bool} {ls : List La} {u : Int} {ps : List Int} (hm : MayS sz us ls) {i : Nat} (h : freeB us ls u ps i = true) (hi : i < us.length) : (opX sz us ls u ps)[cntF (freeB us ls u ps) i]? = some [.int .i64 ((i : Nat) : Int)] := by
 unfold opX
 rw [List.getElem?_map, opL_may hm, cnt_at h hi]; rfl
theorem opX_in {sz : Int} {us : List Bool} {ls : List La} {u : Int} {ps : List Int} {k : Nat} {x : List Value} (h : (opX sz us ls u ps)[k]? = some x) : ∃ n, (opL sz us ls u ps)[k]? = some n ∧ x = [.int .i64 ((n : Nat) : Int)] := by
 unfold opX at h
 rw [List.getElem?_map] at h
 cases ha : (opL sz us ls u ps)[k]? with
 | none => rw [ha] at h; cases h
 | some n => rw [ha] at h; cases h; exact ⟨n, rfl, rfl⟩
def Sp.Ok (s : Sp) : Prop := ∀ x ∈ s.ls, 0 ≤ x.2 ∧ x.2 < 4294967296

theorem c_open (s : Sp) (u : Int) (pv : Value) (ps : List Int) (w : World) (lo up lo2 up2 : Nat) (hs : s.Rd w lo up) (hp : NRd LU w lo2 up2 pv ps) : CT Try.prog 22 #[(.agg #[(.int .i64 (s.sz)), s.uv, s.lv]), (.int .u32 (u)), pv] w fun v w' => v = .func (.func 30) #[] #[ptr w.heap.size 0, ptr (w.heap.size + 1) 0, ptr (w.heap.size + 2) 0] ∧ Blk w' w.heap.size #[.int .i64 s.sz, s.uv, s.lv] 25 ∧ Blk w' (w.heap.size + 1) #[.int .u32 u] 26 ∧ Blk w' (w.heap.size + 2) #[pv] 52 ∧ Ext w w' ∧ w'.heap.size = w.heap.size + 3 := by
 obtain ⟨n0, hn0⟩ : ∃ n, n = w.heap.size := ⟨_, rfl⟩
 have hU : Upd (fun i => n0 ≤ i) w w := Upd.refl _ _
 refine CT_of Try.func22 rfl rfl rfl ?_
 refine W_seq ?_
 refine W_reg ?_
 refine L_op rfl (X_box (v := (.agg #[(.int .i64 (s.sz)), s.uv, s.lv])) (c := ([(.int .i64 (s.sz)), s.uv, s.lv]).toArray) rfl rfl ?_)
 intro b1 w1 hn1
 have hbn1 := hn1.num; have hbs1 := hn1.size
 replace hs := hs.ext hn1.ext
 replace hU := hU.trans (Ext.upd hn1.ext)
 replace hp := hp.ext hn1.ext
 have hB1 := hn1.blk
 refine L_op rfl (X_box (v := (.int .u32 (u))) (c := #[(.int .u32 (u))]) rfl rfl ?_)
 intro b2 w2 hn2
 have hbn2 := hn2.num; have hbs2 := hn2.size
 replace hs := hs.ext hn2.ext
 replace hU := hU.trans (Ext.upd hn2.ext)
 replace hp := hp.ext hn2.ext
 replace hB1 := hB1.ext hn2.ext
 have hB2 := hn2.blk
 refine L_op rfl (X_box (v := pv) (c := #[pv]) rfl (hp.sv.cells) ?_)
 intro b3 w3 hn3
 have hbn3 := hn3.num; have hbs3 := hn3.size
 replace hs := hs.ext hn3.ext
 replace hU := hU.trans (Ext.upd hn3.ext)
 replace hp := hp.ext hn3.ext
 replace hB1 := hB1.ext hn3.ext
 replace hB2 := hB2.ext hn3.ext
 have hB3 := hn3.blk
 refine L_op rfl (X_assign (v := .nilFunc) rfl ?_)
 refine L_nil ?_
 refine T_n ?_
 refine W_seq ?_
 refine W_reg ?_
 refine L_op rfl (X_makeFunc (vs := [ptr b1 0, ptr b2 0, ptr b3 0]) rfl ?_)
 refine L_op rfl (X_assign (v := (.func (.func 30) #[] #[ptr b1 0, ptr b2 0, ptr b3 0])) rfl ?_)
 refine L_nil ?_
 refine T_n ?_
 refine W_ret ?_
 have e2 : b2 = w.heap.size + 1 := by omega
 have e3 : b3 = w.heap.size + 2 := by omega
 exact BQ_r (End_1 Try.results22 (v := .func (.func 30) #[] #[ptr b1 0, ptr b2 0, ptr b3 0]) rfl ⟨by rw [hbn1, e2, e3], hbn1 ▸ hB1, e2 ▸ hB2, e3 ▸ hB3, hU.own hn0, by omega⟩)

set_option maxHeartbeats 1000000 in
theorem c_open1 (s : Sp) (u : Int) (pv : Value) (ps : List Int) (x1 x2 x3 : Nat) (w : World) (lo up lo2 up2 : Nat) (hup : up ≤ w.heap.size) (hup2 : up2 ≤ w.heap.size) (hok : s.Ok) (hu0_ : 0 ≤ u) (hu1_ : u < 4294967296) (hX1 : Blk w x1 #[.int .i64 s.sz, s.uv, s.lv] 25) (hX2 : Blk w x2 #[.int .u32 u] 26) (hX3 : Blk w x3 #[pv] 52) (hs : s.Rd w lo up) (hp : NRd LU w lo2 up2 pv ps) :
  IterS Try.prog 30 [ptr x1 0, ptr x2 0, ptr x3 0] (opX s.sz s.us s.ls u ps) w (fun b => b = x1 ∨ b = x2 ∨ b = x3 ∨ (lo ≤ b ∧ b < up) ∨ (lo2 ≤ b ∧ b < up2)) := by
 intro l J Jx W Db hu0 hDb hJs hJxs hy hJ
 have hW0 := hu0.size
 have hul := hs.1.sv.len; have hll := hs.2.sv.len
 replace hX1 := hX1.upd hu0 fun h => h (.inl rfl)
 replace hX2 := hX2.upd hu0 fun h => h (.inr (.inl rfl))
 replace hX3 := hX3.upd hu0 fun h => h (.inr (.inr (.inl rfl)))
 replace hs := hs.upd hu0 fun i h1 h2 h => h (.inr (.inr (.inr (.inl ⟨h1, h2⟩))))
 replace hp := hp.upd hu0 fun i h1 h2 h => h (.inr (.inr (.inr (.inr ⟨h1, h2⟩))))
 have hx1l := hX1.lt; have hx2l := hX2.lt; have hx3l := hX3.lt
 obtain ⟨n0, hn0⟩ : ∃ n, n = W.heap.size := ⟨_, rfl⟩
 rw [← hn0] at hDb hJs hJxs hW0 hx1l hx2l hx3l
 show CT Try.prog 30 #[.func (.yield l) #[] #[], ptr x1 0, ptr x2 0, ptr x3 0] W _
 refine CT_of Try.func30 rfl rfl rfl ?_
 refine W_seq ?_
 refine W_seq ?_
 refine W_reg ?_
 refine L_op rfl (X_loadA (p := (ptr x1 (0))) (xs := [(.int .i64 (s.sz)), s.uv, s.lv]) A25 rfl hX1.atAll rfl ?_)
 have hcr_ := c_may s W lo up (by omega) hs
 refine L_op rfl (X_fn (vs := [(.agg ([(.int .i64 (s.sz)), s.uv, s.lv]).toArray)]) en11 rfl ?_)
 refine CT.mono hcr_ ?_
 clear hcr_
 rintro _ w1 ⟨⟨g_, rfl, hg_⟩, hu1⟩
 have hz1 := hu1.size
 replace hX1 := hX1.ext hu1
 replace hX2 := hX2.ext hu1
 replace hX3 := hX3.ext hu1
 replace hs := hs.ext hu1
 replace hp := hp.ext hu1
 replace hJ := hJs _ _ _ hJ (Ext.upd hu1)
 rcases Bool.eq_false_or_eq_true (g_) with hc2 | hc2
 ·rw [hc2]
  refine L_op rfl (X_not (b := true) (r := false) rfl rfl ?_)
  refine L_nil ?_
  refine T_n ?_
  refine W_cf rfl ?_
  refine W_skip ?_
  refine T_n ?_
  refine W_seq ?_
  refine W_reg ?_
  refine L_op rfl (X_fldP (b := x1) (o := 0) (r := 1) Fd25_1 rfl rfl ?_)
  refine L_op rfl (X_load (p := (ptr x1 (1))) (v := s.uv) T22 rfl (hX1.at1 rfl) ?_)
  refine L_op rfl (X_len (v := s.uv) (n := s.us.length) Try.underlying22 rfl hs.1.sv ?_)
  refine L_op rfl (X_move (v := (.int .i64 (0))) rfl ?_)
  refine L_nil ?_
  refine T_n ?_
  refine W_block ?_
  have hM := hg_.1 hc2
  refine W_loop (α := Nat) [5, 6, 7, 8, 15, 16, 17, 18, 19, 20, 21, 22, 23, 24, 25, 26, 27, 28, 29, 30, 31, 32, 33, 34, 35, 36, 37, 38, 39, 40, 41, 42, 43, 44, 45, 46] (fun i => [(15, (.int .i64 (((i : Nat) : Int))))]) (fun i w_ => i ≤ s.us.length ∧ J (cntF (freeB s.us s.ls u ps) i) w_ ∧ Blk w_ x1 #[.int .i64 s.sz, s.uv, s.lv] 25 ∧ Blk w_ x2 #[.int .u32 u] 26 ∧ Blk w_ x3 #[pv] 52 ∧ s.Rd w_ lo up ∧ NRd LU w_ lo2 up2 pv ps ∧ n0 ≤ w_.heap.size) (fun i => s.us.length - i) ⟨rfl, 0, ⟨Nat.zero_le _, hJ, hX1, hX2, hX3, hs, hp, by omega⟩, Out.refl _ _, ⟨rfl, trivial⟩⟩ ?_
  rintro i w3 _ ⟨hil, hJ, hX1, hX2, hX3, hs, hp, hnw⟩
  refine W_seq ?_
  refine W_reg ?_
  by_cases hc4 : (((i : Nat) : Int) : Int) < (((s.us.length : Nat) : Int))
  ·refine L_op rfl (X_cmp (k := .i64) (a := ((i : Nat) : Int)) (b := ((s.us.length : Nat) : Int)) (r := true) rfl rfl rfl (decide_eq_true (p := ((((i : Nat) : Int)) : Int) < ((((s.us.length : Nat) : Int)) : Int)) (by omega)) ?_)
   refine L_nil ?_
   refine T_n ?_
   refine W_seq ?_
   refine W_ct rfl ?_
   refine W_skip ?_
   refine T_n ?_
   refine W_seq ?_
   refine W_block ?_
   refine W_seq ?_
   refine W_reg ?_
   refine L_op rfl (X_move (v := (.int .i64 (((i : Nat) : Int)))) rfl ?_)
   refine L_op rfl (X_idx (v := s.uv) (n := s.us.length) (k := .i64) (i := ((i : Nat) : Int)) S22 rfl hs.1.sv rfl (by omega) (by omega) ?_)
   obtain ⟨bi, hbi⟩ : ∃ b, s.us[i]? = some b := ⟨_, List.getElem?_eq_getElem (by omega)⟩
   rcases Bool.eq_false_or_eq_true bi with rfl | rfl
   ·refine L_op rfl (X_load (p := (pof s.uv ((((i : Nat) : Int) : Int).toNat * 1))) (v := .bool true) T4 rfl (bat hs.1 (Int.toNat_natCast _) hbi) ?_)
    refine L_op rfl (X_assign (v := (.int .i64 (((i : Nat) : Int)))) rfl ?_)
    refine L_op rfl (X_assign (v := (.bool (true))) rfl ?_)
    refine L_nil ?_
    refine T_n ?_
    refine W_seq ?_
    refine W_seq ?_
    refine W_reg ?_
    refine L_op rfl (X_move (v := (.bool (true))) rfl ?_)
    refine L_nil ?_
    refine T_n ?_
    refine W_ct rfl ?_
    refine W_seq ?_
    refine W_reg ?_
    refine L_op rfl (X_loadA (p := (ptr x1 (0))) (xs := [(.int .i64 (s.sz)), s.uv, s.lv]) A25 rfl hX1.atAll rfl ?_)
    refine L_op rfl (X_move (v := (.int .i64 (((i : Nat) : Int)))) rfl ?_)
    have hcr_ := c_waits s ((i : Nat) : Int) w3 lo up hs
    refine L_op rfl (X_fn (vs := [(.agg ([(.int .i64 (s.sz)), s.uv, s.lv]).toArray), (.int .i64 (((i : Nat) : Int)))]) en31 rfl ?_)
    refine CT.mono hcr_ ?_
    clear hcr_
    rintro _ w5 ⟨rfl, hu5⟩
    have hz5 := hu5.size
    replace hX1 := hX1.ext hu5
    replace hX2 := hX2.ext hu5
    replace hX3 := hX3.ext hu5
    replace hs := hs.ext hu5
    replace hp := hp.ext hu5
    replace hJ := hJs _ _ _ hJ (Ext.upd hu5)
    rcases hwt : wt s.ls ((i : Nat) : Int) with _ | t
    ·refine L_op rfl (X_move (v := (.tuple #[(.int .u32 (0)), (.bool (false))])) rfl ?_)
     refine L_op rfl (X_extract (l := [(.int .u32 (0)), (.bool (false))]) (v := (.int .u32 (0))) rfl rfl ?_)
     refine L_op rfl (X_extract (l := [(.int .u32 (0)), (.bool (false))]) (v := (.bool (false))) rfl rfl ?_)
     refine L_op rfl (X_alloc (z := (.int .u32 (0))) (c := #[(.int .u32 (0))]) Zv26 rfl ?_)
     intro b6 w6 hn6
     have hbn6 := hn6.num; have hbs6 := hn6.size
     replace hX1 := hX1.ext hn6.ext
     replace hX2 := hX2.ext hn6.ext
     replace hX3 := hX3.ext hn6.ext
     replace hs := hs.ext hn6.ext
     replace hp := hp.ext hn6.ext
     replace hJ := hJs _ _ _ hJ (Ext.upd hn6.ext)
     have hB6 := hn6.blk
     refine L_op0 (X_store (b := b6) (o := 0) T26 rfl rfl rfl hB6 (by show (0 : Nat) < 1; decide) ?_)
     intro w7 hu7 hb7
     have hz7 := hu7.size
     replace hX1 := hX1.upd hu7 fun h => by have h : x1 = b6 := h; omega
     replace hX2 := hX2.upd hu7 fun h => by have h : x2 = b6 := h; omega
     replace hX3 := hX3.upd hu7 fun h => by have h : x3 = b6 := h; omega
     replace hs := hs.upd hu7 fun i h1 h2 h => by have h : i = b6 := h; omega
     replace hp := hp.upd hu7 fun i h1 h2 h => by have h : i = b6 := h; omega
     replace hJ := hJs _ _ _ hJ (hu7.mono fun i _ h => by have h : i = b6 := h; show n0 ≤ i; omega)
     replace hB6 : Blk w7 b6 #[(.int .u32 (0))] 26 := hb7
     refine L_op rfl (X_assign (v := (.bool (false))) rfl ?_)
     refine L_nil ?_
     refine T_n ?_
     refine W_seq ?_
     refine W_reg ?_
     refine L_op rfl (X_move (v := (.bool (false))) rfl ?_)
     refine L_op rfl (X_not (b := false) (r := true) rfl rfl ?_)
     refine L_op rfl (X_move (v := (.bool (true))) rfl ?_)
     refine L_gn (dj := 29) (t := true) rfl rfl rfl rfl ?_
     refine L_gn (dj := 29) (t := true) rfl rfl rfl rfl ?_
     refine L_gn (dj := 29) (t := true) rfl rfl rfl rfl ?_
     refine L_gn (dj := 29) (t := true) rfl rfl rfl rfl ?_
     refine L_gn (dj := 29) (t := true) rfl rfl rfl rfl ?_
     refine L_gn (dj := 29) (t := true) rfl rfl rfl rfl ?_
     refine L_op rfl (X_pick (t := true) (v := (.bool (true))) rfl rfl ?_)
     refine L_op rfl (X_move (v := (.bool (true))) rfl ?_)
     refine L_gn (dj := 37) (t := true) rfl rfl rfl rfl ?_
     refine L_gn (dj := 37) (t := true) rfl rfl rfl rfl ?_
     refine L_gn (dj := 37) (t := true) rfl rfl rfl rfl ?_
     refine L_op rfl (X_pick (t := true) (v := (.bool (true))) rfl rfl ?_)
     refine L_nil ?_
     refine T_n ?_
     refine W_ct rfl ?_
     refine W_exit ?_
     refine T_e ?_
     refine B_x ?_
     refine T_n ?_
     refine W_reg ?_
     refine L_op rfl (X_arith (k := .i64) (a := ((i : Nat) : Int)) (b := 1) (r := ((i + 1 : Nat) : Int)) rfl rfl rfl (iadd64 (by omega) (by omega) (by omega)) ?_)
     refine L_op rfl (X_move (v := (.int .i64 (((i + 1 : Nat) : Int)))) rfl ?_)
     refine L_nil ?_
     refine T_n ?_
     exact ⟨rfl, i + 1, ⟨⟨by omega, by rw [cnt_miss (free_n hbi hwt)]; exact hJ, hX1, hX2, hX3, hs, hp, by omega⟩, (by show s.us.length - (i + 1) < s.us.length - i; omega)⟩, (Out.mk rfl), ⟨rfl, trivial⟩⟩
    ·have ht_ : 0 ≤ t ∧ t < 4294967296 := by obtain ⟨x_, h1_, _, h3_⟩ := wt_mem hwt; rw [← h3_]; exact hok x_ h1_
     refine L_op rfl (X_move (v := (.tuple #[(.int .u32 (t)), (.bool (true))])) rfl ?_)
     refine L_op rfl (X_extract (l := [(.int .u32 (t)), (.bool (true))]) (v := (.int .u32 (t))) rfl rfl ?_)
     refine L_op rfl (X_extract (l := [(.int .u32 (t)), (.bool (true))]) (v := (.bool (true))) rfl rfl ?_)
     refine L_op rfl (X_alloc (z := (.int .u32 (0))) (c := #[(.int .u32 (0))]) Zv26 rfl ?_)
     intro b8 w8 hn8
     have hbn8 := hn8.num; have hbs8 := hn8.size
     replace hX1 := hX1.ext hn8.ext
     replace hX2 := hX2.ext hn8.ext
     replace hX3 := hX3.ext hn8.ext
     replace hs := hs.ext hn8.ext
     replace hp := hp.ext hn8.ext
     replace hJ := hJs _ _ _ hJ (Ext.upd hn8.ext)
     have hB8 := hn8.blk
     refine L_op0 (X_store (b := b8) (o := 0) T26 rfl rfl rfl hB8 (by show (0 : Nat) < 1; decide) ?_)
     intro w9 hu9 hb9
     have hz9 := hu9.size
     replace hX1 := hX1.upd hu9 fun h => by have h : x1 = b8 := h; omega
     replace hX2 := hX2.upd hu9 fun h => by have h : x2 = b8 := h; omega
     replace hX3 := hX3.upd hu9 fun h => by have h : x3 = b8 := h; omega
     replace hs := hs.upd hu9 fun i h1 h2 h => by have h : i = b8 := h; omega
     replace hp := hp.upd hu9 fun i h1 h2 h => by have h : i = b8 := h; omega
     replace hJ := hJs _ _ _ hJ (hu9.mono fun i _ h => by have h : i = b8 := h; show n0 ≤ i; omega)
     replace hB8 : Blk w9 b8 #[(.int .u32 (t))] 26 := hb9
     refine L_op rfl (X_assign (v := (.bool (true))) rfl ?_)
     refine L_nil ?_
     refine T_n ?_
     refine W_seq ?_
     refine W_reg ?_
     refine L_op rfl (X_move (v := (.bool (true))) rfl ?_)
     refine L_op rfl (X_not (b := true) (r := false) rfl rfl ?_)
     refine L_op rfl (X_move (v := (.bool (false))) rfl ?_)
     refine L_gy (dj := 29) rfl rfl rfl (X_load (p := (ptr x2 (0))) (v := (.int .u32 (u))) T26 rfl (hX2.at1 rfl) ?_)
     refine L_gy (dj := 29) rfl rfl rfl (X_convInt (k := .u32) (a := u) (r := u) (by rw [Try.underlying26]; rfl) Try.underlying66 rfl (wrap_u64 (by omega) (by omega)) ?_)
     refine L_gy (dj := 29) rfl rfl rfl (X_load (p := (ptr b8 (0))) (v := (.int .u32 (t))) T26 rfl (hB8.at1 rfl) ?_)
     refine L_gy (dj := 29) rfl rfl rfl (X_convInt (k := .u32) (a := t) (r := t) (by rw [Try.underlying26]; rfl) Try.underlying66 rfl (wrap_u64 (by omega) (by omega)) ?_)
     refine L_gy (dj := 29) rfl rfl rfl (X_arith (k := .u64) (a := t) (b := 4) (r := (t + 4)) rfl rfl rfl (wrap_u64 (by omega) (by omega)) ?_)
     by_cases hc10 : (u : Int) < ((t + 4))
     ·refine L_gy (dj := 29) rfl rfl rfl (X_cmp (k := .u64) (a := u) (b := (t + 4)) (r := true) rfl rfl rfl (decide_eq_true (p := ((u) : Int) < (((t + 4)) : Int)) (by omega)) ?_)
      refine L_op rfl (X_pick (t := false) (v := (.bool (true))) rfl rfl ?_)
      refine L_op rfl (X_move (v := (.bool (true))) rfl ?_)
      refine L_gn (dj := 37) (t := true) rfl rfl rfl rfl ?_
      refine L_gn (dj := 37) (t := true) rfl rfl rfl rfl ?_
      refine L_gn (dj := 37) (t := true) rfl rfl rfl rfl ?_
      refine L_op rfl (X_pick (t := true) (v := (.bool (true))) rfl rfl ?_)
      refine L_nil ?_
      refine T_n ?_
      refine W_ct rfl ?_
      refine W_exit ?_
      refine T_e ?_
      refine B_x ?_
      refine T_n ?_
      refine W_reg ?_
      refine L_op rfl (X_arith (k := .i64) (a := ((i : Nat) : Int)) (b := 1) (r := ((i + 1 : Nat) : Int)) rfl rfl rfl (iadd64 (by omega) (by omega) (by omega)) ?_)
      refine L_op rfl (X_move (v := (.int .i64 (((i + 1 : Nat) : Int)))) rfl ?_)
      refine L_nil ?_
      refine T_n ?_
      exact ⟨rfl, i + 1, ⟨⟨by omega, by rw [cnt_miss (free_u hbi hwt (by omega))]; exact hJ, hX1, hX2, hX3, hs, hp, by omega⟩, (by show s.us.length - (i + 1) < s.us.length - i; omega)⟩, (Out.mk rfl), ⟨rfl, trivial⟩⟩
     ·refine L_gy (dj := 29) rfl rfl rfl (X_cmp (k := .u64) (a := u) (b := (t + 4)) (r := false) rfl rfl rfl (decide_eq_false (p := ((u) : Int) < (((t + 4)) : Int)) (by omega)) ?_)
      refine L_op rfl (X_pick (t := false) (v := (.bool (false))) rfl rfl ?_)
      refine L_op rfl (X_move (v := (.bool (false))) rfl ?_)
      refine L_gy (dj := 37) rfl rfl rfl (X_load (p := (ptr x3 (0))) (v := pv) T52 rfl (hX3.at1 rfl) ?_)
      refine L_gy (dj := 37) rfl rfl rfl (X_makeFunc (vs := [(ptr b8 (0))]) rfl ?_)
      have hcr_ := c_containsP pv ps t b8 w9 lo2 up2 hp hB8
      refine L_gy (dj := 37) rfl rfl rfl (X_fn (vs := [pv, (.func (.func 33) #[] #[(ptr b8 (0))])]) en32 rfl ?_)
      refine CT.mono hcr_ ?_
      clear hcr_
      rintro _ _ ⟨⟨gp_, rfl, hgp_⟩, rfl⟩
      rcases Bool.eq_false_or_eq_true (gp_) with hc11 | hc11
      ·rw [hc11]
       refine L_op rfl (X_pick (t := false) (v := (.bool (true))) rfl rfl ?_)
       refine L_nil ?_
       refine T_n ?_
       refine W_ct rfl ?_
       refine W_exit ?_
       refine T_e ?_
       refine B_x ?_
       refine T_n ?_
       refine W_reg ?_
       refine L_op rfl (X_arith (k := .i64) (a := ((i : Nat) : Int)) (b := 1) (r := ((i + 1 : Nat) : Int)) rfl rfl rfl (iadd64 (by omega) (by omega) (by omega)) ?_)
       refine L_op rfl (X_move (v := (.int .i64 (((i + 1 : Nat) : Int)))) rfl ?_)
       refine L_nil ?_
       refine T_n ?_
       exact ⟨rfl, i + 1, ⟨⟨by omega, by rw [cnt_miss (free_p hbi hwt (hgp_.1 hc11))]; exact hJ, hX1, hX2, hX3, hs, hp, by omega⟩, (by show s.us.length - (i + 1) < s.us.length - i; omega)⟩, (Out.mk rfl), ⟨rfl, trivial⟩⟩
      ·rw [hc11]
       refine L_op rfl (X_pick (t := false) (v := (.bool (false))) rfl rfl ?_)
       refine L_nil ?_
       refine T_n ?_
       refine W_cf rfl ?_
       refine W_skip ?_
       refine T_n ?_
       refine W_seq ?_
       refine W_reg ?_
       refine L_op rfl (X_move (v := (.func (.yield l) #[] #[])) rfl ?_)
       refine L_op rfl (X_move (v := (.int .i64 (((i : Nat) : Int)))) rfl ?_)
       have hf_ : (freeB s.us s.ls u ps) i = true := free_y hbi hwt (by omega) (fun h_ => by have h2_ := hgp_.2 h_; rw [hc11] at h2_; cases h2_)
       refine L_op rfl (X_yield (vs := [.int .i64 ((i : Nat) : Int)]) rfl rfl (YieldC.mono (hy (cntF (freeB s.us s.ls u ps) i) _ _ (opX_at hM hf_ (by omega)) hJ) ?_))
       rintro _ W12 (⟨rfl, hJ, huy⟩ | ⟨rfl, hJx, huy⟩)
       ·have hzy := huy.size
        replace hX1 := hX1.upd huy fun h => (hDb _ h).1 (.inl rfl)
        replace hX2 := hX2.upd huy fun h => (hDb _ h).1 (.inr (.inl rfl))
        replace hX3 := hX3.upd huy fun h => (hDb _ h).1 (.inr (.inr (.inl rfl)))
        replace hs := hs.upd huy fun i h1 h2 h => (hDb _ h).1 (.inr (.inr (.inr (.inl ⟨h1, h2⟩))))
        replace hp := hp.upd huy fun i h1 h2 h => (hDb _ h).1 (.inr (.inr (.inr (.inr ⟨h1, h2⟩))))
        rw [← cnt_hit hf_] at hJ
        refine L_op rfl (X_not (b := true) (r := false) rfl rfl ?_)
        refine L_nil ?_
        refine T_n ?_
        refine W_cf rfl ?_
        refine W_skip ?_
        refine B_n ?_
        refine T_n ?_
        refine W_reg ?_
        refine L_op rfl (X_arith (k := .i64) (a := ((i : Nat) : Int)) (b := 1) (r := ((i + 1 : Nat) : Int)) rfl rfl rfl (iadd64 (by omega) (by omega) (by omega)) ?_)
        refine L_op rfl (X_move (v := (.int .i64 (((i + 1 : Nat) : Int)))) rfl ?_)
        refine L_nil ?_
        refine T_n ?_
        exact ⟨rfl, i + 1, ⟨⟨by omega, hJ, hX1, hX2, hX3, hs, hp, by omega⟩, (by show s.us.length - (i + 1) < s.us.length - i; omega)⟩, (Out.mk rfl), ⟨rfl, trivial⟩⟩
       ·refine L_op rfl (X_not (b := false) (r := true) rfl rfl ?_)
        refine L_nil ?_
        refine T_n ?_
        refine W_ct rfl ?_
        refine W_ret ?_
        refine B_r ?_
        refine T_r ?_
        refine T_r ?_
        refine B_r ?_
        exact BQ_r (End_0 Try.results30 (.inr ⟨cntF (freeB s.us s.ls u ps) i, (List.getElem?_eq_some_iff.1 (opX_at hM hf_ (by omega))).1, hJx⟩))
   ·refine L_op rfl (X_load (p := (pof s.uv ((((i : Nat) : Int) : Int).toNat * 1))) (v := .bool false) T4 rfl (bat hs.1 (Int.toNat_natCast _) hbi) ?_)
    refine L_op rfl (X_assign (v := (.int .i64 (((i : Nat) : Int)))) rfl ?_)
    refine L_op rfl (X_assign (v := (.bool (false))) rfl ?_)
    refine L_nil ?_
    refine T_n ?_
    refine W_seq ?_
    refine W_seq ?_
    refine W_reg ?_
    refine L_op rfl (X_move (v := (.bool (false))) rfl ?_)
    refine L_nil ?_
    refine T_n ?_
    refine W_cf rfl ?_
    refine W_skip ?_
    refine T_n ?_
    refine W_seq ?_
    refine W_reg ?_
    refine L_op rfl (X_move (v := (.func (.yield l) #[] #[])) rfl ?_)
    refine L_op rfl (X_move (v := (.int .i64 (((i : Nat) : Int)))) rfl ?_)
    have hf_ : (freeB s.us s.ls u ps) i = true := free_f hbi
    refine L_op rfl (X_yield (vs := [.int .i64 ((i : Nat) : Int)]) rfl rfl (YieldC.mono (hy (cntF (freeB s.us s.ls u ps) i) _ _ (opX_at hM hf_ (by omega)) hJ) ?_))
    rintro _ W13 (⟨rfl, hJ, huy⟩ | ⟨rfl, hJx, huy⟩)
    ·have hzy := huy.size
     replace hX1 := hX1.upd huy fun h => (hDb _ h).1 (.inl rfl)
     replace hX2 := hX2.upd huy fun h => (hDb _ h).1 (.inr (.inl rfl))
     replace hX3 := hX3.upd huy fun h => (hDb _ h).1 (.inr (.inr (.inl rfl)))
     replace hs := hs.upd huy fun i h1 h2 h => (hDb _ h).1 (.inr (.inr (.inr (.inl ⟨h1, h2⟩))))
     replace hp := hp.upd huy fun i h1 h2 h => (hDb _ h).1 (.inr (.inr (.inr (.inr ⟨h1, h2⟩))))
     rw [← cnt_hit hf_] at hJ
     refine L_op rfl (X_not (b := true) (r := false) rfl rfl ?_)
     refine L_nil ?_
     refine T_n ?_
     refine W_cf rfl ?_
     refine W_skip ?_
     refine B_n ?_
     refine T_n ?_
     refine W_reg ?_
     refine L_op rfl (X_arith (k := .i64) (a := ((i : Nat) : Int)) (b := 1) (r := ((i + 1 : Nat) : Int)) rfl rfl rfl (iadd64 (by omega) (by omega) (by omega)) ?_)
     refine L_op rfl (X_move (v := (.int .i64 (((i + 1 : Nat) : Int)))) rfl ?_)
     refine L_nil ?_
     refine T_n ?_
     exact ⟨rfl, i + 1, ⟨⟨by omega, hJ, hX1, hX2, hX3, hs, hp, by omega⟩, (by show s.us.length - (i + 1) < s.us.length - i; omega)⟩, (Out.mk rfl), ⟨rfl, trivial⟩⟩
    ·refine L_op rfl (X_not (b := false) (r := true) rfl rfl ?_)
     refine L_nil ?_
     refine T_n ?_
     refine W_ct rfl ?_
     refine W_ret ?_
     refine B_r ?_
     refine T_r ?_
     refine T_r ?_
     refine B_r ?_
     exact BQ_r (End_0 Try.results30 (.inr ⟨cntF (freeB s.us s.ls u ps) i, (List.getElem?_eq_some_iff.1 (opX_at hM hf_ (by omega))).1, hJx⟩))
  ·refine L_op rfl (X_cmp (k := .i64) (a := ((i : Nat) : Int)) (b := ((s.us.length : Nat) : Int)) (r := false) rfl rfl rfl (decide_eq_false (p := ((((i : Nat) : Int)) : Int) < ((((s.us.length : Nat) : Int)) : Int)) (by omega)) ?_)
   refine L_nil ?_
   refine T_n ?_
   refine W_seq ?_
   refine W_cf rfl ?_
   refine W_exit ?_
   refine T_e ?_
   refine T_e ?_
   refine B_x ?_
   exact BQ_n (End_0 Try.results30 (.inl (by rw [opX_len, opL_may hM, show s.us.length = i by omega]; exact hJ)))
 ·rw [hc2]
  refine L_op rfl (X_not (b := false) (r := true) rfl rfl ?_)
  refine L_nil ?_
  refine T_n ?_
  refine W_ct rfl ?_
  refine W_ret ?_
  refine T_r ?_
  exact BQ_r (End_0 Try.results30 (.inl (by rw [opX_len, opL_no (fun h_ => by have h2_ := hg_.2 h_; rw [hc2] at h2_; cases h2_)]; exact hJ)))
end Go.Proofs.Ytmaikcnjgkoghaa
