/-
 The walk of SpaceOwn. (Printed by wip/gen/t13q.py of this repo.)
-/
import Derived.Test.YtmaikcnjgkoghaaKeeps
import Derived.Test.YtmaikcnjgkoghaaBaseUN
namespace Go.Proofs.Ytmaikcnjgkoghaa
open Go Go.SL Go.Proofs
set_option linter.unusedVariables false

theorem sv_one {v : Value} {n : Nat} (h : SV v n) : v.oneCell' = true := by
 obtain ⟨a, c, rfl, _⟩ := h
 rfl
theorem built25v {u l : Value} {n m : Nat} (hu : SV u n) (hl : SV l m) (z : Int) : Try.prog.built 25 [(0, .int .i64 z), (1, u), (2, l)] = some #[.int .i64 z, u, l] := by
 obtain ⟨a, c, rfl, _⟩ := hu
 obtain ⟨a2, c2, rfl, _⟩ := hl
 kernel_rfl
theorem row_at (b k : Nat) : pof (.slice (some ⟨b, 0, none⟩) 3 3) k = ptr b k := by
 show padd (ptr b 0) k = _
 rw [padd_ptr, Nat.zero_add]
theorem built44m : Try.prog.built 44 [(0, .int .i64 (-1))] = some #[.int .i64 (-1), .int .u32 0] := by kernel_rfl
theorem free_any (s : Sp) (n t : Int) (w : World) (lo up : Nat) (hup : up ≤ w.heap.size) (hs : s.Rd w lo up) (hLu : s.us.length ≤ 1048576) (hLl : s.ls.length ≤ 100000) : CT Try.prog 9 #[.agg #[.int .i64 s.sz, s.uv, s.lv], .int .i64 n, .int .u32 t] w fun v w' => ∃ (o : Sp) (r : Int), v = .tuple #[.agg #[.int .i64 o.sz, o.uv, o.lv], .int .i64 r] ∧ o.Ow w' w.heap.size w'.heap.size ∧ o.us.length = s.us.length ∧ Ext w w' := by
 refine CT.mono (c_free s n t w lo up hup hs hLu hLl) ?_
 rintro v w' ⟨hno, hyes, hu⟩
 by_cases hH : HeldS s n
 ·obtain ⟨o, k, rfl, h1, h2, h3, _⟩ := hyes hH
  exact ⟨o, 0, rfl, h1, by rw [h3], hu⟩
 ·obtain ⟨o, rfl, h1, h2, h3, _⟩ := hno hH
  exact ⟨o, 2, rfl, h1, by rw [h3], hu⟩
theorem give_any (s : Sp) (n : Int) (w : World) (lo up : Nat) (hup : up ≤ w.heap.size) (hs : s.Rd w lo up) (hLu : s.us.length ≤ 1048576) (hLl : s.ls.length ≤ 100000) : CT Try.prog 15 #[.agg #[.int .i64 s.sz, s.uv, s.lv], .int .i64 n] w fun v w' => ∃ (o : Sp) (r : Int), v = .tuple #[.agg #[.int .i64 o.sz, o.uv, o.lv], .int .i64 r] ∧ o.Ow w' w.heap.size w'.heap.size ∧ Ext w w' := by
 refine CT.mono (c_give s n w lo up hup hs hLu hLl) ?_
 rintro v w' ⟨hno, hyes, hu⟩
 by_cases hH : HeldS s n
 ·obtain ⟨o, rfl, h1, _⟩ := hyes hH
  exact ⟨o, 0, rfl, h1, hu⟩
 ·obtain ⟨o, rfl, h1, _⟩ := hno hH
  exact ⟨o, 2, rfl, h1, hu⟩
theorem take_any (s : Sp) (u : Int) (w : World) (lo up : Nat) (hup : up ≤ w.heap.size) (hok : s.Ok) (h0 : 0 ≤ u) (h1 : u < 4294967296) (hs : s.Rd w lo up) (hLu : s.us.length ≤ 1048576) (hLl : s.ls.length ≤ 1048576) : CT Try.prog 13 #[.agg #[.int .i64 s.sz, s.uv, s.lv], .int .u32 u, .slice none 0 0] w fun v w' => ∃ (o : Sp) (r1 r2 : Int), v = .tuple #[.int .i64 r1, .agg #[.int .i64 o.sz, o.uv, o.lv], .int .i64 r2] ∧ o.Ow w' w.heap.size w'.heap.size ∧ Ext w w' := by
 refine CT.mono (c_take s u (.slice none 0 0) [] w lo up 0 0 hup (Nat.zero_le _) hok h0 h1 hs (NRd.nil _ _ _) hLu hLl) ?_
 rintro v w' ⟨o, rfl, ho, _, _, _, hu⟩
 exact ⟨o, _, _, rfl, ho, hu⟩

set_option maxRecDepth 10000 in
set_option maxHeartbeats 2000000 in
theorem c_spaceOwn (s : Sp) (n t u : Int) (w : World) (hs : s.Rd w 0 w.heap.size) (hok : s.Ok) (ht : 0 ≤ t ∧ t < 4294967296) (hu_ : 0 ≤ u ∧ u < 4294967296) : CT Try.prog 5 #[(.agg #[(.int .i64 (s.sz)), s.uv, s.lv]), (.int .i64 (n)), (.int .u32 (t)), (.int .u32 (u))] w fun v w' => v = .bool true ∧ Ext w w' := by
 obtain ⟨n0, hn0⟩ : ∃ n, n = w.heap.size := ⟨_, rfl⟩
 have hU : Upd (fun i => n0 ≤ i) w w := Upd.refl _ _
 rw [← hn0] at hs
 have hul := hs.1.sv.len; have hll := hs.2.sv.len
 refine CT_of Try.func5 rfl rfl rfl ?_
 refine W_seq ?_
 refine W_reg ?_
 refine L_op rfl (X_box (v := (.agg #[(.int .i64 (s.sz)), s.uv, s.lv])) (c := ([(.int .i64 (s.sz)), s.uv, s.lv]).toArray) rfl rfl ?_)
 intro b1 w1 hn1
 have hbn1 := hn1.num; have hbs1 := hn1.size
 replace hs := hs.ext hn1.ext
 replace hU := hU.trans (Ext.upd hn1.ext)
 have hB1 := hn1.blk
 refine L_op rfl (X_assign (v := (.bool (false))) rfl ?_)
 refine L_nil ?_
 refine T_n ?_
 refine W_seq ?_
 refine W_seq ?_
 refine W_reg ?_
 refine L_op rfl (X_loadA (p := (ptr b1 (0))) (xs := [(.int .i64 (s.sz)), s.uv, s.lv]) A25 rfl hB1.atAll rfl ?_)
 have hcr_ := c_great s w1 0 n0 hs
 refine L_op rfl (X_fn (vs := [(.agg ([(.int .i64 (s.sz)), s.uv, s.lv]).toArray)]) en6 rfl ?_)
 refine CT.mono hcr_ ?_
 clear hcr_
 rintro _ w2 ⟨⟨gG, rfl, hgG⟩, hu2⟩
 have hz2 := hu2.size
 replace hs := hs.ext hu2
 replace hU := hU.trans (Ext.upd hu2)
 replace hB1 := hB1.ext hu2
 rcases Bool.eq_false_or_eq_true (gG) with hc3 | hc3
 ·rw [hc3]
  refine L_op rfl (X_move (v := (.bool (true))) rfl ?_)
  refine L_gn (dj := 23) (t := true) rfl rfl rfl rfl ?_
  refine L_gn (dj := 23) (t := true) rfl rfl rfl rfl ?_
  refine L_gn (dj := 23) (t := true) rfl rfl rfl rfl ?_
  refine L_op rfl (X_pick (t := true) (v := (.bool (true))) rfl rfl ?_)
  refine L_nil ?_
  refine T_n ?_
  refine W_ct rfl ?_
  refine W_seq ?_
  refine W_reg ?_
  refine L_op rfl (X_fn (vs := []) en8 rfl (CT.mono (c_wakes _) ?_))
  rintro _ w4 ⟨rfl, hu4⟩
  have hz4 := hu4.size
  replace hs := hs.ext hu4
  replace hU := hU.trans (Ext.upd hu4)
  replace hB1 := hB1.ext hu4
  refine L_op rfl (X_assign (v := (.bool (true))) rfl ?_)
  refine L_nil ?_
  refine T_n ?_
  refine W_ret ?_
  refine T_r ?_
  exact BQ_r (End_1 Try.results5 (v := .bool true) rfl ⟨rfl, hU.own hn0⟩)
 ·rw [hc3]
  refine L_op rfl (X_move (v := (.bool (false))) rfl ?_)
  refine L_gy (dj := 23) rfl rfl rfl (X_loadA (p := (ptr b1 (0))) (xs := [(.int .i64 (s.sz)), s.uv, s.lv]) A25 rfl hB1.atAll rfl ?_)
  have hcr_ := c_mayR s w2 0 n0 hs
  refine L_gy (dj := 23) rfl rfl rfl (X_fn (vs := [(.agg ([(.int .i64 (s.sz)), s.uv, s.lv]).toArray)]) en7 rfl ?_)
  refine CT.mono hcr_ ?_
  clear hcr_
  rintro _ w5 ⟨⟨gM, rfl, hgM⟩, hu5⟩
  have hz5 := hu5.size
  replace hs := hs.ext hu5
  replace hU := hU.trans (Ext.upd hu5)
  replace hB1 := hB1.ext hu5
  rcases Bool.eq_false_or_eq_true (gM) with hc6 | hc6
  ·rw [hc6]
   refine L_gy (dj := 23) rfl rfl rfl (X_not (b := true) (r := false) rfl rfl ?_)
   refine L_op rfl (X_pick (t := false) (v := (.bool (false))) rfl rfl ?_)
   refine L_nil ?_
   refine T_n ?_
   refine W_cf rfl ?_
   refine W_skip ?_
   refine T_n ?_
   refine W_seq ?_
   have hM := hgM.1 hc6
   have hng : ¬ (300 < s.us.length ∨ 300 < s.ls.length) := fun h_ => by have h2_ := hgG.2 h_; rw [hc3] at h2_; cases h2_
   have hMl := hM.1.1.2.2
   obtain ⟨s0, hs0⟩ : ∃ n, n = w5.heap.size := ⟨_, rfl⟩
   refine W_draw 12 [[], [0], [], [], [3], [2, 3, 4], [], [], [7], [2, 3, 4, 5, 6, 7, 8], [0, 1, 2, 3, 4, 5, 6, 7, 8, 9], [], [0, 1, 2, 3, 4, 5, 6, 7, 8, 9, 10, 11]] mixed (by kernel_rfl) ?_
   refine ⟨.det (fun val => (ptr b1 (0))), ⟨fun _ _ hv => rfl, fun _ _ _ _ _ => trivial⟩, fun val h_ W hx he => ⟨trivial, ?_⟩, ?_⟩
   ·exact X_fldP (b := b1) (o := 0) (r := 0) Fd25_0 rfl rfl ⟨Upd.refl _ _, rfl⟩
   refine ⟨.det (fun val => (.int .i64 (s.sz))), ⟨fun _ _ hv => rfl, fun _ _ _ _ _ => trivial⟩, fun val h_ W hx he => ⟨trivial, ?_⟩, ?_⟩
   ·replace hx := (Upd.drew _ _).trans hx
    replace hB1 := hB1.ext hx
    refine id (X_load (p := (ptr b1 (0))) (v := (.int .i64 (s.sz))) T3 rfl (hB1.at1 rfl) ?_)
    exact ⟨Upd.refl _ _, rfl⟩
   refine ⟨.abs (fun _ x_ _ => ∃ b, x_ = .slice (some ⟨b, 0, none⟩) 0 0), ⟨fun _ _ _ => rfl, fun _ _ _ _ _ h => h⟩, fun val h_ W hx he => ⟨trivial, ?_⟩, ?_⟩
   ·refine X_buildSlice1 (vs := []) S22 (by decide) rfl rfl (fun _ h => by cases h) ?_
    intro b w2 hn
    exact ⟨hn.ext, b, rfl⟩
   refine ⟨.det (fun val => (ptr b1 (1))), ⟨fun _ _ hv => rfl, fun _ _ _ _ _ => trivial⟩, fun val h_ W hx he => ⟨trivial, ?_⟩, ?_⟩
   ·exact X_fldP (b := b1) (o := 0) (r := 1) Fd25_1 rfl rfl ⟨Upd.refl _ _, rfl⟩
   refine ⟨.det (fun val => s.uv), ⟨fun _ _ hv => rfl, fun _ _ _ _ _ => trivial⟩, fun val h_ W hx he => ⟨trivial, ?_⟩, ?_⟩
   ·replace hx := (Upd.drew _ _).trans hx
    replace hB1 := hB1.ext hx
    refine id (X_load (p := (ptr b1 (1))) (v := s.uv) T22 rfl (hB1.at1 rfl) ?_)
    exact ⟨Upd.refl _ _, rfl⟩
   refine ⟨.abs (fun _ x_ W_ => ∃ u, u ≤ W_.heap.size ∧ NOwn LBo W_ 4 5 s0 u x_ s.us), ⟨fun _ _ _ => rfl, fun _ _ _ _ hu h => (by obtain ⟨u, h1, h2⟩ := h; exact ⟨u, Nat.le_trans h1 hu.size, h2.ext hu⟩)⟩, fun val h_ W hx he => ⟨trivial, ?_⟩, ?_⟩
   ·replace hx := (Upd.drew _ _).trans hx
    replace hs := hs.ext hx
    have hxs := hx.size
    obtain ⟨⟨bz, hbz⟩, _⟩ := he
    refine X_append (B := s0) (n := 0) (s := val 2) (x := s.uv) S22 ⟨_, Try.underlying22⟩ rfl rfl (xs := []) (by rw [hbz]; exact Own.zero _ _ _ _ _) hs.1.1 (NRd.sub_one hs.1) (by unfold maxLen; omega) (by omega) (by omega) ?_
    intro v5 w5 hO5 hu5 _
    rw [hbz] at hu5
    replace hO5 := hO5.eq (Nat.zero_add _) (List.nil_append _)
    exact ⟨hu5.nobk, _, Nat.le_refl _, NOwn.of (fun _ => rfl) hO5 fun b hb => (hO5.lt hb).2⟩
   refine ⟨.abs (fun _ x_ _ => ∃ b, x_ = .slice (some ⟨b, 0, none⟩) 0 0), ⟨fun _ _ _ => rfl, fun _ _ _ _ _ h => h⟩, fun val h_ W hx he => ⟨trivial, ?_⟩, ?_⟩
   ·refine X_buildSliceL (vs := []) (c := []) S23 (by decide) rfl rfl (fun _ h => by cases h) rfl ?_
    intro b w2 hn
    exact ⟨hn.ext, b, rfl⟩
   refine ⟨.det (fun val => (ptr b1 (2))), ⟨fun _ _ hv => rfl, fun _ _ _ _ _ => trivial⟩, fun val h_ W hx he => ⟨trivial, ?_⟩, ?_⟩
   ·exact X_fldP (b := b1) (o := 0) (r := 2) Fd25_2 rfl rfl ⟨Upd.refl _ _, rfl⟩
   refine ⟨.det (fun val => s.lv), ⟨fun _ _ hv => rfl, fun _ _ _ _ _ => trivial⟩, fun val h_ W hx he => ⟨trivial, ?_⟩, ?_⟩
   ·replace hx := (Upd.drew _ _).trans hx
    replace hB1 := hB1.ext hx
    refine id (X_load (p := (ptr b1 (2))) (v := s.lv) T23 rfl (hB1.at1 rfl) ?_)
    exact ⟨Upd.refl _ _, rfl⟩
   refine ⟨.abs (fun _ x_ W_ => ∃ u, u ≤ W_.heap.size ∧ NOwn LL W_ 44 5 s0 u x_ s.ls), ⟨fun _ _ _ => rfl, fun _ _ _ _ hu h => (by obtain ⟨u, h1, h2⟩ := h; exact ⟨u, Nat.le_trans h1 hu.size, h2.ext hu⟩)⟩, fun val h_ W hx he => ⟨trivial, ?_⟩, ?_⟩
   ·replace hx := (Upd.drew _ _).trans hx
    replace hs := hs.ext hx
    have hxs := hx.size
    obtain ⟨⟨bz, hbz⟩, _⟩ := he
    refine X_append (B := s0) (n := 0) (s := val 6) (x := s.lv) S23 ⟨_, Try.underlying23⟩ rfl rfl (xs := []) (by rw [hbz]; exact Own.zero _ _ _ _ _) hs.2.1 (NRd.sub_one hs.2) (by unfold maxLen; omega) (by omega) (by omega) ?_
    intro v5 w5 hO5 hu5 _
    rw [hbz] at hu5
    replace hO5 := hO5.eq (Nat.zero_add _) (List.nil_append _)
    exact ⟨hu5.nobk, _, Nat.le_refl _, NOwn.of (fun _ => rfl) hO5 fun b hb => (hO5.lt hb).2⟩
   refine ⟨.det (fun val => (.agg #[(.int .i64 (s.sz)), (val 5), (val 9)])), ⟨fun _ _ hv => (by simp only [hv 5 rfl, hv 9 rfl]), fun _ _ _ _ _ => trivial⟩, fun val h_ W hx he => ⟨trivial, ?_⟩, ?_⟩
   ·obtain ⟨⟨u9, hu9_, hN9⟩, he⟩ := he
    obtain ⟨⟨bz6, hbz6⟩, he⟩ := he
    obtain ⟨⟨u5, hu5_, hN5⟩, he⟩ := he
    obtain ⟨⟨bz2, hbz2⟩, he⟩ := he
    refine id (X_build (built25v hN5.1.sv hN9.1.sv _) ?_)
    exact ⟨Upd.refl _ _, rfl⟩
   refine ⟨.abs (fun _ x_ W_ => ∃ b, x_ = ptr b 0 ∧ s0 ≤ b ∧ Blk W_ b #[.int .i64 0, .slice none 0 0, .slice none 0 0] 25), ⟨fun _ _ _ => rfl, fun _ _ _ _ hu h => (by obtain ⟨b, e1, e2, e3⟩ := h; exact ⟨b, e1, e2, e3.ext hu⟩)⟩, fun val h_ W hx he => ⟨trivial, ?_⟩, ?_⟩
   ·replace hx := (Upd.drew _ _).trans hx
    refine X_alloc (z := .agg #[.int .i64 0, .slice none 0 0, .slice none 0 0]) (c := #[.int .i64 0, .slice none 0 0, .slice none 0 0]) Zv25 rfl ?_
    intro b w2 hn
    have hxs := hx.size
    have hnn := hn.num
    exact ⟨hn.ext, b, rfl, by omega, hn.blk⟩
   intro val W7 hx7 he7
   replace hx7 := (Upd.drew _ _).trans hx7
   have hz7 := hx7.size
   replace hs := hs.ext hx7
   replace hU := hU.trans (Ext.upd hx7)
   replace hB1 := hB1.ext hx7
   obtain ⟨⟨b11, hb11, hbN11, hB11⟩, he7⟩ := he7
   obtain ⟨⟨u9, hu9_, hN9⟩, he7⟩ := he7
   obtain ⟨⟨bz6, hbz6⟩, he7⟩ := he7
   obtain ⟨⟨u5, hu5_, hN5⟩, he7⟩ := he7
   obtain ⟨⟨bz2, hbz2⟩, he7⟩ := he7
   refine L_op0 (X_storeW (b := b11) (ys := [.int .i64 s.sz, val 5, val 9]) A25 hb11 rfl (List.forall_mem_cons.2 ⟨rfl, List.forall_mem_cons.2 ⟨sv_one hN5.1.sv, List.forall_mem_cons.2 ⟨sv_one hN9.1.sv, fun _ h => by cases h⟩⟩⟩) rfl hB11 rfl ?_)
   intro w9_ hu9_ hb9_
   have hz9_ := hu9_.size
   have hbl11 := hB11.lt
   replace hN5 := nown_bl (fun _ => rfl) hN5 hB11 hu9_ (by decide)
   replace hN9 := nown_bl (fun _ => rfl) hN9 hB11 hu9_ (by decide)
   replace hs := hs.upd hu9_ fun i h1 h2 h => by have h : i = b11 := h; omega
   replace hU := hU.trans (hu9_.mono fun i _ h => by have h : i = b11 := h; show n0 ≤ i; omega)
   replace hB1 := hB1.upd hu9_ fun h => by have h : b1 = b11 := h; omega
   replace hB11 : Blk w9_ b11 #[.int .i64 s.sz, val 5, val 9] 25 := hb9_
   obtain ⟨v0, hv0⟩ : ∃ f, f = val := ⟨_, rfl⟩
   subst hv0
   obtain ⟨eQ, heQ⟩ : ∃ n, n = w9_.heap.size := ⟨_, rfl⟩
   have hQ : (⟨s.sz, v0 5, v0 9, s.us, s.ls⟩ : Sp).Rd w9_ s0 eQ := ⟨(hN5.mono (Nat.le_refl _) (by omega)).rd, (hN9.mono (Nat.le_refl _) (by omega)).rd⟩
   refine L_nil ?_
   refine T_n ?_
   refine W_seq ?_
   refine W_reg ?_
   refine L_op rfl (X_loadA (p := (ptr b1 (0))) (xs := [(.int .i64 (s.sz)), s.uv, s.lv]) A25 rfl hB1.atAll rfl ?_)
   refine L_op rfl (X_move (v := (.int .i64 (n))) rfl ?_)
   refine L_op rfl (X_move (v := (.int .u32 (t))) rfl ?_)
   obtain ⟨sA, hsA_⟩ : ∃ n, n = w9_.heap.size := ⟨_, rfl⟩
   have hcr_ := free_any s n t w9_ 0 n0 (by omega) hs (by omega) (by omega)
   refine L_op rfl (X_fn (vs := [(.agg ([(.int .i64 (s.sz)), s.uv, s.lv]).toArray), (.int .i64 (n)), (.int .u32 (t))]) en9 rfl ?_)
   refine CT.mono hcr_ ?_
   clear hcr_
   rintro _ w8 ⟨oA, rA1, rfl, hOA, hlA, hu8⟩
   have hz8 := hu8.size
   obtain ⟨uA, huA_⟩ : ∃ n, n = w8.heap.size := ⟨_, rfl⟩
   rw [← hsA_, ← huA_] at hOA
   have hvA1 := hOA.1.1.sv; have hvA2 := hOA.2.1.sv
   replace hs := hs.ext hu8
   replace hU := hU.trans (Ext.upd hu8)
   replace hB1 := hB1.ext hu8
   replace hQ := hQ.ext hu8
   replace hB11 := hB11.ext hu8
   refine L_op rfl (X_move (v := (.tuple #[(.agg #[(.int .i64 (oA.sz)), oA.uv, oA.lv]), (.int .i64 (rA1))])) rfl ?_)
   refine L_op rfl (X_extract (l := [(.agg #[(.int .i64 (oA.sz)), oA.uv, oA.lv]), (.int .i64 (rA1))]) (v := (.agg #[(.int .i64 (oA.sz)), oA.uv, oA.lv])) rfl rfl ?_)
   refine L_op rfl (X_extract (l := [(.agg #[(.int .i64 (oA.sz)), oA.uv, oA.lv]), (.int .i64 (rA1))]) (v := (.int .i64 (rA1))) rfl rfl ?_)
   refine L_op rfl (X_alloc (z := (.agg #[(.int .i64 (0)), (.slice none 0 0), (.slice none 0 0)])) (c := #[(.int .i64 (0)), (.slice none 0 0), (.slice none 0 0)]) Zv25 rfl ?_)
   intro b9 w9 hn9
   have hbn9 := hn9.num; have hbs9 := hn9.size
   replace hs := hs.ext hn9.ext
   replace hU := hU.trans (Ext.upd hn9.ext)
   replace hB1 := hB1.ext hn9.ext
   replace hQ := hQ.ext hn9.ext
   replace hB11 := hB11.ext hn9.ext
   replace hOA := hOA.ext hn9.ext
   have hB9 := hn9.blk
   refine L_op0 (X_storeW (b := b9) (ys := [(.int .i64 (oA.sz)), oA.uv, oA.lv]) A25 rfl rfl (List.forall_mem_cons.2 ⟨rfl, (List.forall_mem_cons.2 ⟨(hvA1.one), (List.forall_mem_cons.2 ⟨(hvA2.one), (fun _ h => by cases h)⟩)⟩)⟩) rfl hB9 rfl ?_)
   intro w10 hu10 hb10
   have hz10 := hu10.size
   replace hs := hs.upd hu10 fun i h1 h2 h => by have h : i = b9 := h; omega
   replace hU := hU.trans (hu10.mono fun i _ h => by have h : i = b9 := h; show n0 ≤ i; omega)
   replace hB1 := hB1.upd hu10 fun h => by have h : b1 = b9 := h; omega
   replace hQ := hQ.upd hu10 fun i h1 h2 h => by have h : i = b9 := h; omega
   replace hB11 := hB11.upd hu10 fun h => by have h : b11 = b9 := h; omega
   replace hOA := hOA.upd hu10 fun i h1 h2 h => by have h : i = b9 := h; omega
   replace hB9 : Blk w10 b9 #[(.int .i64 (oA.sz)), oA.uv, oA.lv] 25 := hb10
   refine L_op rfl (X_assign (v := (.int .i64 (rA1))) rfl ?_)
   refine L_nil ?_
   refine T_n ?_
   refine W_seq ?_
   refine W_reg ?_
   refine L_op rfl (X_loadA (p := (ptr b1 (0))) (xs := [(.int .i64 (s.sz)), s.uv, s.lv]) A25 rfl hB1.atAll rfl ?_)
   refine L_op rfl (X_move (v := (.int .u32 (u))) rfl ?_)
   obtain ⟨sB, hsB_⟩ : ∃ n, n = w10.heap.size := ⟨_, rfl⟩
   have hcr_ := take_any s u w10 0 n0 (by omega) hok (by omega) (by omega) hs (by omega) (by omega)
   refine L_op rfl (X_fn (vs := [(.agg ([(.int .i64 (s.sz)), s.uv, s.lv]).toArray), (.int .u32 (u)), (.slice none 0 0)]) en13 rfl ?_)
   refine CT.mono hcr_ ?_
   clear hcr_
   rintro _ w11 ⟨oB, rB1, rB2, rfl, hOB, hu11⟩
   have hz11 := hu11.size
   obtain ⟨uB, huB_⟩ : ∃ n, n = w11.heap.size := ⟨_, rfl⟩
   rw [← hsB_, ← huB_] at hOB
   have hvB1 := hOB.1.1.sv; have hvB2 := hOB.2.1.sv
   replace hs := hs.ext hu11
   replace hU := hU.trans (Ext.upd hu11)
   replace hB1 := hB1.ext hu11
   replace hQ := hQ.ext hu11
   replace hB11 := hB11.ext hu11
   replace hOA := hOA.ext hu11
   replace hB9 := hB9.ext hu11
   refine L_op rfl (X_move (v := (.tuple #[(.int .i64 (rB1)), (.agg #[(.int .i64 (oB.sz)), oB.uv, oB.lv]), (.int .i64 (rB2))])) rfl ?_)
   refine L_op rfl (X_extract (l := [(.int .i64 (rB1)), (.agg #[(.int .i64 (oB.sz)), oB.uv, oB.lv]), (.int .i64 (rB2))]) (v := (.int .i64 (rB1))) rfl rfl ?_)
   refine L_op rfl (X_extract (l := [(.int .i64 (rB1)), (.agg #[(.int .i64 (oB.sz)), oB.uv, oB.lv]), (.int .i64 (rB2))]) (v := (.agg #[(.int .i64 (oB.sz)), oB.uv, oB.lv])) rfl rfl ?_)
   refine L_op rfl (X_extract (l := [(.int .i64 (rB1)), (.agg #[(.int .i64 (oB.sz)), oB.uv, oB.lv]), (.int .i64 (rB2))]) (v := (.int .i64 (rB2))) rfl rfl ?_)
   refine L_op rfl (X_alloc (z := (.agg #[(.int .i64 (0)), (.slice none 0 0), (.slice none 0 0)])) (c := #[(.int .i64 (0)), (.slice none 0 0), (.slice none 0 0)]) Zv25 rfl ?_)
   intro b12 w12 hn12
   have hbn12 := hn12.num; have hbs12 := hn12.size
   replace hs := hs.ext hn12.ext
   replace hU := hU.trans (Ext.upd hn12.ext)
   replace hB1 := hB1.ext hn12.ext
   replace hQ := hQ.ext hn12.ext
   replace hB11 := hB11.ext hn12.ext
   replace hOA := hOA.ext hn12.ext
   replace hB9 := hB9.ext hn12.ext
   replace hOB := hOB.ext hn12.ext
   have hB12 := hn12.blk
   refine L_op rfl (X_assign (v := (.int .i64 (rB1))) rfl ?_)
   refine L_op0 (X_storeW (b := b12) (ys := [(.int .i64 (oB.sz)), oB.uv, oB.lv]) A25 rfl rfl (List.forall_mem_cons.2 ⟨rfl, (List.forall_mem_cons.2 ⟨(hvB1.one), (List.forall_mem_cons.2 ⟨(hvB2.one), (fun _ h => by cases h)⟩)⟩)⟩) rfl hB12 rfl ?_)
   intro w13 hu13 hb13
   have hz13 := hu13.size
   replace hs := hs.upd hu13 fun i h1 h2 h => by have h : i = b12 := h; omega
   replace hU := hU.trans (hu13.mono fun i _ h => by have h : i = b12 := h; show n0 ≤ i; omega)
   replace hB1 := hB1.upd hu13 fun h => by have h : b1 = b12 := h; omega
   replace hQ := hQ.upd hu13 fun i h1 h2 h => by have h : i = b12 := h; omega
   replace hB11 := hB11.upd hu13 fun h => by have h : b11 = b12 := h; omega
   replace hOA := hOA.upd hu13 fun i h1 h2 h => by have h : i = b12 := h; omega
   replace hB9 := hB9.upd hu13 fun h => by have h : b9 = b12 := h; omega
   replace hOB := hOB.upd hu13 fun i h1 h2 h => by have h : i = b12 := h; omega
   replace hB12 : Blk w13 b12 #[(.int .i64 (oB.sz)), oB.uv, oB.lv] 25 := hb13
   refine L_op rfl (X_assign (v := (.int .i64 (rB2))) rfl ?_)
   refine L_nil ?_
   refine T_n ?_
   refine W_seq ?_
   refine W_reg ?_
   refine L_op rfl (X_loadA (p := (ptr b1 (0))) (xs := [(.int .i64 (s.sz)), s.uv, s.lv]) A25 rfl hB1.atAll rfl ?_)
   refine L_op rfl (X_move (v := (.int .i64 (n))) rfl ?_)
   obtain ⟨sC, hsC_⟩ : ∃ n, n = w13.heap.size := ⟨_, rfl⟩
   have hcr_ := give_any s n w13 0 n0 (by omega) hs (by omega) (by omega)
   refine L_op rfl (X_fn (vs := [(.agg ([(.int .i64 (s.sz)), s.uv, s.lv]).toArray), (.int .i64 (n))]) en15 rfl ?_)
   refine CT.mono hcr_ ?_
   clear hcr_
   rintro _ w14 ⟨oC, rC1, rfl, hOC, hu14⟩
   have hz14 := hu14.size
   obtain ⟨uC, huC_⟩ : ∃ n, n = w14.heap.size := ⟨_, rfl⟩
   rw [← hsC_, ← huC_] at hOC
   have hvC1 := hOC.1.1.sv; have hvC2 := hOC.2.1.sv
   replace hs := hs.ext hu14
   replace hU := hU.trans (Ext.upd hu14)
   replace hB1 := hB1.ext hu14
   replace hQ := hQ.ext hu14
   replace hB11 := hB11.ext hu14
   replace hOA := hOA.ext hu14
   replace hB9 := hB9.ext hu14
   replace hOB := hOB.ext hu14
   replace hB12 := hB12.ext hu14
   refine L_op rfl (X_move (v := (.tuple #[(.agg #[(.int .i64 (oC.sz)), oC.uv, oC.lv]), (.int .i64 (rC1))])) rfl ?_)
   refine L_op rfl (X_extract (l := [(.agg #[(.int .i64 (oC.sz)), oC.uv, oC.lv]), (.int .i64 (rC1))]) (v := (.agg #[(.int .i64 (oC.sz)), oC.uv, oC.lv])) rfl rfl ?_)
   refine L_op rfl (X_extract (l := [(.agg #[(.int .i64 (oC.sz)), oC.uv, oC.lv]), (.int .i64 (rC1))]) (v := (.int .i64 (rC1))) rfl rfl ?_)
   refine L_op rfl (X_alloc (z := (.agg #[(.int .i64 (0)), (.slice none 0 0), (.slice none 0 0)])) (c := #[(.int .i64 (0)), (.slice none 0 0), (.slice none 0 0)]) Zv25 rfl ?_)
   intro b15 w15 hn15
   have hbn15 := hn15.num; have hbs15 := hn15.size
   replace hs := hs.ext hn15.ext
   replace hU := hU.trans (Ext.upd hn15.ext)
   replace hB1 := hB1.ext hn15.ext
   replace hQ := hQ.ext hn15.ext
   replace hB11 := hB11.ext hn15.ext
   replace hOA := hOA.ext hn15.ext
   replace hB9 := hB9.ext hn15.ext
   replace hOB := hOB.ext hn15.ext
   replace hB12 := hB12.ext hn15.ext
   replace hOC := hOC.ext hn15.ext
   have hB15 := hn15.blk
   refine L_op0 (X_storeW (b := b15) (ys := [(.int .i64 (oC.sz)), oC.uv, oC.lv]) A25 rfl rfl (List.forall_mem_cons.2 ⟨rfl, (List.forall_mem_cons.2 ⟨(hvC1.one), (List.forall_mem_cons.2 ⟨(hvC2.one), (fun _ h => by cases h)⟩)⟩)⟩) rfl hB15 rfl ?_)
   intro w16 hu16 hb16
   have hz16 := hu16.size
   replace hs := hs.upd hu16 fun i h1 h2 h => by have h : i = b15 := h; omega
   replace hU := hU.trans (hu16.mono fun i _ h => by have h : i = b15 := h; show n0 ≤ i; omega)
   replace hB1 := hB1.upd hu16 fun h => by have h : b1 = b15 := h; omega
   replace hQ := hQ.upd hu16 fun i h1 h2 h => by have h : i = b15 := h; omega
   replace hB11 := hB11.upd hu16 fun h => by have h : b11 = b15 := h; omega
   replace hOA := hOA.upd hu16 fun i h1 h2 h => by have h : i = b15 := h; omega
   replace hB9 := hB9.upd hu16 fun h => by have h : b9 = b15 := h; omega
   replace hOB := hOB.upd hu16 fun i h1 h2 h => by have h : i = b15 := h; omega
   replace hB12 := hB12.upd hu16 fun h => by have h : b12 = b15 := h; omega
   replace hOC := hOC.upd hu16 fun i h1 h2 h => by have h : i = b15 := h; omega
   replace hB15 : Blk w16 b15 #[(.int .i64 (oC.sz)), oC.uv, oC.lv] 25 := hb16
   refine L_op rfl (X_assign (v := (.int .i64 (rC1))) rfl ?_)
   refine L_nil ?_
   refine T_n ?_
   refine W_seq ?_
   refine W_seq ?_
   refine W_reg ?_
   refine L_op rfl (X_loadA (p := (ptr b9 (0))) (xs := [(.int .i64 (oA.sz)), oA.uv, oA.lv]) A25 rfl hB9.atAll rfl ?_)
   refine L_op rfl (X_loadA (p := (ptr b12 (0))) (xs := [(.int .i64 (oB.sz)), oB.uv, oB.lv]) A25 rfl hB12.atAll rfl ?_)
   refine L_op rfl (X_loadA (p := (ptr b15 (0))) (xs := [(.int .i64 (oC.sz)), oC.uv, oC.lv]) A25 rfl hB15.atAll rfl ?_)
   refine L_op rfl (X_buildSliceL (vs := [(.agg ([(.int .i64 (oA.sz)), oA.uv, oA.lv]).toArray), (.agg ([(.int .i64 (oB.sz)), oB.uv, oB.lv]).toArray), (.agg ([(.int .i64 (oC.sz)), oC.uv, oC.lv]).toArray)]) (c := [(.int .i64 (oA.sz)), oA.uv, oA.lv, (.int .i64 (oB.sz)), oB.uv, oB.lv, (.int .i64 (oC.sz)), oC.uv, oC.lv]) S42 (by decide) rfl rfl (List.forall_mem_cons.2 ⟨rfl, (List.forall_mem_cons.2 ⟨rfl, (List.forall_mem_cons.2 ⟨rfl, (fun _ h => by cases h)⟩)⟩)⟩) rfl ?_)
   intro b17 w17 hn17
   have hbn17 := hn17.num; have hbs17 := hn17.size
   replace hs := hs.ext hn17.ext
   replace hU := hU.trans (Ext.upd hn17.ext)
   replace hB1 := hB1.ext hn17.ext
   replace hQ := hQ.ext hn17.ext
   replace hB11 := hB11.ext hn17.ext
   replace hOA := hOA.ext hn17.ext
   replace hB9 := hB9.ext hn17.ext
   replace hOB := hOB.ext hn17.ext
   replace hB12 := hB12.ext hn17.ext
   replace hOC := hOC.ext hn17.ext
   replace hB15 := hB15.ext hn17.ext
   have hB17 := hn17.blk
   refine L_op rfl (X_len (v := (.slice (some ⟨b17, 0, none⟩) 3 3)) (n := 3) Try.underlying42 rfl (hB17.own (B := 0) (n := 3) (c := 3) (sz := 3) (Nat.zero_le _) (Nat.le_refl _) (by decide) (Nat.le_refl 9)).sv ?_)
   refine L_op rfl (X_move (v := (.int .i64 (0))) rfl ?_)
   refine L_nil ?_
   refine T_n ?_
   refine W_block ?_
   refine W_unroll 4 ?_
   refine Rounds_s (m := 3) ?_
   have hRu := hOA.1; have hRl := hOA.2
   refine W_seq ?_
   refine W_reg ?_
   refine L_op rfl (X_cmp (k := .i64) (a := 0) (b := 3) (r := true) rfl rfl rfl rfl ?_)
   refine L_nil ?_
   refine T_n ?_
   refine W_seq ?_
   refine W_ct rfl ?_
   refine W_skip ?_
   refine T_n ?_
   refine W_seq ?_
   refine W_block ?_
   refine W_seq ?_
   refine W_reg ?_
   refine L_op rfl (X_idx (v := (.slice (some ⟨b17, 0, none⟩) 3 3)) (n := 3) (k := .i64) (i := 0) S42 rfl (hB17.own (B := 0) (n := 3) (c := 3) (sz := 3) (Nat.zero_le _) (Nat.le_refl _) (by decide) (Nat.le_refl 9)).sv rfl (by omega) (by omega) ?_)
   have hat_ : At w17 ((pof (.slice (some ⟨b17, 0, none⟩) 3 3) ((0 : Int).toNat * 3))) [(.int .i64 (oA.sz)), oA.uv, oA.lv] := by rw [row_at]; exact hB17.at_ 0 _ (fun k u hk => by rcases k with _ | _ | _ | k <;> first | exact hk | cases hk)
   refine L_op rfl (X_loadA (xs := [(.int .i64 (oA.sz)), oA.uv, oA.lv]) A25 rfl hat_ rfl ?_)
   refine L_op rfl (X_alloc (z := (.agg #[(.int .i64 (0)), (.slice none 0 0), (.slice none 0 0)])) (c := #[(.int .i64 (0)), (.slice none 0 0), (.slice none 0 0)]) Zv25 rfl ?_)
   intro b18 w18 hn18
   have hbn18 := hn18.num; have hbs18 := hn18.size
   replace hs := hs.ext hn18.ext
   replace hU := hU.trans (Ext.upd hn18.ext)
   replace hB1 := hB1.ext hn18.ext
   replace hQ := hQ.ext hn18.ext
   replace hB11 := hB11.ext hn18.ext
   replace hB9 := hB9.ext hn18.ext
   replace hOB := hOB.ext hn18.ext
   replace hB12 := hB12.ext hn18.ext
   replace hOC := hOC.ext hn18.ext
   replace hB15 := hB15.ext hn18.ext
   replace hB17 := hB17.ext hn18.ext
   replace hRu := hRu.ext hn18.ext
   replace hRl := hRl.ext hn18.ext
   have hB18 := hn18.blk
   refine L_op0 (X_storeW (b := b18) (ys := [(.int .i64 (oA.sz)), oA.uv, oA.lv]) A25 rfl rfl (List.forall_mem_cons.2 ⟨rfl, (List.forall_mem_cons.2 ⟨(hvA1.one), (List.forall_mem_cons.2 ⟨(hvA2.one), (fun _ h => by cases h)⟩)⟩)⟩) rfl hB18 rfl ?_)
   intro w19 hu19 hb19
   have hz19 := hu19.size
   replace hs := hs.upd hu19 fun i h1 h2 h => by have h : i = b18 := h; omega
   replace hU := hU.trans (hu19.mono fun i _ h => by have h : i = b18 := h; show n0 ≤ i; omega)
   replace hB1 := hB1.upd hu19 fun h => by have h : b1 = b18 := h; omega
   replace hQ := hQ.upd hu19 fun i h1 h2 h => by have h : i = b18 := h; omega
   replace hB11 := hB11.upd hu19 fun h => by have h : b11 = b18 := h; omega
   replace hB9 := hB9.upd hu19 fun h => by have h : b9 = b18 := h; omega
   replace hOB := hOB.upd hu19 fun i h1 h2 h => by have h : i = b18 := h; omega
   replace hB12 := hB12.upd hu19 fun h => by have h : b12 = b18 := h; omega
   replace hOC := hOC.upd hu19 fun i h1 h2 h => by have h : i = b18 := h; omega
   replace hB15 := hB15.upd hu19 fun h => by have h : b15 = b18 := h; omega
   replace hB17 := hB17.upd hu19 fun h => by have h : b17 = b18 := h; omega
   replace hRu := hRu.upd hu19 fun i h1 h2 h => by have h : i = b18 := h; omega
   replace hRl := hRl.upd hu19 fun i h1 h2 h => by have h : i = b18 := h; omega
   replace hB18 : Blk w19 b18 #[(.int .i64 (oA.sz)), oA.uv, oA.lv] 25 := hb19
   refine L_nil ?_
   refine T_n ?_
   refine W_seq ?_
   refine W_seq ?_
   refine W_reg ?_
   refine L_op rfl (X_assign (v := (.int .i64 (0))) rfl ?_)
   refine L_nil ?_
   refine T_n ?_
   refine W_block ?_
   refine W_loop (α := Nat × List Bool) [19, 69, 70, 71, 72, 73, 74, 75, 76, 77, 78, 79, 80, 81, 82, 83, 84, 85] (fun ⟨i, xs⟩ => [(19, (.int .i64 (((i : Nat) : Int))))]) (fun ⟨i, xs⟩ w_ => i ≤ xs.length ∧ xs.length = oA.us.length ∧ NOwn LBo w_ 4 5 sA uA oA.uv xs ∧ NOwn LL w_ 44 5 sA uA oA.lv oA.ls ∧ s.Rd w_ 0 n0 ∧ (⟨s.sz, v0 5, v0 9, s.us, s.ls⟩ : Sp).Rd w_ s0 eQ ∧ oB.Ow w_ sB uB ∧ oC.Ow w_ sC uC ∧ Blk w_ b1 #[(.int .i64 (s.sz)), s.uv, s.lv] 25 ∧ Blk w_ b9 #[(.int .i64 (oA.sz)), oA.uv, oA.lv] 25 ∧ Blk w_ b18 #[(.int .i64 (oA.sz)), oA.uv, oA.lv] 25 ∧ Blk w_ b11 #[(.int .i64 (s.sz)), (v0 5), (v0 9)] 25 ∧ Blk w_ b17 #[(.int .i64 (oA.sz)), oA.uv, oA.lv, (.int .i64 (oB.sz)), oB.uv, oB.lv, (.int .i64 (oC.sz)), oC.uv, oC.lv] 25 ∧ Upd (fun i => n0 ≤ i) w w_ ∧ uC ≤ w_.heap.size) (fun ⟨i, xs⟩ => xs.length - i) ⟨rfl, (0, oA.us), ⟨Nat.zero_le _, rfl, hRu, hRl, hs, hQ, hOB, hOC, hB1, hB9, hB18, hB11, hB17, hU, by omega⟩, Out.refl _ _, ⟨rfl, trivial⟩⟩ ?_
   rintro ⟨i, xs⟩ w20 _ ⟨hil, hxl, hRu, hRl, hs, hQ, hOB, hOC, hB1, hB9, hB18, hB11, hB17, hU, huCw⟩
   have hsz_ := hU.size
   have hsvx := hRu.1.sv
   have hmx_ := hsvx.len
   have hbl4_ := hB1.lt
   have hbl10_ := hB9.lt
   have hbl18_ := hB18.lt
   have hbl9_ := hB11.lt
   have hbl63_ := hB17.lt
   refine W_seq ?_
   refine W_seq ?_
   refine W_reg ?_
   refine L_op rfl (X_move (v := (.int .i64 (((i : Nat) : Int)))) rfl ?_)
   refine L_op rfl (X_fldP (b := b18) (o := 0) (r := 1) Fd25_1 rfl rfl ?_)
   refine L_op rfl (X_load (p := (ptr b18 (1))) (v := oA.uv) T22 rfl (hB18.at1 rfl) ?_)
   refine L_op rfl (X_len (v := oA.uv) (n := xs.length) Try.underlying22 rfl hsvx ?_)
   by_cases hc21 : (((i : Nat) : Int) : Int) < (((xs.length : Nat) : Int))
   ·refine L_op rfl (X_cmp (k := .i64) (a := ((i : Nat) : Int)) (b := ((xs.length : Nat) : Int)) (r := true) rfl rfl rfl (decide_eq_true (p := ((((i : Nat) : Int)) : Int) < ((((xs.length : Nat) : Int)) : Int)) (by omega)) ?_)
    obtain ⟨bi, hbi⟩ : ∃ b, xs[i]? = some b := ⟨_, List.getElem?_eq_getElem (by omega)⟩
    refine L_nil ?_
    refine T_n ?_
    refine W_ct rfl ?_
    refine W_skip ?_
    refine T_n ?_
    refine W_seq ?_
    refine W_block ?_
    rcases Bool.eq_false_or_eq_true (bi) with hs22 | hs22
    ·rw [hs22] at hbi
     refine W_draw 9 [[], [0], [], [], [3], [], [3, 4, 5], [3, 4, 5, 6], [3, 4, 5, 6, 7], [0, 1, 2, 3, 4, 5, 6, 7, 8], [0, 1, 2, 3, 4, 5, 6, 7, 8, 9]] mixed (by kernel_rfl) ?_
     refine ⟨.det (fun val => (ptr b18 (1))), ⟨fun _ _ hv => rfl, fun _ _ _ _ _ => trivial⟩, fun val h_ W hx he => ⟨trivial, ?_⟩, ?_⟩
     ·exact X_fldP (b := b18) (o := 0) (r := 1) Fd25_1 rfl rfl ⟨Upd.refl _ _, rfl⟩
     refine ⟨.det (fun val => oA.uv), ⟨fun _ _ hv => rfl, fun _ _ _ _ _ => trivial⟩, fun val h_ W hx he => ⟨trivial, ?_⟩, ?_⟩
     ·replace hx := (Upd.drew _ _).trans hx
      replace hB18 := hB18.ext hx
      refine id (X_load (p := (ptr b18 (1))) (v := oA.uv) T22 rfl (hB18.at1 rfl) ?_)
      exact ⟨Upd.refl _ _, rfl⟩
     refine ⟨.det (fun val => (.int .i64 (((i : Nat) : Int)))), ⟨fun _ _ hv => rfl, fun _ _ _ _ _ => trivial⟩, fun val h_ W hx he => ⟨trivial, ?_⟩, ?_⟩
     ·exact X_move (v := (.int .i64 (((i : Nat) : Int)))) rfl ⟨Upd.refl _ _, rfl⟩
     refine ⟨.det (fun val => (ptr b18 (1))), ⟨fun _ _ hv => rfl, fun _ _ _ _ _ => trivial⟩, fun val h_ W hx he => ⟨trivial, ?_⟩, ?_⟩
     ·exact X_fldP (b := b18) (o := 0) (r := 1) Fd25_1 rfl rfl ⟨Upd.refl _ _, rfl⟩
     refine ⟨.det (fun val => oA.uv), ⟨fun _ _ hv => rfl, fun _ _ _ _ _ => trivial⟩, fun val h_ W hx he => ⟨trivial, ?_⟩, ?_⟩
     ·replace hx := (Upd.drew _ _).trans hx
      replace hB18 := hB18.ext hx
      refine id (X_load (p := (ptr b18 (1))) (v := oA.uv) T22 rfl (hB18.at1 rfl) ?_)
      exact ⟨Upd.refl _ _, rfl⟩
     refine ⟨.det (fun val => (.int .i64 (((i : Nat) : Int)))), ⟨fun _ _ hv => rfl, fun _ _ _ _ _ => trivial⟩, fun val h_ W hx he => ⟨trivial, ?_⟩, ?_⟩
     ·exact X_move (v := (.int .i64 (((i : Nat) : Int)))) rfl ⟨Upd.refl _ _, rfl⟩
     refine ⟨.det (fun val => (pof oA.uv ((((i : Nat) : Int) : Int).toNat * 1))), ⟨fun _ _ hv => rfl, fun _ _ _ _ _ => trivial⟩, fun val h_ W hx he => ⟨trivial, ?_⟩, ?_⟩
     ·exact X_idx (v := oA.uv) (n := xs.length) (k := .i64) (i := ((i : Nat) : Int)) S22 rfl hsvx rfl (by omega) (by omega) ⟨Upd.refl _ _, rfl⟩
     refine ⟨.det (fun val => (.bool (true))), ⟨fun _ _ hv => rfl, fun _ _ _ _ _ => trivial⟩, fun val h_ W hx he => ⟨trivial, ?_⟩, ?_⟩
     ·replace hx := (Upd.drew _ _).trans hx
      replace hRu := hRu.ext hx
      refine id (X_load (p := (pof oA.uv ((((i : Nat) : Int) : Int).toNat * 1))) (v := .bool true) T4 rfl (bat hRu.rd (Int.toNat_natCast _) hbi) ?_)
      exact ⟨Upd.refl _ _, rfl⟩
     refine ⟨.det (fun val => (.bool (false))), ⟨fun _ _ hv => rfl, fun _ _ _ _ _ => trivial⟩, fun val h_ W hx he => ⟨trivial, ?_⟩, ?_⟩
     ·exact X_not (b := true) (r := false) rfl rfl ⟨Upd.refl _ _, rfl⟩
     intro val W23 hx23 he23
     replace hx23 := (Upd.drew _ _).trans hx23
     have hz23 := hx23.size
     replace hRu := hRu.ext hx23
     replace hRl := hRl.ext hx23
     replace hs := hs.ext hx23
     replace hQ := hQ.ext hx23
     replace hOB := hOB.ext hx23
     replace hOC := hOC.ext hx23
     replace hB1 := hB1.ext hx23
     replace hB9 := hB9.ext hx23
     replace hB18 := hB18.ext hx23
     replace hB11 := hB11.ext hx23
     replace hB17 := hB17.ext hx23
     replace hU := hU.trans (Ext.upd hx23)
     refine L_op rfl (X_idx (v := oA.uv) (n := xs.length) (k := .i64) (i := ((i : Nat) : Int)) S22 rfl hsvx rfl (by omega) (by omega) ?_)
     refine L_op0 (X_storeOwnC (i := ((i : Nat) : Int).toNat * 1) (v := oA.uv) (u := .bool false) T4 hRu.1 (by show _ < xs.length * 1; omega) rfl rfl rfl ?_)
     intro w6 hO6 hu6
     have hz6_ := hu6.size
     rw [show ((i : Nat) : Int).toNat * 1 = i by omega, lbo_set hbi] at hO6
     have hU6 : NOwn LBo w6 4 5 sA uA oA.uv (xs.set i false) := NOwn.of (fun _ => rfl) (hO6.eq (by rw [List.length_set]) rfl) hRu.2.1
     replace hRl := nown_up (fun _ => rfl) hRl hu6 fun b h1 h2 => absurd (hRl.1.types hRu.1 h1 h2) (by decide)
     replace hs := hs.upd hu6 fun i h1 h2 h => by have h1_ := hRu.1.lt h; have h2_ := hRu.2.1 _ h; omega
     replace hQ := hQ.upd hu6 fun i h1 h2 h => by have h1_ := hRu.1.lt h; have h2_ := hRu.2.1 _ h; omega
     replace hOB := hOB.upd hu6 fun i h1 h2 h => by have h1_ := hRu.1.lt h; have h2_ := hRu.2.1 _ h; omega
     replace hOC := hOC.upd hu6 fun i h1 h2 h => by have h1_ := hRu.1.lt h; have h2_ := hRu.2.1 _ h; omega
     replace hB1 := hB1.upd hu6 fun h => by have h1_ := hRu.1.lt h; have h2_ := hRu.2.1 _ h; omega
     replace hB9 := hB9.upd hu6 fun h => by have h1_ := hRu.1.lt h; have h2_ := hRu.2.1 _ h; omega
     replace hB18 := hB18.upd hu6 fun h => by have h1_ := hRu.1.lt h; have h2_ := hRu.2.1 _ h; omega
     replace hB11 := hB11.upd hu6 fun h => by have h1_ := hRu.1.lt h; have h2_ := hRu.2.1 _ h; omega
     replace hB17 := hB17.upd hu6 fun h => by have h1_ := hRu.1.lt h; have h2_ := hRu.2.1 _ h; omega
     replace hU := hU.trans (hu6.mono fun i _ h => by have h1_ := hRu.1.lt h; have h2_ := hRu.2.1 _ h; show n0 ≤ i; omega)
     replace hRu := hU6
     refine L_nil ?_
     refine B_n ?_
     refine T_n ?_
     refine W_reg ?_
     refine L_op rfl (X_move (v := (.int .i64 (((i : Nat) : Int)))) rfl ?_)
     refine L_op rfl (X_arith (k := .i64) (a := ((i : Nat) : Int)) (b := 1) (r := ((i + 1 : Nat) : Int)) rfl rfl rfl (iadd64 (by omega) (by omega) (by omega)) ?_)
     refine L_op rfl (X_assign (v := (.int .i64 (((i + 1 : Nat) : Int)))) rfl ?_)
     refine L_nil ?_
     refine T_n ?_
     exact ⟨rfl, (i + 1, xs.set i false), ⟨⟨by rw [List.length_set]; omega, by rw [List.length_set]; exact hxl, hRu, hRl, hs, hQ, hOB, hOC, hB1, hB9, hB18, hB11, hB17, hU, by omega⟩, (by show (xs.set i _).length - (i + 1) < xs.length - i; rw [List.length_set]; omega)⟩, (Out.mk rfl), ⟨rfl, trivial⟩⟩
    ·rw [hs22] at hbi
     refine W_draw 9 [[], [0], [], [], [3], [], [3, 4, 5], [3, 4, 5, 6], [3, 4, 5, 6, 7], [0, 1, 2, 3, 4, 5, 6, 7, 8], [0, 1, 2, 3, 4, 5, 6, 7, 8, 9]] mixed (by kernel_rfl) ?_
     refine ⟨.det (fun val => (ptr b18 (1))), ⟨fun _ _ hv => rfl, fun _ _ _ _ _ => trivial⟩, fun val h_ W hx he => ⟨trivial, ?_⟩, ?_⟩
     ·exact X_fldP (b := b18) (o := 0) (r := 1) Fd25_1 rfl rfl ⟨Upd.refl _ _, rfl⟩
     refine ⟨.det (fun val => oA.uv), ⟨fun _ _ hv => rfl, fun _ _ _ _ _ => trivial⟩, fun val h_ W hx he => ⟨trivial, ?_⟩, ?_⟩
     ·replace hx := (Upd.drew _ _).trans hx
      replace hB18 := hB18.ext hx
      refine id (X_load (p := (ptr b18 (1))) (v := oA.uv) T22 rfl (hB18.at1 rfl) ?_)
      exact ⟨Upd.refl _ _, rfl⟩
     refine ⟨.det (fun val => (.int .i64 (((i : Nat) : Int)))), ⟨fun _ _ hv => rfl, fun _ _ _ _ _ => trivial⟩, fun val h_ W hx he => ⟨trivial, ?_⟩, ?_⟩
     ·exact X_move (v := (.int .i64 (((i : Nat) : Int)))) rfl ⟨Upd.refl _ _, rfl⟩
     refine ⟨.det (fun val => (ptr b18 (1))), ⟨fun _ _ hv => rfl, fun _ _ _ _ _ => trivial⟩, fun val h_ W hx he => ⟨trivial, ?_⟩, ?_⟩
     ·exact X_fldP (b := b18) (o := 0) (r := 1) Fd25_1 rfl rfl ⟨Upd.refl _ _, rfl⟩
     refine ⟨.det (fun val => oA.uv), ⟨fun _ _ hv => rfl, fun _ _ _ _ _ => trivial⟩, fun val h_ W hx he => ⟨trivial, ?_⟩, ?_⟩
     ·replace hx := (Upd.drew _ _).trans hx
      replace hB18 := hB18.ext hx
      refine id (X_load (p := (ptr b18 (1))) (v := oA.uv) T22 rfl (hB18.at1 rfl) ?_)
      exact ⟨Upd.refl _ _, rfl⟩
     refine ⟨.det (fun val => (.int .i64 (((i : Nat) : Int)))), ⟨fun _ _ hv => rfl, fun _ _ _ _ _ => trivial⟩, fun val h_ W hx he => ⟨trivial, ?_⟩, ?_⟩
     ·exact X_move (v := (.int .i64 (((i : Nat) : Int)))) rfl ⟨Upd.refl _ _, rfl⟩
     refine ⟨.det (fun val => (pof oA.uv ((((i : Nat) : Int) : Int).toNat * 1))), ⟨fun _ _ hv => rfl, fun _ _ _ _ _ => trivial⟩, fun val h_ W hx he => ⟨trivial, ?_⟩, ?_⟩
     ·exact X_idx (v := oA.uv) (n := xs.length) (k := .i64) (i := ((i : Nat) : Int)) S22 rfl hsvx rfl (by omega) (by omega) ⟨Upd.refl _ _, rfl⟩
     refine ⟨.det (fun val => (.bool (false))), ⟨fun _ _ hv => rfl, fun _ _ _ _ _ => trivial⟩, fun val h_ W hx he => ⟨trivial, ?_⟩, ?_⟩
     ·replace hx := (Upd.drew _ _).trans hx
      replace hRu := hRu.ext hx
      refine id (X_load (p := (pof oA.uv ((((i : Nat) : Int) : Int).toNat * 1))) (v := .bool false) T4 rfl (bat hRu.rd (Int.toNat_natCast _) hbi) ?_)
      exact ⟨Upd.refl _ _, rfl⟩
     refine ⟨.det (fun val => (.bool (true))), ⟨fun _ _ hv => rfl, fun _ _ _ _ _ => trivial⟩, fun val h_ W hx he => ⟨trivial, ?_⟩, ?_⟩
     ·exact X_not (b := false) (r := true) rfl rfl ⟨Upd.refl _ _, rfl⟩
     intro val W24 hx24 he24
     replace hx24 := (Upd.drew _ _).trans hx24
     have hz24 := hx24.size
     replace hRu := hRu.ext hx24
     replace hRl := hRl.ext hx24
     replace hs := hs.ext hx24
     replace hQ := hQ.ext hx24
     replace hOB := hOB.ext hx24
     replace hOC := hOC.ext hx24
     replace hB1 := hB1.ext hx24
     replace hB9 := hB9.ext hx24
     replace hB18 := hB18.ext hx24
     replace hB11 := hB11.ext hx24
     replace hB17 := hB17.ext hx24
     replace hU := hU.trans (Ext.upd hx24)
     refine L_op rfl (X_idx (v := oA.uv) (n := xs.length) (k := .i64) (i := ((i : Nat) : Int)) S22 rfl hsvx rfl (by omega) (by omega) ?_)
     refine L_op0 (X_storeOwnC (i := ((i : Nat) : Int).toNat * 1) (v := oA.uv) (u := .bool true) T4 hRu.1 (by show _ < xs.length * 1; omega) rfl rfl rfl ?_)
     intro w6 hO6 hu6
     have hz6_ := hu6.size
     rw [show ((i : Nat) : Int).toNat * 1 = i by omega, lbo_set hbi] at hO6
     have hU6 : NOwn LBo w6 4 5 sA uA oA.uv (xs.set i true) := NOwn.of (fun _ => rfl) (hO6.eq (by rw [List.length_set]) rfl) hRu.2.1
     replace hRl := nown_up (fun _ => rfl) hRl hu6 fun b h1 h2 => absurd (hRl.1.types hRu.1 h1 h2) (by decide)
     replace hs := hs.upd hu6 fun i h1 h2 h => by have h1_ := hRu.1.lt h; have h2_ := hRu.2.1 _ h; omega
     replace hQ := hQ.upd hu6 fun i h1 h2 h => by have h1_ := hRu.1.lt h; have h2_ := hRu.2.1 _ h; omega
     replace hOB := hOB.upd hu6 fun i h1 h2 h => by have h1_ := hRu.1.lt h; have h2_ := hRu.2.1 _ h; omega
     replace hOC := hOC.upd hu6 fun i h1 h2 h => by have h1_ := hRu.1.lt h; have h2_ := hRu.2.1 _ h; omega
     replace hB1 := hB1.upd hu6 fun h => by have h1_ := hRu.1.lt h; have h2_ := hRu.2.1 _ h; omega
     replace hB9 := hB9.upd hu6 fun h => by have h1_ := hRu.1.lt h; have h2_ := hRu.2.1 _ h; omega
     replace hB18 := hB18.upd hu6 fun h => by have h1_ := hRu.1.lt h; have h2_ := hRu.2.1 _ h; omega
     replace hB11 := hB11.upd hu6 fun h => by have h1_ := hRu.1.lt h; have h2_ := hRu.2.1 _ h; omega
     replace hB17 := hB17.upd hu6 fun h => by have h1_ := hRu.1.lt h; have h2_ := hRu.2.1 _ h; omega
     replace hU := hU.trans (hu6.mono fun i _ h => by have h1_ := hRu.1.lt h; have h2_ := hRu.2.1 _ h; show n0 ≤ i; omega)
     replace hRu := hU6
     refine L_nil ?_
     refine B_n ?_
     refine T_n ?_
     refine W_reg ?_
     refine L_op rfl (X_move (v := (.int .i64 (((i : Nat) : Int)))) rfl ?_)
     refine L_op rfl (X_arith (k := .i64) (a := ((i : Nat) : Int)) (b := 1) (r := ((i + 1 : Nat) : Int)) rfl rfl rfl (iadd64 (by omega) (by omega) (by omega)) ?_)
     refine L_op rfl (X_assign (v := (.int .i64 (((i + 1 : Nat) : Int)))) rfl ?_)
     refine L_nil ?_
     refine T_n ?_
     exact ⟨rfl, (i + 1, xs.set i true), ⟨⟨by rw [List.length_set]; omega, by rw [List.length_set]; exact hxl, hRu, hRl, hs, hQ, hOB, hOC, hB1, hB9, hB18, hB11, hB17, hU, by omega⟩, (by show (xs.set i _).length - (i + 1) < xs.length - i; rw [List.length_set]; omega)⟩, (Out.mk rfl), ⟨rfl, trivial⟩⟩
   ·refine L_op rfl (X_cmp (k := .i64) (a := ((i : Nat) : Int)) (b := ((xs.length : Nat) : Int)) (r := false) rfl rfl rfl (decide_eq_false (p := ((((i : Nat) : Int)) : Int) < ((((xs.length : Nat) : Int)) : Int)) (by omega)) ?_)
    refine L_nil ?_
    refine T_n ?_
    refine W_cf rfl ?_
    refine W_exit ?_
    refine T_e ?_
    refine T_e ?_
    refine B_x ?_
    refine T_n ?_
    refine W_seq ?_
    refine W_reg ?_
    refine L_op rfl (X_assign (v := (.int .i64 (0))) rfl ?_)
    refine L_nil ?_
    refine T_n ?_
    refine W_block ?_
    refine W_loop (α := Nat × List La) [20, 86, 87, 88, 89, 90, 91, 92, 93, 94, 95, 96, 97] (fun ⟨i, xs⟩ => [(20, (.int .i64 (((i : Nat) : Int))))]) (fun ⟨i, xs⟩ w_ => i ≤ xs.length ∧ xs.length = oA.ls.length ∧ NOwn LL w_ 44 5 sA uA oA.lv xs ∧ s.Rd w_ 0 n0 ∧ (⟨s.sz, v0 5, v0 9, s.us, s.ls⟩ : Sp).Rd w_ s0 eQ ∧ oB.Ow w_ sB uB ∧ oC.Ow w_ sC uC ∧ Blk w_ b1 #[(.int .i64 (s.sz)), s.uv, s.lv] 25 ∧ Blk w_ b9 #[(.int .i64 (oA.sz)), oA.uv, oA.lv] 25 ∧ Blk w_ b18 #[(.int .i64 (oA.sz)), oA.uv, oA.lv] 25 ∧ Blk w_ b11 #[(.int .i64 (s.sz)), (v0 5), (v0 9)] 25 ∧ Blk w_ b17 #[(.int .i64 (oA.sz)), oA.uv, oA.lv, (.int .i64 (oB.sz)), oB.uv, oB.lv, (.int .i64 (oC.sz)), oC.uv, oC.lv] 25 ∧ Upd (fun i => n0 ≤ i) w w_ ∧ uC ≤ w_.heap.size) (fun ⟨i, xs⟩ => xs.length - i) ⟨rfl, (0, oA.ls), ⟨Nat.zero_le _, rfl, hRl, hs, hQ, hOB, hOC, hB1, hB9, hB18, hB11, hB17, hU, by omega⟩, Out.refl _ _, ⟨rfl, trivial⟩⟩ ?_
    rintro ⟨i, xs⟩ w25 _ ⟨hil, hxl, hRl, hs, hQ, hOB, hOC, hB1, hB9, hB18, hB11, hB17, hU, huCw⟩
    have hsz_ := hU.size
    have hsvx := hRl.1.sv
    have hmx_ := hsvx.len
    have hbl4_ := hB1.lt
    have hbl10_ := hB9.lt
    have hbl18_ := hB18.lt
    have hbl9_ := hB11.lt
    have hbl63_ := hB17.lt
    refine W_seq ?_
    refine W_seq ?_
    refine W_reg ?_
    refine L_op rfl (X_move (v := (.int .i64 (((i : Nat) : Int)))) rfl ?_)
    refine L_op rfl (X_fldP (b := b18) (o := 0) (r := 2) Fd25_2 rfl rfl ?_)
    refine L_op rfl (X_load (p := (ptr b18 (2))) (v := oA.lv) T23 rfl (hB18.at1 rfl) ?_)
    refine L_op rfl (X_len (v := oA.lv) (n := xs.length) Try.underlying23 rfl hsvx ?_)
    by_cases hc26 : (((i : Nat) : Int) : Int) < (((xs.length : Nat) : Int))
    ·refine L_op rfl (X_cmp (k := .i64) (a := ((i : Nat) : Int)) (b := ((xs.length : Nat) : Int)) (r := true) rfl rfl rfl (decide_eq_true (p := ((((i : Nat) : Int)) : Int) < ((((xs.length : Nat) : Int)) : Int)) (by omega)) ?_)
     refine L_nil ?_
     refine T_n ?_
     refine W_ct rfl ?_
     refine W_skip ?_
     refine T_n ?_
     refine W_seq ?_
     refine W_block ?_
     refine W_reg ?_
     refine L_op rfl (X_fldP (b := b18) (o := 0) (r := 2) Fd25_2 rfl rfl ?_)
     refine L_op rfl (X_load (p := (ptr b18 (2))) (v := oA.lv) T23 rfl (hB18.at1 rfl) ?_)
     refine L_op rfl (X_move (v := (.int .i64 (((i : Nat) : Int)))) rfl ?_)
     refine L_op rfl (X_build built44m ?_)
     refine L_op rfl (X_idx (v := oA.lv) (n := xs.length) (k := .i64) (i := ((i : Nat) : Int)) S23 rfl hsvx rfl (by omega) (by omega) ?_)
     refine L_op0 (X_storeOwnA (i := ((i : Nat) : Int).toNat * 2) (m := 2) (v := oA.lv) (ys := LL.cel ((-1 : Int), (0 : Int))) A44 hRl.1 (by show _ ≤ xs.length * 2; omega) (by decide) rfl rfl (LL.one _ (fun _ h => by cases h)) rfl ?_)
     intro w6 hO6 hu6
     have hz6_ := hu6.size
     have hL6 : NOwn LL w6 44 5 sA uA oA.lv (xs.set i ((-1 : Int), (0 : Int))) := NOwn.of (fun _ => rfl) (hO6.eq (by rw [List.length_set]) (by rw [flat_setA (L := LL) (by omega)]; show _ ++ LL.cel ((-1 : Int), (0 : Int)) ++ _ = _; rw [Int.toNat_natCast]; rfl)) hRl.2.1
     replace hs := hs.upd hu6 fun i h1 h2 h => by have h1_ := hRl.1.lt h; have h2_ := hRl.2.1 _ h; omega
     replace hQ := hQ.upd hu6 fun i h1 h2 h => by have h1_ := hRl.1.lt h; have h2_ := hRl.2.1 _ h; omega
     replace hOB := hOB.upd hu6 fun i h1 h2 h => by have h1_ := hRl.1.lt h; have h2_ := hRl.2.1 _ h; omega
     replace hOC := hOC.upd hu6 fun i h1 h2 h => by have h1_ := hRl.1.lt h; have h2_ := hRl.2.1 _ h; omega
     replace hB1 := hB1.upd hu6 fun h => by have h1_ := hRl.1.lt h; have h2_ := hRl.2.1 _ h; omega
     replace hB9 := hB9.upd hu6 fun h => by have h1_ := hRl.1.lt h; have h2_ := hRl.2.1 _ h; omega
     replace hB18 := hB18.upd hu6 fun h => by have h1_ := hRl.1.lt h; have h2_ := hRl.2.1 _ h; omega
     replace hB11 := hB11.upd hu6 fun h => by have h1_ := hRl.1.lt h; have h2_ := hRl.2.1 _ h; omega
     replace hB17 := hB17.upd hu6 fun h => by have h1_ := hRl.1.lt h; have h2_ := hRl.2.1 _ h; omega
     replace hU := hU.trans (hu6.mono fun i _ h => by have h1_ := hRl.1.lt h; have h2_ := hRl.2.1 _ h; show n0 ≤ i; omega)
     replace hRl := hL6
     refine L_nil ?_
     refine B_n ?_
     refine T_n ?_
     refine W_reg ?_
     refine L_op rfl (X_move (v := (.int .i64 (((i : Nat) : Int)))) rfl ?_)
     refine L_op rfl (X_arith (k := .i64) (a := ((i : Nat) : Int)) (b := 1) (r := ((i + 1 : Nat) : Int)) rfl rfl rfl (iadd64 (by omega) (by omega) (by omega)) ?_)
     refine L_op rfl (X_assign (v := (.int .i64 (((i + 1 : Nat) : Int)))) rfl ?_)
     refine L_nil ?_
     refine T_n ?_
     exact ⟨rfl, (i + 1, xs.set i ((-1 : Int), (0 : Int))), ⟨⟨by rw [List.length_set]; omega, by rw [List.length_set]; exact hxl, hRl, hs, hQ, hOB, hOC, hB1, hB9, hB18, hB11, hB17, hU, by omega⟩, (by show (xs.set i _).length - (i + 1) < xs.length - i; rw [List.length_set]; omega)⟩, (Out.mk rfl), ⟨rfl, trivial⟩⟩
    ·refine L_op rfl (X_cmp (k := .i64) (a := ((i : Nat) : Int)) (b := ((xs.length : Nat) : Int)) (r := false) rfl rfl rfl (decide_eq_false (p := ((((i : Nat) : Int)) : Int) < ((((xs.length : Nat) : Int)) : Int)) (by omega)) ?_)
     refine L_nil ?_
     refine T_n ?_
     refine W_cf rfl ?_
     refine W_exit ?_
     refine T_e ?_
     refine T_e ?_
     refine B_x ?_
     refine B_n ?_
     refine T_n ?_
     refine W_reg ?_
     refine L_op rfl (X_arith (k := .i64) (a := 0) (b := 1) (r := 1) rfl rfl rfl rfl ?_)
     refine L_op rfl (X_move (v := (.int .i64 (1))) rfl ?_)
     refine L_nil ?_
     refine T_n ?_
     refine Rounds_s (m := 2) ?_
     have hRu := hOB.1; have hRl := hOB.2
     refine W_seq ?_
     refine W_reg ?_
     refine L_op rfl (X_cmp (k := .i64) (a := 1) (b := 3) (r := true) rfl rfl rfl rfl ?_)
     refine L_nil ?_
     refine T_n ?_
     refine W_seq ?_
     refine W_ct rfl ?_
     refine W_skip ?_
     refine T_n ?_
     refine W_seq ?_
     refine W_block ?_
     refine W_seq ?_
     refine W_reg ?_
     refine L_op rfl (X_idx (v := (.slice (some ⟨b17, 0, none⟩) 3 3)) (n := 3) (k := .i64) (i := 1) S42 rfl (hB17.own (B := 0) (n := 3) (c := 3) (sz := 3) (Nat.zero_le _) (Nat.le_refl _) (by decide) (Nat.le_refl 9)).sv rfl (by omega) (by omega) ?_)
     have hat_ : At w25 ((pof (.slice (some ⟨b17, 0, none⟩) 3 3) ((1 : Int).toNat * 3))) [(.int .i64 (oB.sz)), oB.uv, oB.lv] := by rw [row_at]; exact hB17.at_ 3 _ (fun k u hk => by rcases k with _ | _ | _ | k <;> first | exact hk | cases hk)
     refine L_op rfl (X_loadA (xs := [(.int .i64 (oB.sz)), oB.uv, oB.lv]) A25 rfl hat_ rfl ?_)
     refine L_op rfl (X_alloc (z := (.agg #[(.int .i64 (0)), (.slice none 0 0), (.slice none 0 0)])) (c := #[(.int .i64 (0)), (.slice none 0 0), (.slice none 0 0)]) Zv25 rfl ?_)
     intro b27 w27 hn27
     have hbn27 := hn27.num; have hbs27 := hn27.size
     replace hRl := hRl.ext hn27.ext
     replace hs := hs.ext hn27.ext
     replace hQ := hQ.ext hn27.ext
     replace hOC := hOC.ext hn27.ext
     replace hB1 := hB1.ext hn27.ext
     replace hB9 := hB9.ext hn27.ext
     replace hB18 := hB18.ext hn27.ext
     replace hB11 := hB11.ext hn27.ext
     replace hB17 := hB17.ext hn27.ext
     replace hU := hU.trans (Ext.upd hn27.ext)
     replace hRu := hRu.ext hn27.ext
     have hB27 := hn27.blk
     refine L_op0 (X_storeW (b := b27) (ys := [(.int .i64 (oB.sz)), oB.uv, oB.lv]) A25 rfl rfl (List.forall_mem_cons.2 ⟨rfl, (List.forall_mem_cons.2 ⟨(hvB1.one), (List.forall_mem_cons.2 ⟨(hvB2.one), (fun _ h => by cases h)⟩)⟩)⟩) rfl hB27 rfl ?_)
     intro w28 hu28 hb28
     have hz28 := hu28.size
     replace hRl := hRl.upd hu28 fun i h1 h2 h => by have h : i = b27 := h; omega
     replace hs := hs.upd hu28 fun i h1 h2 h => by have h : i = b27 := h; omega
     replace hQ := hQ.upd hu28 fun i h1 h2 h => by have h : i = b27 := h; omega
     replace hOC := hOC.upd hu28 fun i h1 h2 h => by have h : i = b27 := h; omega
     replace hB1 := hB1.upd hu28 fun h => by have h : b1 = b27 := h; omega
     replace hB9 := hB9.upd hu28 fun h => by have h : b9 = b27 := h; omega
     replace hB18 := hB18.upd hu28 fun h => by have h : b18 = b27 := h; omega
     replace hB11 := hB11.upd hu28 fun h => by have h : b11 = b27 := h; omega
     replace hB17 := hB17.upd hu28 fun h => by have h : b17 = b27 := h; omega
     replace hU := hU.trans (hu28.mono fun i _ h => by have h : i = b27 := h; show n0 ≤ i; omega)
     replace hRu := hRu.upd hu28 fun i h1 h2 h => by have h : i = b27 := h; omega
     replace hB27 : Blk w28 b27 #[(.int .i64 (oB.sz)), oB.uv, oB.lv] 25 := hb28
     refine L_nil ?_
     refine T_n ?_
     refine W_seq ?_
     refine W_seq ?_
     refine W_reg ?_
     refine L_op rfl (X_assign (v := (.int .i64 (0))) rfl ?_)
     refine L_nil ?_
     refine T_n ?_
     refine W_block ?_
     refine W_loop (α := Nat × List Bool) [19, 69, 70, 71, 72, 73, 74, 75, 76, 77, 78, 79, 80, 81, 82, 83, 84, 85] (fun ⟨i, xs⟩ => [(19, (.int .i64 (((i : Nat) : Int))))]) (fun ⟨i, xs⟩ w_ => i ≤ xs.length ∧ xs.length = oB.us.length ∧ NOwn LBo w_ 4 5 sB uB oB.uv xs ∧ NOwn LL w_ 44 5 sB uB oB.lv oB.ls ∧ s.Rd w_ 0 n0 ∧ (⟨s.sz, v0 5, v0 9, s.us, s.ls⟩ : Sp).Rd w_ s0 eQ ∧ oC.Ow w_ sC uC ∧ Blk w_ b1 #[(.int .i64 (s.sz)), s.uv, s.lv] 25 ∧ Blk w_ b9 #[(.int .i64 (oA.sz)), oA.uv, oA.lv] 25 ∧ Blk w_ b27 #[(.int .i64 (oB.sz)), oB.uv, oB.lv] 25 ∧ Blk w_ b11 #[(.int .i64 (s.sz)), (v0 5), (v0 9)] 25 ∧ Blk w_ b17 #[(.int .i64 (oA.sz)), oA.uv, oA.lv, (.int .i64 (oB.sz)), oB.uv, oB.lv, (.int .i64 (oC.sz)), oC.uv, oC.lv] 25 ∧ Upd (fun i => n0 ≤ i) w w_ ∧ uC ≤ w_.heap.size) (fun ⟨i, xs⟩ => xs.length - i) ⟨rfl, (0, oB.us), ⟨Nat.zero_le _, rfl, hRu, hRl, hs, hQ, hOC, hB1, hB9, hB27, hB11, hB17, hU, by omega⟩, Out.refl _ _, ⟨rfl, trivial⟩⟩ ?_
     rintro ⟨i, xs⟩ w29 _ ⟨hil, hxl, hRu, hRl, hs, hQ, hOC, hB1, hB9, hB27, hB11, hB17, hU, huCw⟩
     have hsz_ := hU.size
     have hsvx := hRu.1.sv
     have hmx_ := hsvx.len
     have hbl4_ := hB1.lt
     have hbl10_ := hB9.lt
     have hbl18_ := hB27.lt
     have hbl9_ := hB11.lt
     have hbl63_ := hB17.lt
     refine W_seq ?_
     refine W_seq ?_
     refine W_reg ?_
     refine L_op rfl (X_move (v := (.int .i64 (((i : Nat) : Int)))) rfl ?_)
     refine L_op rfl (X_fldP (b := b27) (o := 0) (r := 1) Fd25_1 rfl rfl ?_)
     refine L_op rfl (X_load (p := (ptr b27 (1))) (v := oB.uv) T22 rfl (hB27.at1 rfl) ?_)
     refine L_op rfl (X_len (v := oB.uv) (n := xs.length) Try.underlying22 rfl hsvx ?_)
     by_cases hc30 : (((i : Nat) : Int) : Int) < (((xs.length : Nat) : Int))
     ·refine L_op rfl (X_cmp (k := .i64) (a := ((i : Nat) : Int)) (b := ((xs.length : Nat) : Int)) (r := true) rfl rfl rfl (decide_eq_true (p := ((((i : Nat) : Int)) : Int) < ((((xs.length : Nat) : Int)) : Int)) (by omega)) ?_)
      obtain ⟨bi, hbi⟩ : ∃ b, xs[i]? = some b := ⟨_, List.getElem?_eq_getElem (by omega)⟩
      refine L_nil ?_
      refine T_n ?_
      refine W_ct rfl ?_
      refine W_skip ?_
      refine T_n ?_
      refine W_seq ?_
      refine W_block ?_
      rcases Bool.eq_false_or_eq_true (bi) with hs31 | hs31
      ·rw [hs31] at hbi
       refine W_draw 9 [[], [0], [], [], [3], [], [3, 4, 5], [3, 4, 5, 6], [3, 4, 5, 6, 7], [0, 1, 2, 3, 4, 5, 6, 7, 8], [0, 1, 2, 3, 4, 5, 6, 7, 8, 9]] mixed (by kernel_rfl) ?_
       refine ⟨.det (fun val => (ptr b27 (1))), ⟨fun _ _ hv => rfl, fun _ _ _ _ _ => trivial⟩, fun val h_ W hx he => ⟨trivial, ?_⟩, ?_⟩
       ·exact X_fldP (b := b27) (o := 0) (r := 1) Fd25_1 rfl rfl ⟨Upd.refl _ _, rfl⟩
       refine ⟨.det (fun val => oB.uv), ⟨fun _ _ hv => rfl, fun _ _ _ _ _ => trivial⟩, fun val h_ W hx he => ⟨trivial, ?_⟩, ?_⟩
       ·replace hx := (Upd.drew _ _).trans hx
        replace hB27 := hB27.ext hx
        refine id (X_load (p := (ptr b27 (1))) (v := oB.uv) T22 rfl (hB27.at1 rfl) ?_)
        exact ⟨Upd.refl _ _, rfl⟩
       refine ⟨.det (fun val => (.int .i64 (((i : Nat) : Int)))), ⟨fun _ _ hv => rfl, fun _ _ _ _ _ => trivial⟩, fun val h_ W hx he => ⟨trivial, ?_⟩, ?_⟩
       ·exact X_move (v := (.int .i64 (((i : Nat) : Int)))) rfl ⟨Upd.refl _ _, rfl⟩
       refine ⟨.det (fun val => (ptr b27 (1))), ⟨fun _ _ hv => rfl, fun _ _ _ _ _ => trivial⟩, fun val h_ W hx he => ⟨trivial, ?_⟩, ?_⟩
       ·exact X_fldP (b := b27) (o := 0) (r := 1) Fd25_1 rfl rfl ⟨Upd.refl _ _, rfl⟩
       refine ⟨.det (fun val => oB.uv), ⟨fun _ _ hv => rfl, fun _ _ _ _ _ => trivial⟩, fun val h_ W hx he => ⟨trivial, ?_⟩, ?_⟩
       ·replace hx := (Upd.drew _ _).trans hx
        replace hB27 := hB27.ext hx
        refine id (X_load (p := (ptr b27 (1))) (v := oB.uv) T22 rfl (hB27.at1 rfl) ?_)
        exact ⟨Upd.refl _ _, rfl⟩
       refine ⟨.det (fun val => (.int .i64 (((i : Nat) : Int)))), ⟨fun _ _ hv => rfl, fun _ _ _ _ _ => trivial⟩, fun val h_ W hx he => ⟨trivial, ?_⟩, ?_⟩
       ·exact X_move (v := (.int .i64 (((i : Nat) : Int)))) rfl ⟨Upd.refl _ _, rfl⟩
       refine ⟨.det (fun val => (pof oB.uv ((((i : Nat) : Int) : Int).toNat * 1))), ⟨fun _ _ hv => rfl, fun _ _ _ _ _ => trivial⟩, fun val h_ W hx he => ⟨trivial, ?_⟩, ?_⟩
       ·exact X_idx (v := oB.uv) (n := xs.length) (k := .i64) (i := ((i : Nat) : Int)) S22 rfl hsvx rfl (by omega) (by omega) ⟨Upd.refl _ _, rfl⟩
       refine ⟨.det (fun val => (.bool (true))), ⟨fun _ _ hv => rfl, fun _ _ _ _ _ => trivial⟩, fun val h_ W hx he => ⟨trivial, ?_⟩, ?_⟩
       ·replace hx := (Upd.drew _ _).trans hx
        replace hRu := hRu.ext hx
        refine id (X_load (p := (pof oB.uv ((((i : Nat) : Int) : Int).toNat * 1))) (v := .bool true) T4 rfl (bat hRu.rd (Int.toNat_natCast _) hbi) ?_)
        exact ⟨Upd.refl _ _, rfl⟩
       refine ⟨.det (fun val => (.bool (false))), ⟨fun _ _ hv => rfl, fun _ _ _ _ _ => trivial⟩, fun val h_ W hx he => ⟨trivial, ?_⟩, ?_⟩
       ·exact X_not (b := true) (r := false) rfl rfl ⟨Upd.refl _ _, rfl⟩
       intro val W32 hx32 he32
       replace hx32 := (Upd.drew _ _).trans hx32
       have hz32 := hx32.size
       replace hRu := hRu.ext hx32
       replace hRl := hRl.ext hx32
       replace hs := hs.ext hx32
       replace hQ := hQ.ext hx32
       replace hOC := hOC.ext hx32
       replace hB1 := hB1.ext hx32
       replace hB9 := hB9.ext hx32
       replace hB27 := hB27.ext hx32
       replace hB11 := hB11.ext hx32
       replace hB17 := hB17.ext hx32
       replace hU := hU.trans (Ext.upd hx32)
       refine L_op rfl (X_idx (v := oB.uv) (n := xs.length) (k := .i64) (i := ((i : Nat) : Int)) S22 rfl hsvx rfl (by omega) (by omega) ?_)
       refine L_op0 (X_storeOwnC (i := ((i : Nat) : Int).toNat * 1) (v := oB.uv) (u := .bool false) T4 hRu.1 (by show _ < xs.length * 1; omega) rfl rfl rfl ?_)
       intro w6 hO6 hu6
       have hz6_ := hu6.size
       rw [show ((i : Nat) : Int).toNat * 1 = i by omega, lbo_set hbi] at hO6
       have hU6 : NOwn LBo w6 4 5 sB uB oB.uv (xs.set i false) := NOwn.of (fun _ => rfl) (hO6.eq (by rw [List.length_set]) rfl) hRu.2.1
       replace hRl := nown_up (fun _ => rfl) hRl hu6 fun b h1 h2 => absurd (hRl.1.types hRu.1 h1 h2) (by decide)
       replace hs := hs.upd hu6 fun i h1 h2 h => by have h1_ := hRu.1.lt h; have h2_ := hRu.2.1 _ h; omega
       replace hQ := hQ.upd hu6 fun i h1 h2 h => by have h1_ := hRu.1.lt h; have h2_ := hRu.2.1 _ h; omega
       replace hOC := hOC.upd hu6 fun i h1 h2 h => by have h1_ := hRu.1.lt h; have h2_ := hRu.2.1 _ h; omega
       replace hB1 := hB1.upd hu6 fun h => by have h1_ := hRu.1.lt h; have h2_ := hRu.2.1 _ h; omega
       replace hB9 := hB9.upd hu6 fun h => by have h1_ := hRu.1.lt h; have h2_ := hRu.2.1 _ h; omega
       replace hB27 := hB27.upd hu6 fun h => by have h1_ := hRu.1.lt h; have h2_ := hRu.2.1 _ h; omega
       replace hB11 := hB11.upd hu6 fun h => by have h1_ := hRu.1.lt h; have h2_ := hRu.2.1 _ h; omega
       replace hB17 := hB17.upd hu6 fun h => by have h1_ := hRu.1.lt h; have h2_ := hRu.2.1 _ h; omega
       replace hU := hU.trans (hu6.mono fun i _ h => by have h1_ := hRu.1.lt h; have h2_ := hRu.2.1 _ h; show n0 ≤ i; omega)
       replace hRu := hU6
       refine L_nil ?_
       refine B_n ?_
       refine T_n ?_
       refine W_reg ?_
       refine L_op rfl (X_move (v := (.int .i64 (((i : Nat) : Int)))) rfl ?_)
       refine L_op rfl (X_arith (k := .i64) (a := ((i : Nat) : Int)) (b := 1) (r := ((i + 1 : Nat) : Int)) rfl rfl rfl (iadd64 (by omega) (by omega) (by omega)) ?_)
       refine L_op rfl (X_assign (v := (.int .i64 (((i + 1 : Nat) : Int)))) rfl ?_)
       refine L_nil ?_
       refine T_n ?_
       exact ⟨rfl, (i + 1, xs.set i false), ⟨⟨by rw [List.length_set]; omega, by rw [List.length_set]; exact hxl, hRu, hRl, hs, hQ, hOC, hB1, hB9, hB27, hB11, hB17, hU, by omega⟩, (by show (xs.set i _).length - (i + 1) < xs.length - i; rw [List.length_set]; omega)⟩, (Out.mk rfl), ⟨rfl, trivial⟩⟩
      ·rw [hs31] at hbi
       refine W_draw 9 [[], [0], [], [], [3], [], [3, 4, 5], [3, 4, 5, 6], [3, 4, 5, 6, 7], [0, 1, 2, 3, 4, 5, 6, 7, 8], [0, 1, 2, 3, 4, 5, 6, 7, 8, 9]] mixed (by kernel_rfl) ?_
       refine ⟨.det (fun val => (ptr b27 (1))), ⟨fun _ _ hv => rfl, fun _ _ _ _ _ => trivial⟩, fun val h_ W hx he => ⟨trivial, ?_⟩, ?_⟩
       ·exact X_fldP (b := b27) (o := 0) (r := 1) Fd25_1 rfl rfl ⟨Upd.refl _ _, rfl⟩
       refine ⟨.det (fun val => oB.uv), ⟨fun _ _ hv => rfl, fun _ _ _ _ _ => trivial⟩, fun val h_ W hx he => ⟨trivial, ?_⟩, ?_⟩
       ·replace hx := (Upd.drew _ _).trans hx
        replace hB27 := hB27.ext hx
        refine id (X_load (p := (ptr b27 (1))) (v := oB.uv) T22 rfl (hB27.at1 rfl) ?_)
        exact ⟨Upd.refl _ _, rfl⟩
       refine ⟨.det (fun val => (.int .i64 (((i : Nat) : Int)))), ⟨fun _ _ hv => rfl, fun _ _ _ _ _ => trivial⟩, fun val h_ W hx he => ⟨trivial, ?_⟩, ?_⟩
       ·exact X_move (v := (.int .i64 (((i : Nat) : Int)))) rfl ⟨Upd.refl _ _, rfl⟩
       refine ⟨.det (fun val => (ptr b27 (1))), ⟨fun _ _ hv => rfl, fun _ _ _ _ _ => trivial⟩, fun val h_ W hx he => ⟨trivial, ?_⟩, ?_⟩
       ·exact X_fldP (b := b27) (o := 0) (r := 1) Fd25_1 rfl rfl ⟨Upd.refl _ _, rfl⟩
       refine ⟨.det (fun val => oB.uv), ⟨fun _ _ hv => rfl, fun _ _ _ _ _ => trivial⟩, fun val h_ W hx he => ⟨trivial, ?_⟩, ?_⟩
       ·replace hx := (Upd.drew _ _).trans hx
        replace hB27 := hB27.ext hx
        refine id (X_load (p := (ptr b27 (1))) (v := oB.uv) T22 rfl (hB27.at1 rfl) ?_)
        exact ⟨Upd.refl _ _, rfl⟩
       refine ⟨.det (fun val => (.int .i64 (((i : Nat) : Int)))), ⟨fun _ _ hv => rfl, fun _ _ _ _ _ => trivial⟩, fun val h_ W hx he => ⟨trivial, ?_⟩, ?_⟩
       ·exact X_move (v := (.int .i64 (((i : Nat) : Int)))) rfl ⟨Upd.refl _ _, rfl⟩
       refine ⟨.det (fun val => (pof oB.uv ((((i : Nat) : Int) : Int).toNat * 1))), ⟨fun _ _ hv => rfl, fun _ _ _ _ _ => trivial⟩, fun val h_ W hx he => ⟨trivial, ?_⟩, ?_⟩
       ·exact X_idx (v := oB.uv) (n := xs.length) (k := .i64) (i := ((i : Nat) : Int)) S22 rfl hsvx rfl (by omega) (by omega) ⟨Upd.refl _ _, rfl⟩
       refine ⟨.det (fun val => (.bool (false))), ⟨fun _ _ hv => rfl, fun _ _ _ _ _ => trivial⟩, fun val h_ W hx he => ⟨trivial, ?_⟩, ?_⟩
       ·replace hx := (Upd.drew _ _).trans hx
        replace hRu := hRu.ext hx
        refine id (X_load (p := (pof oB.uv ((((i : Nat) : Int) : Int).toNat * 1))) (v := .bool false) T4 rfl (bat hRu.rd (Int.toNat_natCast _) hbi) ?_)
        exact ⟨Upd.refl _ _, rfl⟩
       refine ⟨.det (fun val => (.bool (true))), ⟨fun _ _ hv => rfl, fun _ _ _ _ _ => trivial⟩, fun val h_ W hx he => ⟨trivial, ?_⟩, ?_⟩
       ·exact X_not (b := false) (r := true) rfl rfl ⟨Upd.refl _ _, rfl⟩
       intro val W33 hx33 he33
       replace hx33 := (Upd.drew _ _).trans hx33
       have hz33 := hx33.size
       replace hRu := hRu.ext hx33
       replace hRl := hRl.ext hx33
       replace hs := hs.ext hx33
       replace hQ := hQ.ext hx33
       replace hOC := hOC.ext hx33
       replace hB1 := hB1.ext hx33
       replace hB9 := hB9.ext hx33
       replace hB27 := hB27.ext hx33
       replace hB11 := hB11.ext hx33
       replace hB17 := hB17.ext hx33
       replace hU := hU.trans (Ext.upd hx33)
       refine L_op rfl (X_idx (v := oB.uv) (n := xs.length) (k := .i64) (i := ((i : Nat) : Int)) S22 rfl hsvx rfl (by omega) (by omega) ?_)
       refine L_op0 (X_storeOwnC (i := ((i : Nat) : Int).toNat * 1) (v := oB.uv) (u := .bool true) T4 hRu.1 (by show _ < xs.length * 1; omega) rfl rfl rfl ?_)
       intro w6 hO6 hu6
       have hz6_ := hu6.size
       rw [show ((i : Nat) : Int).toNat * 1 = i by omega, lbo_set hbi] at hO6
       have hU6 : NOwn LBo w6 4 5 sB uB oB.uv (xs.set i true) := NOwn.of (fun _ => rfl) (hO6.eq (by rw [List.length_set]) rfl) hRu.2.1
       replace hRl := nown_up (fun _ => rfl) hRl hu6 fun b h1 h2 => absurd (hRl.1.types hRu.1 h1 h2) (by decide)
       replace hs := hs.upd hu6 fun i h1 h2 h => by have h1_ := hRu.1.lt h; have h2_ := hRu.2.1 _ h; omega
       replace hQ := hQ.upd hu6 fun i h1 h2 h => by have h1_ := hRu.1.lt h; have h2_ := hRu.2.1 _ h; omega
       replace hOC := hOC.upd hu6 fun i h1 h2 h => by have h1_ := hRu.1.lt h; have h2_ := hRu.2.1 _ h; omega
       replace hB1 := hB1.upd hu6 fun h => by have h1_ := hRu.1.lt h; have h2_ := hRu.2.1 _ h; omega
       replace hB9 := hB9.upd hu6 fun h => by have h1_ := hRu.1.lt h; have h2_ := hRu.2.1 _ h; omega
       replace hB27 := hB27.upd hu6 fun h => by have h1_ := hRu.1.lt h; have h2_ := hRu.2.1 _ h; omega
       replace hB11 := hB11.upd hu6 fun h => by have h1_ := hRu.1.lt h; have h2_ := hRu.2.1 _ h; omega
       replace hB17 := hB17.upd hu6 fun h => by have h1_ := hRu.1.lt h; have h2_ := hRu.2.1 _ h; omega
       replace hU := hU.trans (hu6.mono fun i _ h => by have h1_ := hRu.1.lt h; have h2_ := hRu.2.1 _ h; show n0 ≤ i; omega)
       replace hRu := hU6
       refine L_nil ?_
       refine B_n ?_
       refine T_n ?_
       refine W_reg ?_
       refine L_op rfl (X_move (v := (.int .i64 (((i : Nat) : Int)))) rfl ?_)
       refine L_op rfl (X_arith (k := .i64) (a := ((i : Nat) : Int)) (b := 1) (r := ((i + 1 : Nat) : Int)) rfl rfl rfl (iadd64 (by omega) (by omega) (by omega)) ?_)
       refine L_op rfl (X_assign (v := (.int .i64 (((i + 1 : Nat) : Int)))) rfl ?_)
       refine L_nil ?_
       refine T_n ?_
       exact ⟨rfl, (i + 1, xs.set i true), ⟨⟨by rw [List.length_set]; omega, by rw [List.length_set]; exact hxl, hRu, hRl, hs, hQ, hOC, hB1, hB9, hB27, hB11, hB17, hU, by omega⟩, (by show (xs.set i _).length - (i + 1) < xs.length - i; rw [List.length_set]; omega)⟩, (Out.mk rfl), ⟨rfl, trivial⟩⟩
     ·refine L_op rfl (X_cmp (k := .i64) (a := ((i : Nat) : Int)) (b := ((xs.length : Nat) : Int)) (r := false) rfl rfl rfl (decide_eq_false (p := ((((i : Nat) : Int)) : Int) < ((((xs.length : Nat) : Int)) : Int)) (by omega)) ?_)
      refine L_nil ?_
      refine T_n ?_
      refine W_cf rfl ?_
      refine W_exit ?_
      refine T_e ?_
      refine T_e ?_
      refine B_x ?_
      refine T_n ?_
      refine W_seq ?_
      refine W_reg ?_
      refine L_op rfl (X_assign (v := (.int .i64 (0))) rfl ?_)
      refine L_nil ?_
      refine T_n ?_
      refine W_block ?_
      refine W_loop (α := Nat × List La) [20, 86, 87, 88, 89, 90, 91, 92, 93, 94, 95, 96, 97] (fun ⟨i, xs⟩ => [(20, (.int .i64 (((i : Nat) : Int))))]) (fun ⟨i, xs⟩ w_ => i ≤ xs.length ∧ xs.length = oB.ls.length ∧ NOwn LL w_ 44 5 sB uB oB.lv xs ∧ s.Rd w_ 0 n0 ∧ (⟨s.sz, v0 5, v0 9, s.us, s.ls⟩ : Sp).Rd w_ s0 eQ ∧ oC.Ow w_ sC uC ∧ Blk w_ b1 #[(.int .i64 (s.sz)), s.uv, s.lv] 25 ∧ Blk w_ b9 #[(.int .i64 (oA.sz)), oA.uv, oA.lv] 25 ∧ Blk w_ b27 #[(.int .i64 (oB.sz)), oB.uv, oB.lv] 25 ∧ Blk w_ b11 #[(.int .i64 (s.sz)), (v0 5), (v0 9)] 25 ∧ Blk w_ b17 #[(.int .i64 (oA.sz)), oA.uv, oA.lv, (.int .i64 (oB.sz)), oB.uv, oB.lv, (.int .i64 (oC.sz)), oC.uv, oC.lv] 25 ∧ Upd (fun i => n0 ≤ i) w w_ ∧ uC ≤ w_.heap.size) (fun ⟨i, xs⟩ => xs.length - i) ⟨rfl, (0, oB.ls), ⟨Nat.zero_le _, rfl, hRl, hs, hQ, hOC, hB1, hB9, hB27, hB11, hB17, hU, by omega⟩, Out.refl _ _, ⟨rfl, trivial⟩⟩ ?_
      rintro ⟨i, xs⟩ w34 _ ⟨hil, hxl, hRl, hs, hQ, hOC, hB1, hB9, hB27, hB11, hB17, hU, huCw⟩
      have hsz_ := hU.size
      have hsvx := hRl.1.sv
      have hmx_ := hsvx.len
      have hbl4_ := hB1.lt
      have hbl10_ := hB9.lt
      have hbl18_ := hB27.lt
      have hbl9_ := hB11.lt
      have hbl63_ := hB17.lt
      refine W_seq ?_
      refine W_seq ?_
      refine W_reg ?_
      refine L_op rfl (X_move (v := (.int .i64 (((i : Nat) : Int)))) rfl ?_)
      refine L_op rfl (X_fldP (b := b27) (o := 0) (r := 2) Fd25_2 rfl rfl ?_)
      refine L_op rfl (X_load (p := (ptr b27 (2))) (v := oB.lv) T23 rfl (hB27.at1 rfl) ?_)
      refine L_op rfl (X_len (v := oB.lv) (n := xs.length) Try.underlying23 rfl hsvx ?_)
      by_cases hc35 : (((i : Nat) : Int) : Int) < (((xs.length : Nat) : Int))
      ·refine L_op rfl (X_cmp (k := .i64) (a := ((i : Nat) : Int)) (b := ((xs.length : Nat) : Int)) (r := true) rfl rfl rfl (decide_eq_true (p := ((((i : Nat) : Int)) : Int) < ((((xs.length : Nat) : Int)) : Int)) (by omega)) ?_)
       refine L_nil ?_
       refine T_n ?_
       refine W_ct rfl ?_
       refine W_skip ?_
       refine T_n ?_
       refine W_seq ?_
       refine W_block ?_
       refine W_reg ?_
       refine L_op rfl (X_fldP (b := b27) (o := 0) (r := 2) Fd25_2 rfl rfl ?_)
       refine L_op rfl (X_load (p := (ptr b27 (2))) (v := oB.lv) T23 rfl (hB27.at1 rfl) ?_)
       refine L_op rfl (X_move (v := (.int .i64 (((i : Nat) : Int)))) rfl ?_)
       refine L_op rfl (X_build built44m ?_)
       refine L_op rfl (X_idx (v := oB.lv) (n := xs.length) (k := .i64) (i := ((i : Nat) : Int)) S23 rfl hsvx rfl (by omega) (by omega) ?_)
       refine L_op0 (X_storeOwnA (i := ((i : Nat) : Int).toNat * 2) (m := 2) (v := oB.lv) (ys := LL.cel ((-1 : Int), (0 : Int))) A44 hRl.1 (by show _ ≤ xs.length * 2; omega) (by decide) rfl rfl (LL.one _ (fun _ h => by cases h)) rfl ?_)
       intro w6 hO6 hu6
       have hz6_ := hu6.size
       have hL6 : NOwn LL w6 44 5 sB uB oB.lv (xs.set i ((-1 : Int), (0 : Int))) := NOwn.of (fun _ => rfl) (hO6.eq (by rw [List.length_set]) (by rw [flat_setA (L := LL) (by omega)]; show _ ++ LL.cel ((-1 : Int), (0 : Int)) ++ _ = _; rw [Int.toNat_natCast]; rfl)) hRl.2.1
       replace hs := hs.upd hu6 fun i h1 h2 h => by have h1_ := hRl.1.lt h; have h2_ := hRl.2.1 _ h; omega
       replace hQ := hQ.upd hu6 fun i h1 h2 h => by have h1_ := hRl.1.lt h; have h2_ := hRl.2.1 _ h; omega
       replace hOC := hOC.upd hu6 fun i h1 h2 h => by have h1_ := hRl.1.lt h; have h2_ := hRl.2.1 _ h; omega
       replace hB1 := hB1.upd hu6 fun h => by have h1_ := hRl.1.lt h; have h2_ := hRl.2.1 _ h; omega
       replace hB9 := hB9.upd hu6 fun h => by have h1_ := hRl.1.lt h; have h2_ := hRl.2.1 _ h; omega
       replace hB27 := hB27.upd hu6 fun h => by have h1_ := hRl.1.lt h; have h2_ := hRl.2.1 _ h; omega
       replace hB11 := hB11.upd hu6 fun h => by have h1_ := hRl.1.lt h; have h2_ := hRl.2.1 _ h; omega
       replace hB17 := hB17.upd hu6 fun h => by have h1_ := hRl.1.lt h; have h2_ := hRl.2.1 _ h; omega
       replace hU := hU.trans (hu6.mono fun i _ h => by have h1_ := hRl.1.lt h; have h2_ := hRl.2.1 _ h; show n0 ≤ i; omega)
       replace hRl := hL6
       refine L_nil ?_
       refine B_n ?_
       refine T_n ?_
       refine W_reg ?_
       refine L_op rfl (X_move (v := (.int .i64 (((i : Nat) : Int)))) rfl ?_)
       refine L_op rfl (X_arith (k := .i64) (a := ((i : Nat) : Int)) (b := 1) (r := ((i + 1 : Nat) : Int)) rfl rfl rfl (iadd64 (by omega) (by omega) (by omega)) ?_)
       refine L_op rfl (X_assign (v := (.int .i64 (((i + 1 : Nat) : Int)))) rfl ?_)
       refine L_nil ?_
       refine T_n ?_
       exact ⟨rfl, (i + 1, xs.set i ((-1 : Int), (0 : Int))), ⟨⟨by rw [List.length_set]; omega, by rw [List.length_set]; exact hxl, hRl, hs, hQ, hOC, hB1, hB9, hB27, hB11, hB17, hU, by omega⟩, (by show (xs.set i _).length - (i + 1) < xs.length - i; rw [List.length_set]; omega)⟩, (Out.mk rfl), ⟨rfl, trivial⟩⟩
      ·refine L_op rfl (X_cmp (k := .i64) (a := ((i : Nat) : Int)) (b := ((xs.length : Nat) : Int)) (r := false) rfl rfl rfl (decide_eq_false (p := ((((i : Nat) : Int)) : Int) < ((((xs.length : Nat) : Int)) : Int)) (by omega)) ?_)
       refine L_nil ?_
       refine T_n ?_
       refine W_cf rfl ?_
       refine W_exit ?_
       refine T_e ?_
       refine T_e ?_
       refine B_x ?_
       refine B_n ?_
       refine T_n ?_
       refine W_reg ?_
       refine L_op rfl (X_arith (k := .i64) (a := 1) (b := 1) (r := 2) rfl rfl rfl rfl ?_)
       refine L_op rfl (X_move (v := (.int .i64 (2))) rfl ?_)
       refine L_nil ?_
       refine T_n ?_
       refine Rounds_s (m := 1) ?_
       have hRu := hOC.1; have hRl := hOC.2
       refine W_seq ?_
       refine W_reg ?_
       refine L_op rfl (X_cmp (k := .i64) (a := 2) (b := 3) (r := true) rfl rfl rfl rfl ?_)
       refine L_nil ?_
       refine T_n ?_
       refine W_seq ?_
       refine W_ct rfl ?_
       refine W_skip ?_
       refine T_n ?_
       refine W_seq ?_
       refine W_block ?_
       refine W_seq ?_
       refine W_reg ?_
       refine L_op rfl (X_idx (v := (.slice (some ⟨b17, 0, none⟩) 3 3)) (n := 3) (k := .i64) (i := 2) S42 rfl (hB17.own (B := 0) (n := 3) (c := 3) (sz := 3) (Nat.zero_le _) (Nat.le_refl _) (by decide) (Nat.le_refl 9)).sv rfl (by omega) (by omega) ?_)
       have hat_ : At w34 ((pof (.slice (some ⟨b17, 0, none⟩) 3 3) ((2 : Int).toNat * 3))) [(.int .i64 (oC.sz)), oC.uv, oC.lv] := by rw [row_at]; exact hB17.at_ 6 _ (fun k u hk => by rcases k with _ | _ | _ | k <;> first | exact hk | cases hk)
       refine L_op rfl (X_loadA (xs := [(.int .i64 (oC.sz)), oC.uv, oC.lv]) A25 rfl hat_ rfl ?_)
       refine L_op rfl (X_alloc (z := (.agg #[(.int .i64 (0)), (.slice none 0 0), (.slice none 0 0)])) (c := #[(.int .i64 (0)), (.slice none 0 0), (.slice none 0 0)]) Zv25 rfl ?_)
       intro b36 w36 hn36
       have hbn36 := hn36.num; have hbs36 := hn36.size
       replace hRl := hRl.ext hn36.ext
       replace hs := hs.ext hn36.ext
       replace hQ := hQ.ext hn36.ext
       replace hB1 := hB1.ext hn36.ext
       replace hB9 := hB9.ext hn36.ext
       replace hB27 := hB27.ext hn36.ext
       replace hB11 := hB11.ext hn36.ext
       replace hB17 := hB17.ext hn36.ext
       replace hU := hU.trans (Ext.upd hn36.ext)
       replace hRu := hRu.ext hn36.ext
       have hB36 := hn36.blk
       refine L_op0 (X_storeW (b := b36) (ys := [(.int .i64 (oC.sz)), oC.uv, oC.lv]) A25 rfl rfl (List.forall_mem_cons.2 ⟨rfl, (List.forall_mem_cons.2 ⟨(hvC1.one), (List.forall_mem_cons.2 ⟨(hvC2.one), (fun _ h => by cases h)⟩)⟩)⟩) rfl hB36 rfl ?_)
       intro w37 hu37 hb37
       have hz37 := hu37.size
       replace hRl := hRl.upd hu37 fun i h1 h2 h => by have h : i = b36 := h; omega
       replace hs := hs.upd hu37 fun i h1 h2 h => by have h : i = b36 := h; omega
       replace hQ := hQ.upd hu37 fun i h1 h2 h => by have h : i = b36 := h; omega
       replace hB1 := hB1.upd hu37 fun h => by have h : b1 = b36 := h; omega
       replace hB9 := hB9.upd hu37 fun h => by have h : b9 = b36 := h; omega
       replace hB27 := hB27.upd hu37 fun h => by have h : b27 = b36 := h; omega
       replace hB11 := hB11.upd hu37 fun h => by have h : b11 = b36 := h; omega
       replace hB17 := hB17.upd hu37 fun h => by have h : b17 = b36 := h; omega
       replace hU := hU.trans (hu37.mono fun i _ h => by have h : i = b36 := h; show n0 ≤ i; omega)
       replace hRu := hRu.upd hu37 fun i h1 h2 h => by have h : i = b36 := h; omega
       replace hB36 : Blk w37 b36 #[(.int .i64 (oC.sz)), oC.uv, oC.lv] 25 := hb37
       refine L_nil ?_
       refine T_n ?_
       refine W_seq ?_
       refine W_seq ?_
       refine W_reg ?_
       refine L_op rfl (X_assign (v := (.int .i64 (0))) rfl ?_)
       refine L_nil ?_
       refine T_n ?_
       refine W_block ?_
       refine W_loop (α := Nat × List Bool) [19, 69, 70, 71, 72, 73, 74, 75, 76, 77, 78, 79, 80, 81, 82, 83, 84, 85] (fun ⟨i, xs⟩ => [(19, (.int .i64 (((i : Nat) : Int))))]) (fun ⟨i, xs⟩ w_ => i ≤ xs.length ∧ xs.length = oC.us.length ∧ NOwn LBo w_ 4 5 sC uC oC.uv xs ∧ NOwn LL w_ 44 5 sC uC oC.lv oC.ls ∧ s.Rd w_ 0 n0 ∧ (⟨s.sz, v0 5, v0 9, s.us, s.ls⟩ : Sp).Rd w_ s0 eQ ∧ Blk w_ b1 #[(.int .i64 (s.sz)), s.uv, s.lv] 25 ∧ Blk w_ b9 #[(.int .i64 (oA.sz)), oA.uv, oA.lv] 25 ∧ Blk w_ b36 #[(.int .i64 (oC.sz)), oC.uv, oC.lv] 25 ∧ Blk w_ b11 #[(.int .i64 (s.sz)), (v0 5), (v0 9)] 25 ∧ Blk w_ b17 #[(.int .i64 (oA.sz)), oA.uv, oA.lv, (.int .i64 (oB.sz)), oB.uv, oB.lv, (.int .i64 (oC.sz)), oC.uv, oC.lv] 25 ∧ Upd (fun i => n0 ≤ i) w w_ ∧ uC ≤ w_.heap.size) (fun ⟨i, xs⟩ => xs.length - i) ⟨rfl, (0, oC.us), ⟨Nat.zero_le _, rfl, hRu, hRl, hs, hQ, hB1, hB9, hB36, hB11, hB17, hU, by omega⟩, Out.refl _ _, ⟨rfl, trivial⟩⟩ ?_
       rintro ⟨i, xs⟩ w38 _ ⟨hil, hxl, hRu, hRl, hs, hQ, hB1, hB9, hB36, hB11, hB17, hU, huCw⟩
       have hsz_ := hU.size
       have hsvx := hRu.1.sv
       have hmx_ := hsvx.len
       have hbl4_ := hB1.lt
       have hbl10_ := hB9.lt
       have hbl18_ := hB36.lt
       have hbl9_ := hB11.lt
       have hbl63_ := hB17.lt
       refine W_seq ?_
       refine W_seq ?_
       refine W_reg ?_
       refine L_op rfl (X_move (v := (.int .i64 (((i : Nat) : Int)))) rfl ?_)
       refine L_op rfl (X_fldP (b := b36) (o := 0) (r := 1) Fd25_1 rfl rfl ?_)
       refine L_op rfl (X_load (p := (ptr b36 (1))) (v := oC.uv) T22 rfl (hB36.at1 rfl) ?_)
       refine L_op rfl (X_len (v := oC.uv) (n := xs.length) Try.underlying22 rfl hsvx ?_)
       by_cases hc39 : (((i : Nat) : Int) : Int) < (((xs.length : Nat) : Int))
       ·refine L_op rfl (X_cmp (k := .i64) (a := ((i : Nat) : Int)) (b := ((xs.length : Nat) : Int)) (r := true) rfl rfl rfl (decide_eq_true (p := ((((i : Nat) : Int)) : Int) < ((((xs.length : Nat) : Int)) : Int)) (by omega)) ?_)
        obtain ⟨bi, hbi⟩ : ∃ b, xs[i]? = some b := ⟨_, List.getElem?_eq_getElem (by omega)⟩
        refine L_nil ?_
        refine T_n ?_
        refine W_ct rfl ?_
        refine W_skip ?_
        refine T_n ?_
        refine W_seq ?_
        refine W_block ?_
        rcases Bool.eq_false_or_eq_true (bi) with hs40 | hs40
        ·rw [hs40] at hbi
         refine W_draw 9 [[], [0], [], [], [3], [], [3, 4, 5], [3, 4, 5, 6], [3, 4, 5, 6, 7], [0, 1, 2, 3, 4, 5, 6, 7, 8], [0, 1, 2, 3, 4, 5, 6, 7, 8, 9]] mixed (by kernel_rfl) ?_
         refine ⟨.det (fun val => (ptr b36 (1))), ⟨fun _ _ hv => rfl, fun _ _ _ _ _ => trivial⟩, fun val h_ W hx he => ⟨trivial, ?_⟩, ?_⟩
         ·exact X_fldP (b := b36) (o := 0) (r := 1) Fd25_1 rfl rfl ⟨Upd.refl _ _, rfl⟩
         refine ⟨.det (fun val => oC.uv), ⟨fun _ _ hv => rfl, fun _ _ _ _ _ => trivial⟩, fun val h_ W hx he => ⟨trivial, ?_⟩, ?_⟩
         ·replace hx := (Upd.drew _ _).trans hx
          replace hB36 := hB36.ext hx
          refine id (X_load (p := (ptr b36 (1))) (v := oC.uv) T22 rfl (hB36.at1 rfl) ?_)
          exact ⟨Upd.refl _ _, rfl⟩
         refine ⟨.det (fun val => (.int .i64 (((i : Nat) : Int)))), ⟨fun _ _ hv => rfl, fun _ _ _ _ _ => trivial⟩, fun val h_ W hx he => ⟨trivial, ?_⟩, ?_⟩
         ·exact X_move (v := (.int .i64 (((i : Nat) : Int)))) rfl ⟨Upd.refl _ _, rfl⟩
         refine ⟨.det (fun val => (ptr b36 (1))), ⟨fun _ _ hv => rfl, fun _ _ _ _ _ => trivial⟩, fun val h_ W hx he => ⟨trivial, ?_⟩, ?_⟩
         ·exact X_fldP (b := b36) (o := 0) (r := 1) Fd25_1 rfl rfl ⟨Upd.refl _ _, rfl⟩
         refine ⟨.det (fun val => oC.uv), ⟨fun _ _ hv => rfl, fun _ _ _ _ _ => trivial⟩, fun val h_ W hx he => ⟨trivial, ?_⟩, ?_⟩
         ·replace hx := (Upd.drew _ _).trans hx
          replace hB36 := hB36.ext hx
          refine id (X_load (p := (ptr b36 (1))) (v := oC.uv) T22 rfl (hB36.at1 rfl) ?_)
          exact ⟨Upd.refl _ _, rfl⟩
         refine ⟨.det (fun val => (.int .i64 (((i : Nat) : Int)))), ⟨fun _ _ hv => rfl, fun _ _ _ _ _ => trivial⟩, fun val h_ W hx he => ⟨trivial, ?_⟩, ?_⟩
         ·exact X_move (v := (.int .i64 (((i : Nat) : Int)))) rfl ⟨Upd.refl _ _, rfl⟩
         refine ⟨.det (fun val => (pof oC.uv ((((i : Nat) : Int) : Int).toNat * 1))), ⟨fun _ _ hv => rfl, fun _ _ _ _ _ => trivial⟩, fun val h_ W hx he => ⟨trivial, ?_⟩, ?_⟩
         ·exact X_idx (v := oC.uv) (n := xs.length) (k := .i64) (i := ((i : Nat) : Int)) S22 rfl hsvx rfl (by omega) (by omega) ⟨Upd.refl _ _, rfl⟩
         refine ⟨.det (fun val => (.bool (true))), ⟨fun _ _ hv => rfl, fun _ _ _ _ _ => trivial⟩, fun val h_ W hx he => ⟨trivial, ?_⟩, ?_⟩
         ·replace hx := (Upd.drew _ _).trans hx
          replace hRu := hRu.ext hx
          refine id (X_load (p := (pof oC.uv ((((i : Nat) : Int) : Int).toNat * 1))) (v := .bool true) T4 rfl (bat hRu.rd (Int.toNat_natCast _) hbi) ?_)
          exact ⟨Upd.refl _ _, rfl⟩
         refine ⟨.det (fun val => (.bool (false))), ⟨fun _ _ hv => rfl, fun _ _ _ _ _ => trivial⟩, fun val h_ W hx he => ⟨trivial, ?_⟩, ?_⟩
         ·exact X_not (b := true) (r := false) rfl rfl ⟨Upd.refl _ _, rfl⟩
         intro val W41 hx41 he41
         replace hx41 := (Upd.drew _ _).trans hx41
         have hz41 := hx41.size
         replace hRu := hRu.ext hx41
         replace hRl := hRl.ext hx41
         replace hs := hs.ext hx41
         replace hQ := hQ.ext hx41
         replace hB1 := hB1.ext hx41
         replace hB9 := hB9.ext hx41
         replace hB36 := hB36.ext hx41
         replace hB11 := hB11.ext hx41
         replace hB17 := hB17.ext hx41
         replace hU := hU.trans (Ext.upd hx41)
         refine L_op rfl (X_idx (v := oC.uv) (n := xs.length) (k := .i64) (i := ((i : Nat) : Int)) S22 rfl hsvx rfl (by omega) (by omega) ?_)
         refine L_op0 (X_storeOwnC (i := ((i : Nat) : Int).toNat * 1) (v := oC.uv) (u := .bool false) T4 hRu.1 (by show _ < xs.length * 1; omega) rfl rfl rfl ?_)
         intro w6 hO6 hu6
         have hz6_ := hu6.size
         rw [show ((i : Nat) : Int).toNat * 1 = i by omega, lbo_set hbi] at hO6
         have hU6 : NOwn LBo w6 4 5 sC uC oC.uv (xs.set i false) := NOwn.of (fun _ => rfl) (hO6.eq (by rw [List.length_set]) rfl) hRu.2.1
         replace hRl := nown_up (fun _ => rfl) hRl hu6 fun b h1 h2 => absurd (hRl.1.types hRu.1 h1 h2) (by decide)
         replace hs := hs.upd hu6 fun i h1 h2 h => by have h1_ := hRu.1.lt h; have h2_ := hRu.2.1 _ h; omega
         replace hQ := hQ.upd hu6 fun i h1 h2 h => by have h1_ := hRu.1.lt h; have h2_ := hRu.2.1 _ h; omega
         replace hB1 := hB1.upd hu6 fun h => by have h1_ := hRu.1.lt h; have h2_ := hRu.2.1 _ h; omega
         replace hB9 := hB9.upd hu6 fun h => by have h1_ := hRu.1.lt h; have h2_ := hRu.2.1 _ h; omega
         replace hB36 := hB36.upd hu6 fun h => by have h1_ := hRu.1.lt h; have h2_ := hRu.2.1 _ h; omega
         replace hB11 := hB11.upd hu6 fun h => by have h1_ := hRu.1.lt h; have h2_ := hRu.2.1 _ h; omega
         replace hB17 := hB17.upd hu6 fun h => by have h1_ := hRu.1.lt h; have h2_ := hRu.2.1 _ h; omega
         replace hU := hU.trans (hu6.mono fun i _ h => by have h1_ := hRu.1.lt h; have h2_ := hRu.2.1 _ h; show n0 ≤ i; omega)
         replace hRu := hU6
         refine L_nil ?_
         refine B_n ?_
         refine T_n ?_
         refine W_reg ?_
         refine L_op rfl (X_move (v := (.int .i64 (((i : Nat) : Int)))) rfl ?_)
         refine L_op rfl (X_arith (k := .i64) (a := ((i : Nat) : Int)) (b := 1) (r := ((i + 1 : Nat) : Int)) rfl rfl rfl (iadd64 (by omega) (by omega) (by omega)) ?_)
         refine L_op rfl (X_assign (v := (.int .i64 (((i + 1 : Nat) : Int)))) rfl ?_)
         refine L_nil ?_
         refine T_n ?_
         exact ⟨rfl, (i + 1, xs.set i false), ⟨⟨by rw [List.length_set]; omega, by rw [List.length_set]; exact hxl, hRu, hRl, hs, hQ, hB1, hB9, hB36, hB11, hB17, hU, by omega⟩, (by show (xs.set i _).length - (i + 1) < xs.length - i; rw [List.length_set]; omega)⟩, (Out.mk rfl), ⟨rfl, trivial⟩⟩
        ·rw [hs40] at hbi
         refine W_draw 9 [[], [0], [], [], [3], [], [3, 4, 5], [3, 4, 5, 6], [3, 4, 5, 6, 7], [0, 1, 2, 3, 4, 5, 6, 7, 8], [0, 1, 2, 3, 4, 5, 6, 7, 8, 9]] mixed (by kernel_rfl) ?_
         refine ⟨.det (fun val => (ptr b36 (1))), ⟨fun _ _ hv => rfl, fun _ _ _ _ _ => trivial⟩, fun val h_ W hx he => ⟨trivial, ?_⟩, ?_⟩
         ·exact X_fldP (b := b36) (o := 0) (r := 1) Fd25_1 rfl rfl ⟨Upd.refl _ _, rfl⟩
         refine ⟨.det (fun val => oC.uv), ⟨fun _ _ hv => rfl, fun _ _ _ _ _ => trivial⟩, fun val h_ W hx he => ⟨trivial, ?_⟩, ?_⟩
         ·replace hx := (Upd.drew _ _).trans hx
          replace hB36 := hB36.ext hx
          refine id (X_load (p := (ptr b36 (1))) (v := oC.uv) T22 rfl (hB36.at1 rfl) ?_)
          exact ⟨Upd.refl _ _, rfl⟩
         refine ⟨.det (fun val => (.int .i64 (((i : Nat) : Int)))), ⟨fun _ _ hv => rfl, fun _ _ _ _ _ => trivial⟩, fun val h_ W hx he => ⟨trivial, ?_⟩, ?_⟩
         ·exact X_move (v := (.int .i64 (((i : Nat) : Int)))) rfl ⟨Upd.refl _ _, rfl⟩
         refine ⟨.det (fun val => (ptr b36 (1))), ⟨fun _ _ hv => rfl, fun _ _ _ _ _ => trivial⟩, fun val h_ W hx he => ⟨trivial, ?_⟩, ?_⟩
         ·exact X_fldP (b := b36) (o := 0) (r := 1) Fd25_1 rfl rfl ⟨Upd.refl _ _, rfl⟩
         refine ⟨.det (fun val => oC.uv), ⟨fun _ _ hv => rfl, fun _ _ _ _ _ => trivial⟩, fun val h_ W hx he => ⟨trivial, ?_⟩, ?_⟩
         ·replace hx := (Upd.drew _ _).trans hx
          replace hB36 := hB36.ext hx
          refine id (X_load (p := (ptr b36 (1))) (v := oC.uv) T22 rfl (hB36.at1 rfl) ?_)
          exact ⟨Upd.refl _ _, rfl⟩
         refine ⟨.det (fun val => (.int .i64 (((i : Nat) : Int)))), ⟨fun _ _ hv => rfl, fun _ _ _ _ _ => trivial⟩, fun val h_ W hx he => ⟨trivial, ?_⟩, ?_⟩
         ·exact X_move (v := (.int .i64 (((i : Nat) : Int)))) rfl ⟨Upd.refl _ _, rfl⟩
         refine ⟨.det (fun val => (pof oC.uv ((((i : Nat) : Int) : Int).toNat * 1))), ⟨fun _ _ hv => rfl, fun _ _ _ _ _ => trivial⟩, fun val h_ W hx he => ⟨trivial, ?_⟩, ?_⟩
         ·exact X_idx (v := oC.uv) (n := xs.length) (k := .i64) (i := ((i : Nat) : Int)) S22 rfl hsvx rfl (by omega) (by omega) ⟨Upd.refl _ _, rfl⟩
         refine ⟨.det (fun val => (.bool (false))), ⟨fun _ _ hv => rfl, fun _ _ _ _ _ => trivial⟩, fun val h_ W hx he => ⟨trivial, ?_⟩, ?_⟩
         ·replace hx := (Upd.drew _ _).trans hx
          replace hRu := hRu.ext hx
          refine id (X_load (p := (pof oC.uv ((((i : Nat) : Int) : Int).toNat * 1))) (v := .bool false) T4 rfl (bat hRu.rd (Int.toNat_natCast _) hbi) ?_)
          exact ⟨Upd.refl _ _, rfl⟩
         refine ⟨.det (fun val => (.bool (true))), ⟨fun _ _ hv => rfl, fun _ _ _ _ _ => trivial⟩, fun val h_ W hx he => ⟨trivial, ?_⟩, ?_⟩
         ·exact X_not (b := false) (r := true) rfl rfl ⟨Upd.refl _ _, rfl⟩
         intro val W42 hx42 he42
         replace hx42 := (Upd.drew _ _).trans hx42
         have hz42 := hx42.size
         replace hRu := hRu.ext hx42
         replace hRl := hRl.ext hx42
         replace hs := hs.ext hx42
         replace hQ := hQ.ext hx42
         replace hB1 := hB1.ext hx42
         replace hB9 := hB9.ext hx42
         replace hB36 := hB36.ext hx42
         replace hB11 := hB11.ext hx42
         replace hB17 := hB17.ext hx42
         replace hU := hU.trans (Ext.upd hx42)
         refine L_op rfl (X_idx (v := oC.uv) (n := xs.length) (k := .i64) (i := ((i : Nat) : Int)) S22 rfl hsvx rfl (by omega) (by omega) ?_)
         refine L_op0 (X_storeOwnC (i := ((i : Nat) : Int).toNat * 1) (v := oC.uv) (u := .bool true) T4 hRu.1 (by show _ < xs.length * 1; omega) rfl rfl rfl ?_)
         intro w6 hO6 hu6
         have hz6_ := hu6.size
         rw [show ((i : Nat) : Int).toNat * 1 = i by omega, lbo_set hbi] at hO6
         have hU6 : NOwn LBo w6 4 5 sC uC oC.uv (xs.set i true) := NOwn.of (fun _ => rfl) (hO6.eq (by rw [List.length_set]) rfl) hRu.2.1
         replace hRl := nown_up (fun _ => rfl) hRl hu6 fun b h1 h2 => absurd (hRl.1.types hRu.1 h1 h2) (by decide)
         replace hs := hs.upd hu6 fun i h1 h2 h => by have h1_ := hRu.1.lt h; have h2_ := hRu.2.1 _ h; omega
         replace hQ := hQ.upd hu6 fun i h1 h2 h => by have h1_ := hRu.1.lt h; have h2_ := hRu.2.1 _ h; omega
         replace hB1 := hB1.upd hu6 fun h => by have h1_ := hRu.1.lt h; have h2_ := hRu.2.1 _ h; omega
         replace hB9 := hB9.upd hu6 fun h => by have h1_ := hRu.1.lt h; have h2_ := hRu.2.1 _ h; omega
         replace hB36 := hB36.upd hu6 fun h => by have h1_ := hRu.1.lt h; have h2_ := hRu.2.1 _ h; omega
         replace hB11 := hB11.upd hu6 fun h => by have h1_ := hRu.1.lt h; have h2_ := hRu.2.1 _ h; omega
         replace hB17 := hB17.upd hu6 fun h => by have h1_ := hRu.1.lt h; have h2_ := hRu.2.1 _ h; omega
         replace hU := hU.trans (hu6.mono fun i _ h => by have h1_ := hRu.1.lt h; have h2_ := hRu.2.1 _ h; show n0 ≤ i; omega)
         replace hRu := hU6
         refine L_nil ?_
         refine B_n ?_
         refine T_n ?_
         refine W_reg ?_
         refine L_op rfl (X_move (v := (.int .i64 (((i : Nat) : Int)))) rfl ?_)
         refine L_op rfl (X_arith (k := .i64) (a := ((i : Nat) : Int)) (b := 1) (r := ((i + 1 : Nat) : Int)) rfl rfl rfl (iadd64 (by omega) (by omega) (by omega)) ?_)
         refine L_op rfl (X_assign (v := (.int .i64 (((i + 1 : Nat) : Int)))) rfl ?_)
         refine L_nil ?_
         refine T_n ?_
         exact ⟨rfl, (i + 1, xs.set i true), ⟨⟨by rw [List.length_set]; omega, by rw [List.length_set]; exact hxl, hRu, hRl, hs, hQ, hB1, hB9, hB36, hB11, hB17, hU, by omega⟩, (by show (xs.set i _).length - (i + 1) < xs.length - i; rw [List.length_set]; omega)⟩, (Out.mk rfl), ⟨rfl, trivial⟩⟩
       ·refine L_op rfl (X_cmp (k := .i64) (a := ((i : Nat) : Int)) (b := ((xs.length : Nat) : Int)) (r := false) rfl rfl rfl (decide_eq_false (p := ((((i : Nat) : Int)) : Int) < ((((xs.length : Nat) : Int)) : Int)) (by omega)) ?_)
        refine L_nil ?_
        refine T_n ?_
        refine W_cf rfl ?_
        refine W_exit ?_
        refine T_e ?_
        refine T_e ?_
        refine B_x ?_
        refine T_n ?_
        refine W_seq ?_
        refine W_reg ?_
        refine L_op rfl (X_assign (v := (.int .i64 (0))) rfl ?_)
        refine L_nil ?_
        refine T_n ?_
        refine W_block ?_
        refine W_loop (α := Nat × List La) [20, 86, 87, 88, 89, 90, 91, 92, 93, 94, 95, 96, 97] (fun ⟨i, xs⟩ => [(20, (.int .i64 (((i : Nat) : Int))))]) (fun ⟨i, xs⟩ w_ => i ≤ xs.length ∧ xs.length = oC.ls.length ∧ NOwn LL w_ 44 5 sC uC oC.lv xs ∧ s.Rd w_ 0 n0 ∧ (⟨s.sz, v0 5, v0 9, s.us, s.ls⟩ : Sp).Rd w_ s0 eQ ∧ Blk w_ b1 #[(.int .i64 (s.sz)), s.uv, s.lv] 25 ∧ Blk w_ b9 #[(.int .i64 (oA.sz)), oA.uv, oA.lv] 25 ∧ Blk w_ b36 #[(.int .i64 (oC.sz)), oC.uv, oC.lv] 25 ∧ Blk w_ b11 #[(.int .i64 (s.sz)), (v0 5), (v0 9)] 25 ∧ Blk w_ b17 #[(.int .i64 (oA.sz)), oA.uv, oA.lv, (.int .i64 (oB.sz)), oB.uv, oB.lv, (.int .i64 (oC.sz)), oC.uv, oC.lv] 25 ∧ Upd (fun i => n0 ≤ i) w w_ ∧ uC ≤ w_.heap.size) (fun ⟨i, xs⟩ => xs.length - i) ⟨rfl, (0, oC.ls), ⟨Nat.zero_le _, rfl, hRl, hs, hQ, hB1, hB9, hB36, hB11, hB17, hU, by omega⟩, Out.refl _ _, ⟨rfl, trivial⟩⟩ ?_
        rintro ⟨i, xs⟩ w43 _ ⟨hil, hxl, hRl, hs, hQ, hB1, hB9, hB36, hB11, hB17, hU, huCw⟩
        have hsz_ := hU.size
        have hsvx := hRl.1.sv
        have hmx_ := hsvx.len
        have hbl4_ := hB1.lt
        have hbl10_ := hB9.lt
        have hbl18_ := hB36.lt
        have hbl9_ := hB11.lt
        have hbl63_ := hB17.lt
        refine W_seq ?_
        refine W_seq ?_
        refine W_reg ?_
        refine L_op rfl (X_move (v := (.int .i64 (((i : Nat) : Int)))) rfl ?_)
        refine L_op rfl (X_fldP (b := b36) (o := 0) (r := 2) Fd25_2 rfl rfl ?_)
        refine L_op rfl (X_load (p := (ptr b36 (2))) (v := oC.lv) T23 rfl (hB36.at1 rfl) ?_)
        refine L_op rfl (X_len (v := oC.lv) (n := xs.length) Try.underlying23 rfl hsvx ?_)
        by_cases hc44 : (((i : Nat) : Int) : Int) < (((xs.length : Nat) : Int))
        ·refine L_op rfl (X_cmp (k := .i64) (a := ((i : Nat) : Int)) (b := ((xs.length : Nat) : Int)) (r := true) rfl rfl rfl (decide_eq_true (p := ((((i : Nat) : Int)) : Int) < ((((xs.length : Nat) : Int)) : Int)) (by omega)) ?_)
         refine L_nil ?_
         refine T_n ?_
         refine W_ct rfl ?_
         refine W_skip ?_
         refine T_n ?_
         refine W_seq ?_
         refine W_block ?_
         refine W_reg ?_
         refine L_op rfl (X_fldP (b := b36) (o := 0) (r := 2) Fd25_2 rfl rfl ?_)
         refine L_op rfl (X_load (p := (ptr b36 (2))) (v := oC.lv) T23 rfl (hB36.at1 rfl) ?_)
         refine L_op rfl (X_move (v := (.int .i64 (((i : Nat) : Int)))) rfl ?_)
         refine L_op rfl (X_build built44m ?_)
         refine L_op rfl (X_idx (v := oC.lv) (n := xs.length) (k := .i64) (i := ((i : Nat) : Int)) S23 rfl hsvx rfl (by omega) (by omega) ?_)
         refine L_op0 (X_storeOwnA (i := ((i : Nat) : Int).toNat * 2) (m := 2) (v := oC.lv) (ys := LL.cel ((-1 : Int), (0 : Int))) A44 hRl.1 (by show _ ≤ xs.length * 2; omega) (by decide) rfl rfl (LL.one _ (fun _ h => by cases h)) rfl ?_)
         intro w6 hO6 hu6
         have hz6_ := hu6.size
         have hL6 : NOwn LL w6 44 5 sC uC oC.lv (xs.set i ((-1 : Int), (0 : Int))) := NOwn.of (fun _ => rfl) (hO6.eq (by rw [List.length_set]) (by rw [flat_setA (L := LL) (by omega)]; show _ ++ LL.cel ((-1 : Int), (0 : Int)) ++ _ = _; rw [Int.toNat_natCast]; rfl)) hRl.2.1
         replace hs := hs.upd hu6 fun i h1 h2 h => by have h1_ := hRl.1.lt h; have h2_ := hRl.2.1 _ h; omega
         replace hQ := hQ.upd hu6 fun i h1 h2 h => by have h1_ := hRl.1.lt h; have h2_ := hRl.2.1 _ h; omega
         replace hB1 := hB1.upd hu6 fun h => by have h1_ := hRl.1.lt h; have h2_ := hRl.2.1 _ h; omega
         replace hB9 := hB9.upd hu6 fun h => by have h1_ := hRl.1.lt h; have h2_ := hRl.2.1 _ h; omega
         replace hB36 := hB36.upd hu6 fun h => by have h1_ := hRl.1.lt h; have h2_ := hRl.2.1 _ h; omega
         replace hB11 := hB11.upd hu6 fun h => by have h1_ := hRl.1.lt h; have h2_ := hRl.2.1 _ h; omega
         replace hB17 := hB17.upd hu6 fun h => by have h1_ := hRl.1.lt h; have h2_ := hRl.2.1 _ h; omega
         replace hU := hU.trans (hu6.mono fun i _ h => by have h1_ := hRl.1.lt h; have h2_ := hRl.2.1 _ h; show n0 ≤ i; omega)
         replace hRl := hL6
         refine L_nil ?_
         refine B_n ?_
         refine T_n ?_
         refine W_reg ?_
         refine L_op rfl (X_move (v := (.int .i64 (((i : Nat) : Int)))) rfl ?_)
         refine L_op rfl (X_arith (k := .i64) (a := ((i : Nat) : Int)) (b := 1) (r := ((i + 1 : Nat) : Int)) rfl rfl rfl (iadd64 (by omega) (by omega) (by omega)) ?_)
         refine L_op rfl (X_assign (v := (.int .i64 (((i + 1 : Nat) : Int)))) rfl ?_)
         refine L_nil ?_
         refine T_n ?_
         exact ⟨rfl, (i + 1, xs.set i ((-1 : Int), (0 : Int))), ⟨⟨by rw [List.length_set]; omega, by rw [List.length_set]; exact hxl, hRl, hs, hQ, hB1, hB9, hB36, hB11, hB17, hU, by omega⟩, (by show (xs.set i _).length - (i + 1) < xs.length - i; rw [List.length_set]; omega)⟩, (Out.mk rfl), ⟨rfl, trivial⟩⟩
        ·refine L_op rfl (X_cmp (k := .i64) (a := ((i : Nat) : Int)) (b := ((xs.length : Nat) : Int)) (r := false) rfl rfl rfl (decide_eq_false (p := ((((i : Nat) : Int)) : Int) < ((((xs.length : Nat) : Int)) : Int)) (by omega)) ?_)
         refine L_nil ?_
         refine T_n ?_
         refine W_cf rfl ?_
         refine W_exit ?_
         refine T_e ?_
         refine T_e ?_
         refine B_x ?_
         refine B_n ?_
         refine T_n ?_
         refine W_reg ?_
         refine L_op rfl (X_arith (k := .i64) (a := 2) (b := 1) (r := 3) rfl rfl rfl rfl ?_)
         refine L_op rfl (X_move (v := (.int .i64 (3))) rfl ?_)
         refine L_nil ?_
         refine T_n ?_
         refine Rounds_s (m := 0) ?_
         refine W_seq ?_
         refine W_reg ?_
         refine L_op rfl (X_cmp (k := .i64) (a := 3) (b := 3) (r := false) rfl rfl rfl rfl ?_)
         refine L_nil ?_
         refine T_n ?_
         refine W_seq ?_
         refine W_cf rfl ?_
         refine W_exit ?_
         refine T_e ?_
         refine T_e ?_
         refine B_x ?_
         refine T_n ?_
         refine W_seq ?_
         refine W_reg ?_
         refine L_op rfl (X_loadA (p := (ptr b1 (0))) (xs := [(.int .i64 (s.sz)), s.uv, s.lv]) A25 rfl hB1.atAll rfl ?_)
         refine L_op rfl (X_loadA (xs := [.int .i64 s.sz, v0 5, v0 9]) A25 hb11 hB11.atAll rfl ?_)
         have hcr_ := c_sameL s (⟨s.sz, v0 5, v0 9, s.us, s.ls⟩ : Sp) w43 0 n0 s0 eQ hs hQ
         refine L_op rfl (X_fn (vs := [(.agg ([(.int .i64 (s.sz)), s.uv, s.lv]).toArray), (.agg #[(.int .i64 (s.sz)), (v0 5), (v0 9)])]) en10 rfl ?_)
         refine CT.mono hcr_ ?_
         clear hcr_
         rintro _ w45 ⟨⟨gS, rfl, hgS⟩, hu45⟩
         have hz45 := hu45.size
         replace hRl := hRl.ext hu45
         replace hs := hs.ext hu45
         replace hQ := hQ.ext hu45
         replace hB1 := hB1.ext hu45
         replace hB9 := hB9.ext hu45
         replace hB36 := hB36.ext hu45
         replace hB11 := hB11.ext hu45
         replace hB17 := hB17.ext hu45
         replace hU := hU.trans (Ext.upd hu45)
         obtain rfl : gS = true := hgS.2 ⟨rfl, rfl, rfl⟩
         refine L_op rfl (X_move (v := (.bool (true))) rfl ?_)
         refine L_gy (dj := 102) rfl rfl rfl (X_fldP (b := b9) (o := 0) (r := 1) Fd25_1 rfl rfl ?_)
         refine L_gy (dj := 102) rfl rfl rfl (X_load (p := (ptr b9 (1))) (v := oA.uv) T22 rfl (hB9.at1 rfl) ?_)
         refine L_gy (dj := 102) rfl rfl rfl (X_len (v := oA.uv) (n := oA.us.length) Try.underlying22 rfl hvA1 ?_)
         refine L_gy (dj := 102) rfl rfl rfl (X_fldP (b := b1) (o := 0) (r := 0) Fd25_0 rfl rfl ?_)
         refine L_gy (dj := 102) rfl rfl rfl (X_load (p := (ptr b1 (0))) (v := (.int .i64 (s.sz))) T3 rfl (hB1.at1 rfl) ?_)
         refine L_gy (dj := 102) rfl rfl rfl (X_cmp (k := .i64) (a := ((oA.us.length : Nat) : Int)) (b := s.sz) (r := true) rfl rfl rfl (decide_eq_true (p := ((((oA.us.length : Nat) : Int)) : Int) = ((s.sz) : Int)) (by omega)) ?_)
         refine L_op rfl (X_pick (t := true) (v := (.bool (true))) rfl rfl ?_)
         refine L_op rfl (X_move (v := (.bool (true))) rfl ?_)
         refine L_gy (dj := 110) rfl rfl rfl (X_fn (vs := []) en8 rfl (CT.mono (c_wakes _) ?_))
         rintro _ w46 ⟨rfl, hu46⟩
         have hz46 := hu46.size
         replace hRl := hRl.ext hu46
         replace hs := hs.ext hu46
         replace hQ := hQ.ext hu46
         replace hB1 := hB1.ext hu46
         replace hB9 := hB9.ext hu46
         replace hB36 := hB36.ext hu46
         replace hB11 := hB11.ext hu46
         replace hB17 := hB17.ext hu46
         replace hU := hU.trans (Ext.upd hu46)
         refine L_op rfl (X_pick (t := true) (v := (.bool (true))) rfl rfl ?_)
         refine L_op rfl (X_assign (v := (.bool (true))) rfl ?_)
         refine L_nil ?_
         refine T_n ?_
         refine W_ret ?_
         exact BQ_r (End_1 Try.results5 (v := .bool true) rfl ⟨rfl, hU.own hn0⟩)
  ·rw [hc6]
   refine L_gy (dj := 23) rfl rfl rfl (X_not (b := false) (r := true) rfl rfl ?_)
   refine L_op rfl (X_pick (t := false) (v := (.bool (true))) rfl rfl ?_)
   refine L_nil ?_
   refine T_n ?_
   refine W_ct rfl ?_
   refine W_seq ?_
   refine W_reg ?_
   refine L_op rfl (X_fn (vs := []) en8 rfl (CT.mono (c_wakes _) ?_))
   rintro _ w47 ⟨rfl, hu47⟩
   have hz47 := hu47.size
   replace hs := hs.ext hu47
   replace hU := hU.trans (Ext.upd hu47)
   replace hB1 := hB1.ext hu47
   refine L_op rfl (X_assign (v := (.bool (true))) rfl ?_)
   refine L_nil ?_
   refine T_n ?_
   refine W_ret ?_
   refine T_r ?_
   exact BQ_r (End_1 Try.results5 (v := .bool true) rfl ⟨rfl, hU.own hn0⟩)
end Go.Proofs.Ytmaikcnjgkoghaa
