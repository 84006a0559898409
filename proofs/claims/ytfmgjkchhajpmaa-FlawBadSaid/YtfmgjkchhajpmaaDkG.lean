/-
  Contracts of chapter 04: Attach, references; plain laws on Spoil. (Printed by wip/gen/t04j.py of this repo.)
-/
import Derived.Test.YtfmgjkchhajpmaaCrashLaw
namespace Go.Proofs.Ytfmgjkchhajpmaa
open Go Go.SL Go.Proofs
set_option linter.unusedVariables false

theorem c_attach (pv cv bv : Value) (ps : List Pg) (cs : List Wr) (bs : List Int) (off : Bool) (w : World) (lo up : Nat) (hup : up ≤ w.heap.size) (hp : NRd LP w lo up pv ps) (hc : NRd LW w lo up cv cs) (hb : NRd LI w lo up bv bs) (hpL : ps.length ≤ 1048576) (hcL : cs.length ≤ 1048576) (hbL : bs.length ≤ 1048576) : CT Try.prog 23 #[(.agg #[pv, cv, bv, (.bool (off))])] w fun v w' => ∃ p2 c2 i2, v = .agg #[p2, c2, i2, .bool false] ∧ NOwn LP w' 33 5 w.heap.size w'.heap.size p2 ps ∧ NOwn LW w' 35 5 w.heap.size w'.heap.size c2 cs ∧ NOwn LI w' 3 5 w.heap.size w'.heap.size i2 bs ∧ Ext w w' := by
  obtain ⟨n0, hn0⟩ : ∃ n, n = w.heap.size := ⟨_, rfl⟩
  have hU : Upd (fun i => n0 ≤ i) w w := Upd.refl _ _
  have hpl := hp.sv.len
  have hcl := hc.sv.len
  have hbl := hb.sv.len
  rw [← hn0] at hup
  refine CT_of Try.func23 rfl rfl rfl ?_
  refine W_seq ?_
  refine W_reg ?_
  refine L_op rfl (X_box (v := (.agg #[pv, cv, bv, (.bool (off))])) (c := ([pv, cv, bv, (.bool (off))]).toArray) rfl rfl ?_)
  intro b1 w1 hn1
  have hbn1 := hn1.num; have hbs1 := hn1.size
  replace hp := hp.ext hn1.ext
  replace hc := hc.ext hn1.ext
  replace hb := hb.ext hn1.ext
  replace hU := hU.trans (Ext.upd hn1.ext)
  have hB1 := hn1.blk
  refine L_op rfl (X_alloc (z := (.agg #[(.slice none 0 0), (.slice none 0 0), (.slice none 0 0), (.bool (false))])) (c := #[(.slice none 0 0), (.slice none 0 0), (.slice none 0 0), (.bool (false))]) Zv26 rfl ?_)
  intro b2 w2 hn2
  have hbn2 := hn2.num; have hbs2 := hn2.size
  replace hp := hp.ext hn2.ext
  replace hc := hc.ext hn2.ext
  replace hb := hb.ext hn2.ext
  replace hU := hU.trans (Ext.upd hn2.ext)
  replace hB1 := hB1.ext hn2.ext
  have hB2 := hn2.blk
  refine L_nil ?_
  refine T_n ?_
  refine W_seq ?_
  refine W_reg ?_
  refine L_op rfl (X_loadA (p := (ptr b1 (0))) (xs := [pv, cv, bv, (.bool (off))]) A26 rfl hB1.atAll rfl ?_)
  obtain ⟨s0, hs0⟩ : ∃ n, n = w2.heap.size := ⟨_, rfl⟩
  refine L_op rfl (X_fn (vs := [(.agg ([pv, cv, bv, (.bool (off))]).toArray)]) en25 rfl (CT.mono (c_own pv cv bv ps cs bs off _ lo up (by omega) hp hc hb hpL hcL hbL) ?_))
  rintro _ w3 ⟨p_2, c_2, i_2, rfl, hP2, hC2, hI2, hu3⟩
  have hz3 := hu3.size
  rw [← hs0] at hP2 hC2 hI2
  obtain ⟨us0, hus0_⟩ : ∃ n, n = w3.heap.size := ⟨_, rfl⟩
  rw [← hus0_] at hP2 hC2 hI2
  replace hp := hp.ext hu3
  replace hc := hc.ext hu3
  replace hb := hb.ext hu3
  replace hU := hU.trans (Ext.upd hu3)
  replace hB1 := hB1.ext hu3
  replace hB2 := hB2.ext hu3
  refine L_op0 (X_storeW (b := b1) (ys := [p_2, c_2, i_2, (.bool (off))]) A26 rfl rfl (List.forall_mem_cons.2 ⟨(hP2.1.sv.one), (List.forall_mem_cons.2 ⟨(hC2.1.sv.one), (List.forall_mem_cons.2 ⟨(hI2.1.sv.one), (List.forall_mem_cons.2 ⟨rfl, (fun _ h => by cases h)⟩)⟩)⟩)⟩) rfl hB1 rfl ?_)
  intro w4 hu4 hb4
  have hz4 := hu4.size
  replace hp := hp.upd hu4 fun i h1 h2 h => by have h : i = b1 := h; omega
  replace hc := hc.upd hu4 fun i h1 h2 h => by have h : i = b1 := h; omega
  replace hb := hb.upd hu4 fun i h1 h2 h => by have h : i = b1 := h; omega
  replace hU := hU.trans (hu4.mono fun i _ h => by have h : i = b1 := h; show n0 ≤ i; omega)
  replace hB2 := hB2.upd hu4 fun h => by have h : b2 = b1 := h; omega
  replace hP2 := hP2.upd hu4 fun i h1 h2 h => by have h : i = b1 := h; omega
  replace hC2 := hC2.upd hu4 fun i h1 h2 h => by have h : i = b1 := h; omega
  replace hI2 := hI2.upd hu4 fun i h1 h2 h => by have h : i = b1 := h; omega
  replace hB1 : Blk w4 b1 #[p_2, c_2, i_2, (.bool (off))] 26 := hb4
  refine L_nil ?_
  refine T_n ?_
  refine W_seq ?_
  refine W_reg ?_
  refine L_op rfl (X_fldP (b := b1) (o := 0) (r := 3) Fd26_3 rfl rfl ?_)
  refine L_op0 (X_store (b := b1) (o := 3) T4 rfl rfl rfl hB1 (by show (3 : Nat) < 4; decide) ?_)
  intro w5 hu5 hb5
  have hz5 := hu5.size
  replace hp := hp.upd hu5 fun i h1 h2 h => by have h : i = b1 := h; omega
  replace hc := hc.upd hu5 fun i h1 h2 h => by have h : i = b1 := h; omega
  replace hb := hb.upd hu5 fun i h1 h2 h => by have h : i = b1 := h; omega
  replace hU := hU.trans (hu5.mono fun i _ h => by have h : i = b1 := h; show n0 ≤ i; omega)
  replace hB2 := hB2.upd hu5 fun h => by have h : b2 = b1 := h; omega
  replace hP2 := hP2.upd hu5 fun i h1 h2 h => by have h : i = b1 := h; omega
  replace hC2 := hC2.upd hu5 fun i h1 h2 h => by have h : i = b1 := h; omega
  replace hI2 := hI2.upd hu5 fun i h1 h2 h => by have h : i = b1 := h; omega
  replace hB1 : Blk w5 b1 #[p_2, c_2, i_2, (.bool (false))] 26 := hb5
  refine L_nil ?_
  refine T_n ?_
  refine W_seq ?_
  refine W_reg ?_
  refine L_op rfl (X_loadA (p := (ptr b1 (0))) (xs := [p_2, c_2, i_2, (.bool (false))]) A26 rfl hB1.atAll rfl ?_)
  refine L_op0 (X_storeW (b := b2) (ys := [p_2, c_2, i_2, (.bool (false))]) A26 rfl rfl (List.forall_mem_cons.2 ⟨(hP2.1.sv.one), (List.forall_mem_cons.2 ⟨(hC2.1.sv.one), (List.forall_mem_cons.2 ⟨(hI2.1.sv.one), (List.forall_mem_cons.2 ⟨rfl, (fun _ h => by cases h)⟩)⟩)⟩)⟩) rfl hB2 rfl ?_)
  intro w6 hu6 hb6
  have hz6 := hu6.size
  replace hp := hp.upd hu6 fun i h1 h2 h => by have h : i = b2 := h; omega
  replace hc := hc.upd hu6 fun i h1 h2 h => by have h : i = b2 := h; omega
  replace hb := hb.upd hu6 fun i h1 h2 h => by have h : i = b2 := h; omega
  replace hU := hU.trans (hu6.mono fun i _ h => by have h : i = b2 := h; show n0 ≤ i; omega)
  replace hP2 := hP2.upd hu6 fun i h1 h2 h => by have h : i = b2 := h; omega
  replace hC2 := hC2.upd hu6 fun i h1 h2 h => by have h : i = b2 := h; omega
  replace hI2 := hI2.upd hu6 fun i h1 h2 h => by have h : i = b2 := h; omega
  replace hB1 := hB1.upd hu6 fun h => by have h : b1 = b2 := h; omega
  replace hB2 : Blk w6 b2 #[p_2, c_2, i_2, (.bool (false))] 26 := hb6
  refine L_nil ?_
  refine T_n ?_
  refine W_ret ?_
  exact BQ_r (End_1 Try.results23 (RV_A A26 rfl hB2.atAll rfl) ⟨_, _, _, rfl, hP2.mono (by omega) (by omega), hC2.mono (by omega) (by omega), hI2.mono (by omega) (by omega), hU.own hn0⟩)

theorem c_attachR (pv cv bv : Value) (ps : List Pg) (cs : List Wr) (bs : List Int) (off : Bool) (w : World) (lo up : Nat) (hup : up ≤ w.heap.size) (hp : NRd LP w lo up pv ps) (hc : NRd LW w lo up cv cs) (hb : NRd LI w lo up bv bs) (hpL : ps.length ≤ 1048576) (hcL : cs.length ≤ 1048576) (hbL : bs.length ≤ 1048576) : CT Try.prog 24 #[(.agg #[pv, cv, bv, (.bool (off))])] w fun v w' => ∃ p2 c2 i2, v = .agg #[p2, c2, i2, .bool false] ∧ NOwn LP w' 33 5 w.heap.size w'.heap.size p2 ps ∧ NOwn LW w' 35 5 w.heap.size w'.heap.size c2 cs ∧ NOwn LI w' 3 5 w.heap.size w'.heap.size i2 bs ∧ Ext w w' := by
  obtain ⟨n0, hn0⟩ : ∃ n, n = w.heap.size := ⟨_, rfl⟩
  have hU : Upd (fun i => n0 ≤ i) w w := Upd.refl _ _
  have hpl := hp.sv.len
  have hcl := hc.sv.len
  have hbl := hb.sv.len
  rw [← hn0] at hup
  refine CT_of Try.func24 rfl rfl rfl ?_
  refine W_seq ?_
  refine W_reg ?_
  refine L_op rfl (X_box (v := (.agg #[pv, cv, bv, (.bool (off))])) (c := ([pv, cv, bv, (.bool (off))]).toArray) rfl rfl ?_)
  intro b1 w1 hn1
  have hbn1 := hn1.num; have hbs1 := hn1.size
  replace hp := hp.ext hn1.ext
  replace hc := hc.ext hn1.ext
  replace hb := hb.ext hn1.ext
  replace hU := hU.trans (Ext.upd hn1.ext)
  have hB1 := hn1.blk
  refine L_op rfl (X_alloc (z := (.agg #[(.slice none 0 0), (.slice none 0 0), (.slice none 0 0), (.bool (false))])) (c := #[(.slice none 0 0), (.slice none 0 0), (.slice none 0 0), (.bool (false))]) Zv26 rfl ?_)
  intro b2 w2 hn2
  have hbn2 := hn2.num; have hbs2 := hn2.size
  replace hp := hp.ext hn2.ext
  replace hc := hc.ext hn2.ext
  replace hb := hb.ext hn2.ext
  replace hU := hU.trans (Ext.upd hn2.ext)
  replace hB1 := hB1.ext hn2.ext
  have hB2 := hn2.blk
  refine L_nil ?_
  refine T_n ?_
  refine W_seq ?_
  refine W_reg ?_
  refine L_op rfl (X_loadA (p := (ptr b1 (0))) (xs := [pv, cv, bv, (.bool (off))]) A26 rfl hB1.atAll rfl ?_)
  obtain ⟨s0, hs0⟩ : ∃ n, n = w2.heap.size := ⟨_, rfl⟩
  refine L_op rfl (X_fn (vs := [(.agg ([pv, cv, bv, (.bool (off))]).toArray)]) en12 rfl (CT.mono (c_ownR pv cv bv ps cs bs off _ lo up (by omega) hp hc hb hpL hcL hbL) ?_))
  rintro _ w3 ⟨p_2, c_2, i_2, rfl, hP2, hC2, hI2, hu3⟩
  have hz3 := hu3.size
  rw [← hs0] at hP2 hC2 hI2
  obtain ⟨us0, hus0_⟩ : ∃ n, n = w3.heap.size := ⟨_, rfl⟩
  rw [← hus0_] at hP2 hC2 hI2
  replace hp := hp.ext hu3
  replace hc := hc.ext hu3
  replace hb := hb.ext hu3
  replace hU := hU.trans (Ext.upd hu3)
  replace hB1 := hB1.ext hu3
  replace hB2 := hB2.ext hu3
  refine L_op rfl (X_alloc (z := (.agg #[(.slice none 0 0), (.slice none 0 0), (.slice none 0 0), (.bool (false))])) (c := #[(.slice none 0 0), (.slice none 0 0), (.slice none 0 0), (.bool (false))]) Zv26 rfl ?_)
  intro b4 w4 hn4
  have hbn4 := hn4.num; have hbs4 := hn4.size
  replace hp := hp.ext hn4.ext
  replace hc := hc.ext hn4.ext
  replace hb := hb.ext hn4.ext
  replace hU := hU.trans (Ext.upd hn4.ext)
  replace hB1 := hB1.ext hn4.ext
  replace hB2 := hB2.ext hn4.ext
  replace hP2 := hP2.ext hn4.ext
  replace hC2 := hC2.ext hn4.ext
  replace hI2 := hI2.ext hn4.ext
  have hB4 := hn4.blk
  refine L_op0 (X_storeW (b := b4) (ys := [p_2, c_2, i_2, (.bool (off))]) A26 rfl rfl (List.forall_mem_cons.2 ⟨(hP2.1.sv.one), (List.forall_mem_cons.2 ⟨(hC2.1.sv.one), (List.forall_mem_cons.2 ⟨(hI2.1.sv.one), (List.forall_mem_cons.2 ⟨rfl, (fun _ h => by cases h)⟩)⟩)⟩)⟩) rfl hB4 rfl ?_)
  intro w5 hu5 hb5
  have hz5 := hu5.size
  replace hp := hp.upd hu5 fun i h1 h2 h => by have h : i = b4 := h; omega
  replace hc := hc.upd hu5 fun i h1 h2 h => by have h : i = b4 := h; omega
  replace hb := hb.upd hu5 fun i h1 h2 h => by have h : i = b4 := h; omega
  replace hU := hU.trans (hu5.mono fun i _ h => by have h : i = b4 := h; show n0 ≤ i; omega)
  replace hB1 := hB1.upd hu5 fun h => by have h : b1 = b4 := h; omega
  replace hB2 := hB2.upd hu5 fun h => by have h : b2 = b4 := h; omega
  replace hP2 := hP2.upd hu5 fun i h1 h2 h => by have h : i = b4 := h; omega
  replace hC2 := hC2.upd hu5 fun i h1 h2 h => by have h : i = b4 := h; omega
  replace hI2 := hI2.upd hu5 fun i h1 h2 h => by have h : i = b4 := h; omega
  replace hB4 : Blk w5 b4 #[p_2, c_2, i_2, (.bool (off))] 26 := hb5
  refine L_nil ?_
  refine T_n ?_
  refine W_seq ?_
  refine W_reg ?_
  refine L_op rfl (X_fldP (b := b4) (o := 0) (r := 3) Fd26_3 rfl rfl ?_)
  refine L_op0 (X_store (b := b4) (o := 3) T4 rfl rfl rfl hB4 (by show (3 : Nat) < 4; decide) ?_)
  intro w6 hu6 hb6
  have hz6 := hu6.size
  replace hp := hp.upd hu6 fun i h1 h2 h => by have h : i = b4 := h; omega
  replace hc := hc.upd hu6 fun i h1 h2 h => by have h : i = b4 := h; omega
  replace hb := hb.upd hu6 fun i h1 h2 h => by have h : i = b4 := h; omega
  replace hU := hU.trans (hu6.mono fun i _ h => by have h : i = b4 := h; show n0 ≤ i; omega)
  replace hB1 := hB1.upd hu6 fun h => by have h : b1 = b4 := h; omega
  replace hB2 := hB2.upd hu6 fun h => by have h : b2 = b4 := h; omega
  replace hP2 := hP2.upd hu6 fun i h1 h2 h => by have h : i = b4 := h; omega
  replace hC2 := hC2.upd hu6 fun i h1 h2 h => by have h : i = b4 := h; omega
  replace hI2 := hI2.upd hu6 fun i h1 h2 h => by have h : i = b4 := h; omega
  replace hB4 : Blk w6 b4 #[p_2, c_2, i_2, (.bool (false))] 26 := hb6
  refine L_nil ?_
  refine T_n ?_
  refine W_seq ?_
  refine W_reg ?_
  refine L_op rfl (X_loadA (p := (ptr b4 (0))) (xs := [p_2, c_2, i_2, (.bool (false))]) A26 rfl hB4.atAll rfl ?_)
  refine L_op0 (X_storeW (b := b2) (ys := [p_2, c_2, i_2, (.bool (false))]) A26 rfl rfl (List.forall_mem_cons.2 ⟨(hP2.1.sv.one), (List.forall_mem_cons.2 ⟨(hC2.1.sv.one), (List.forall_mem_cons.2 ⟨(hI2.1.sv.one), (List.forall_mem_cons.2 ⟨rfl, (fun _ h => by cases h)⟩)⟩)⟩)⟩) rfl hB2 rfl ?_)
  intro w7 hu7 hb7
  have hz7 := hu7.size
  replace hp := hp.upd hu7 fun i h1 h2 h => by have h : i = b2 := h; omega
  replace hc := hc.upd hu7 fun i h1 h2 h => by have h : i = b2 := h; omega
  replace hb := hb.upd hu7 fun i h1 h2 h => by have h : i = b2 := h; omega
  replace hU := hU.trans (hu7.mono fun i _ h => by have h : i = b2 := h; show n0 ≤ i; omega)
  replace hB1 := hB1.upd hu7 fun h => by have h : b1 = b2 := h; omega
  replace hP2 := hP2.upd hu7 fun i h1 h2 h => by have h : i = b2 := h; omega
  replace hC2 := hC2.upd hu7 fun i h1 h2 h => by have h : i = b2 := h; omega
  replace hI2 := hI2.upd hu7 fun i h1 h2 h => by have h : i = b2 := h; omega
  replace hB4 := hB4.upd hu7 fun h => by have h : b4 = b2 := h; omega
  replace hB2 : Blk w7 b2 #[p_2, c_2, i_2, (.bool (false))] 26 := hb7
  refine L_nil ?_
  refine T_n ?_
  refine W_ret ?_
  exact BQ_r (End_1 Try.results24 (RV_A A26 rfl hB2.atAll rfl) ⟨_, _, _, rfl, hP2.mono (by omega) (by omega), hC2.mono (by omega) (by omega), hI2.mono (by omega) (by omega), hU.own hn0⟩)

theorem c_detachR (pv cv bv : Value) (ps : List Pg) (cs : List Wr) (bs : List Int) (off : Bool) (w : World) (lo up : Nat) (hup : up ≤ w.heap.size) (hp : NRd LP w lo up pv ps) (hc : NRd LW w lo up cv cs) (hb : NRd LI w lo up bv bs) (hpL : ps.length ≤ 1048576) (hcL : cs.length ≤ 1048576) (hbL : bs.length ≤ 1048576) : CT Try.prog 22 #[(.agg #[pv, cv, bv, (.bool (off))])] w fun v w' => ∃ p2 i2, v = .agg #[p2, .slice none 0 0, i2, .bool true] ∧ NOwn LP w' 33 5 w.heap.size w'.heap.size p2 ps ∧ NOwn LI w' 3 5 w.heap.size w'.heap.size i2 bs ∧ Ext w w' := by
  obtain ⟨n0, hn0⟩ : ∃ n, n = w.heap.size := ⟨_, rfl⟩
  have hU : Upd (fun i => n0 ≤ i) w w := Upd.refl _ _
  have hpl := hp.sv.len
  have hcl := hc.sv.len
  have hbl := hb.sv.len
  rw [← hn0] at hup
  refine CT_of Try.func22 rfl rfl rfl ?_
  refine W_seq ?_
  refine W_reg ?_
  refine L_op rfl (X_box (v := (.agg #[pv, cv, bv, (.bool (off))])) (c := ([pv, cv, bv, (.bool (off))]).toArray) rfl rfl ?_)
  intro b1 w1 hn1
  have hbn1 := hn1.num; have hbs1 := hn1.size
  replace hp := hp.ext hn1.ext
  replace hc := hc.ext hn1.ext
  replace hb := hb.ext hn1.ext
  replace hU := hU.trans (Ext.upd hn1.ext)
  have hB1 := hn1.blk
  refine L_op rfl (X_alloc (z := (.agg #[(.slice none 0 0), (.slice none 0 0), (.slice none 0 0), (.bool (false))])) (c := #[(.slice none 0 0), (.slice none 0 0), (.slice none 0 0), (.bool (false))]) Zv26 rfl ?_)
  intro b2 w2 hn2
  have hbn2 := hn2.num; have hbs2 := hn2.size
  replace hp := hp.ext hn2.ext
  replace hc := hc.ext hn2.ext
  replace hb := hb.ext hn2.ext
  replace hU := hU.trans (Ext.upd hn2.ext)
  replace hB1 := hB1.ext hn2.ext
  have hB2 := hn2.blk
  refine L_nil ?_
  refine T_n ?_
  refine W_seq ?_
  refine W_reg ?_
  refine L_op rfl (X_loadA (p := (ptr b1 (0))) (xs := [pv, cv, bv, (.bool (off))]) A26 rfl hB1.atAll rfl ?_)
  obtain ⟨s0, hs0⟩ : ∃ n, n = w2.heap.size := ⟨_, rfl⟩
  refine L_op rfl (X_fn (vs := [(.agg ([pv, cv, bv, (.bool (off))]).toArray)]) en12 rfl (CT.mono (c_ownR pv cv bv ps cs bs off _ lo up (by omega) hp hc hb hpL hcL hbL) ?_))
  rintro _ w3 ⟨p_2, c_2, i_2, rfl, hP2, hC2, hI2, hu3⟩
  have hz3 := hu3.size
  rw [← hs0] at hP2 hC2 hI2
  obtain ⟨us0, hus0_⟩ : ∃ n, n = w3.heap.size := ⟨_, rfl⟩
  rw [← hus0_] at hP2 hC2 hI2
  replace hp := hp.ext hu3
  replace hc := hc.ext hu3
  replace hb := hb.ext hu3
  replace hU := hU.trans (Ext.upd hu3)
  replace hB1 := hB1.ext hu3
  replace hB2 := hB2.ext hu3
  refine L_op rfl (X_alloc (z := (.agg #[(.slice none 0 0), (.slice none 0 0), (.slice none 0 0), (.bool (false))])) (c := #[(.slice none 0 0), (.slice none 0 0), (.slice none 0 0), (.bool (false))]) Zv26 rfl ?_)
  intro b4 w4 hn4
  have hbn4 := hn4.num; have hbs4 := hn4.size
  replace hp := hp.ext hn4.ext
  replace hc := hc.ext hn4.ext
  replace hb := hb.ext hn4.ext
  replace hU := hU.trans (Ext.upd hn4.ext)
  replace hB1 := hB1.ext hn4.ext
  replace hB2 := hB2.ext hn4.ext
  replace hP2 := hP2.ext hn4.ext
  replace hC2 := hC2.ext hn4.ext
  replace hI2 := hI2.ext hn4.ext
  have hB4 := hn4.blk
  refine L_op0 (X_storeW (b := b4) (ys := [p_2, c_2, i_2, (.bool (off))]) A26 rfl rfl (List.forall_mem_cons.2 ⟨(hP2.1.sv.one), (List.forall_mem_cons.2 ⟨(hC2.1.sv.one), (List.forall_mem_cons.2 ⟨(hI2.1.sv.one), (List.forall_mem_cons.2 ⟨rfl, (fun _ h => by cases h)⟩)⟩)⟩)⟩) rfl hB4 rfl ?_)
  intro w5 hu5 hb5
  have hz5 := hu5.size
  replace hp := hp.upd hu5 fun i h1 h2 h => by have h : i = b4 := h; omega
  replace hc := hc.upd hu5 fun i h1 h2 h => by have h : i = b4 := h; omega
  replace hb := hb.upd hu5 fun i h1 h2 h => by have h : i = b4 := h; omega
  replace hU := hU.trans (hu5.mono fun i _ h => by have h : i = b4 := h; show n0 ≤ i; omega)
  replace hB1 := hB1.upd hu5 fun h => by have h : b1 = b4 := h; omega
  replace hB2 := hB2.upd hu5 fun h => by have h : b2 = b4 := h; omega
  replace hP2 := hP2.upd hu5 fun i h1 h2 h => by have h : i = b4 := h; omega
  replace hC2 := hC2.upd hu5 fun i h1 h2 h => by have h : i = b4 := h; omega
  replace hI2 := hI2.upd hu5 fun i h1 h2 h => by have h : i = b4 := h; omega
  replace hB4 : Blk w5 b4 #[p_2, c_2, i_2, (.bool (off))] 26 := hb5
  refine L_nil ?_
  refine T_n ?_
  refine W_seq ?_
  refine W_reg ?_
  refine L_op rfl (X_fldP (b := b4) (o := 0) (r := 3) Fd26_3 rfl rfl ?_)
  refine L_op0 (X_store (b := b4) (o := 3) T4 rfl rfl rfl hB4 (by show (3 : Nat) < 4; decide) ?_)
  intro w6 hu6 hb6
  have hz6 := hu6.size
  replace hp := hp.upd hu6 fun i h1 h2 h => by have h : i = b4 := h; omega
  replace hc := hc.upd hu6 fun i h1 h2 h => by have h : i = b4 := h; omega
  replace hb := hb.upd hu6 fun i h1 h2 h => by have h : i = b4 := h; omega
  replace hU := hU.trans (hu6.mono fun i _ h => by have h : i = b4 := h; show n0 ≤ i; omega)
  replace hB1 := hB1.upd hu6 fun h => by have h : b1 = b4 := h; omega
  replace hB2 := hB2.upd hu6 fun h => by have h : b2 = b4 := h; omega
  replace hP2 := hP2.upd hu6 fun i h1 h2 h => by have h : i = b4 := h; omega
  replace hC2 := hC2.upd hu6 fun i h1 h2 h => by have h : i = b4 := h; omega
  replace hI2 := hI2.upd hu6 fun i h1 h2 h => by have h : i = b4 := h; omega
  replace hB4 : Blk w6 b4 #[p_2, c_2, i_2, (.bool (true))] 26 := hb6
  refine L_nil ?_
  refine T_n ?_
  refine W_seq ?_
  refine W_reg ?_
  refine L_op rfl (X_fldP (b := b4) (o := 0) (r := 1) Fd26_1 rfl rfl ?_)
  refine L_op0 (X_store (b := b4) (o := 1) T23 rfl rfl rfl hB4 (by show (1 : Nat) < 4; decide) ?_)
  intro w7 hu7 hb7
  have hz7 := hu7.size
  replace hp := hp.upd hu7 fun i h1 h2 h => by have h : i = b4 := h; omega
  replace hc := hc.upd hu7 fun i h1 h2 h => by have h : i = b4 := h; omega
  replace hb := hb.upd hu7 fun i h1 h2 h => by have h : i = b4 := h; omega
  replace hU := hU.trans (hu7.mono fun i _ h => by have h : i = b4 := h; show n0 ≤ i; omega)
  replace hB1 := hB1.upd hu7 fun h => by have h : b1 = b4 := h; omega
  replace hB2 := hB2.upd hu7 fun h => by have h : b2 = b4 := h; omega
  replace hP2 := hP2.upd hu7 fun i h1 h2 h => by have h : i = b4 := h; omega
  replace hC2 := hC2.upd hu7 fun i h1 h2 h => by have h : i = b4 := h; omega
  replace hI2 := hI2.upd hu7 fun i h1 h2 h => by have h : i = b4 := h; omega
  replace hB4 : Blk w7 b4 #[p_2, (.slice none 0 0), i_2, (.bool (true))] 26 := hb7
  refine L_nil ?_
  refine T_n ?_
  refine W_seq ?_
  refine W_reg ?_
  refine L_op rfl (X_loadA (p := (ptr b4 (0))) (xs := [p_2, (.slice none 0 0), i_2, (.bool (true))]) A26 rfl hB4.atAll rfl ?_)
  refine L_op0 (X_storeW (b := b2) (ys := [p_2, (.slice none 0 0), i_2, (.bool (true))]) A26 rfl rfl (List.forall_mem_cons.2 ⟨(hP2.1.sv.one), (List.forall_mem_cons.2 ⟨rfl, (List.forall_mem_cons.2 ⟨(hI2.1.sv.one), (List.forall_mem_cons.2 ⟨rfl, (fun _ h => by cases h)⟩)⟩)⟩)⟩) rfl hB2 rfl ?_)
  intro w8 hu8 hb8
  have hz8 := hu8.size
  replace hp := hp.upd hu8 fun i h1 h2 h => by have h : i = b2 := h; omega
  replace hc := hc.upd hu8 fun i h1 h2 h => by have h : i = b2 := h; omega
  replace hb := hb.upd hu8 fun i h1 h2 h => by have h : i = b2 := h; omega
  replace hU := hU.trans (hu8.mono fun i _ h => by have h : i = b2 := h; show n0 ≤ i; omega)
  replace hB1 := hB1.upd hu8 fun h => by have h : b1 = b2 := h; omega
  replace hP2 := hP2.upd hu8 fun i h1 h2 h => by have h : i = b2 := h; omega
  replace hC2 := hC2.upd hu8 fun i h1 h2 h => by have h : i = b2 := h; omega
  replace hI2 := hI2.upd hu8 fun i h1 h2 h => by have h : i = b2 := h; omega
  replace hB4 := hB4.upd hu8 fun h => by have h : b4 = b2 := h; omega
  replace hB2 : Blk w8 b2 #[p_2, (.slice none 0 0), i_2, (.bool (true))] 26 := hb8
  refine L_nil ?_
  refine T_n ?_
  refine W_ret ?_
  exact BQ_r (End_1 Try.results22 (RV_A A26 rfl hB2.atAll rfl) ⟨_, _, rfl, hP2.mono (by omega) (by omega), hI2.mono (by omega) (by omega), hU.own hn0⟩)

theorem c_flipR (pv cv bv : Value) (ps : List Pg) (cs : List Wr) (bs : List Int) (off : Bool) (n k : Int) (y : UInt8) (w : World) (lo up : Nat) (hup : up ≤ w.heap.size) (hp : NRd LP w lo up pv ps) (hc : NRd LW w lo up cv cs) (hb : NRd LI w lo up bv bs) (hpL : ps.length ≤ 1048576) (hcL : cs.length ≤ 1048576) (hbL : bs.length ≤ 1048576) : CT Try.prog 18 #[(.agg #[pv, cv, bv, (.bool (off))]), (.int .i64 (n)), (.int .i64 (k)), (byteV y)] w fun v w' => ∃ p2 c2 i2 qs e, v = .tuple #[.agg #[p2, c2, i2, .bool off], .int .i64 e] ∧ NOwn LP w' 33 5 w.heap.size w'.heap.size p2 qs ∧ NOwn LW w' 35 5 w.heap.size w'.heap.size c2 cs ∧ NOwn LI w' 3 5 w.heap.size w'.heap.size i2 bs ∧ ((0 ≤ n ∧ n < ps.length ∧ 0 ≤ k ∧ k < 256) → e = 0 ∧ qs = flipP ps n.toNat k.toNat y) ∧ (¬ (0 ≤ n ∧ n < ps.length ∧ 0 ≤ k ∧ k < 256) → e = 2 ∧ qs = ps) ∧ Ext w w' := by
  obtain ⟨n0, hn0⟩ : ∃ n, n = w.heap.size := ⟨_, rfl⟩
  have hU : Upd (fun i => n0 ≤ i) w w := Upd.refl _ _
  have hpl := hp.sv.len
  have hcl := hc.sv.len
  have hbl := hb.sv.len
  rw [← hn0] at hup
  refine CT_of Try.func18 rfl rfl rfl ?_
  refine W_seq ?_
  refine W_reg ?_
  refine L_op rfl (X_box (v := (.agg #[pv, cv, bv, (.bool (off))])) (c := ([pv, cv, bv, (.bool (off))]).toArray) rfl rfl ?_)
  intro b1 w1 hn1
  have hbn1 := hn1.num; have hbs1 := hn1.size
  replace hp := hp.ext hn1.ext
  replace hc := hc.ext hn1.ext
  replace hb := hb.ext hn1.ext
  replace hU := hU.trans (Ext.upd hn1.ext)
  have hB1 := hn1.blk
  refine L_op rfl (X_alloc (z := (.agg #[(.slice none 0 0), (.slice none 0 0), (.slice none 0 0), (.bool (false))])) (c := #[(.slice none 0 0), (.slice none 0 0), (.slice none 0 0), (.bool (false))]) Zv26 rfl ?_)
  intro b2 w2 hn2
  have hbn2 := hn2.num; have hbs2 := hn2.size
  replace hp := hp.ext hn2.ext
  replace hc := hc.ext hn2.ext
  replace hb := hb.ext hn2.ext
  replace hU := hU.trans (Ext.upd hn2.ext)
  replace hB1 := hB1.ext hn2.ext
  have hB2 := hn2.blk
  refine L_op rfl (X_assign (v := (.int .i64 (0))) rfl ?_)
  refine L_nil ?_
  refine T_n ?_
  refine W_seq ?_
  refine W_reg ?_
  refine L_op rfl (X_loadA (p := (ptr b1 (0))) (xs := [pv, cv, bv, (.bool (off))]) A26 rfl hB1.atAll rfl ?_)
  obtain ⟨s0, hs0⟩ : ∃ n, n = w2.heap.size := ⟨_, rfl⟩
  refine L_op rfl (X_fn (vs := [(.agg ([pv, cv, bv, (.bool (off))]).toArray)]) en12 rfl (CT.mono (c_ownR pv cv bv ps cs bs off _ lo up (by omega) hp hc hb hpL hcL hbL) ?_))
  rintro _ w3 ⟨p_2, c_2, i_2, rfl, hP2, hC2, hI2, hu3⟩
  have hz3 := hu3.size
  rw [← hs0] at hP2 hC2 hI2
  obtain ⟨us0, hus0_⟩ : ∃ n, n = w3.heap.size := ⟨_, rfl⟩
  rw [← hus0_] at hP2 hC2 hI2
  replace hp := hp.ext hu3
  replace hc := hc.ext hu3
  replace hb := hb.ext hu3
  replace hU := hU.trans (Ext.upd hu3)
  replace hB1 := hB1.ext hu3
  replace hB2 := hB2.ext hu3
  refine L_op rfl (X_alloc (z := (.agg #[(.slice none 0 0), (.slice none 0 0), (.slice none 0 0), (.bool (false))])) (c := #[(.slice none 0 0), (.slice none 0 0), (.slice none 0 0), (.bool (false))]) Zv26 rfl ?_)
  intro b4 w4 hn4
  have hbn4 := hn4.num; have hbs4 := hn4.size
  replace hp := hp.ext hn4.ext
  replace hc := hc.ext hn4.ext
  replace hb := hb.ext hn4.ext
  replace hU := hU.trans (Ext.upd hn4.ext)
  replace hB1 := hB1.ext hn4.ext
  replace hB2 := hB2.ext hn4.ext
  replace hP2 := hP2.ext hn4.ext
  replace hC2 := hC2.ext hn4.ext
  replace hI2 := hI2.ext hn4.ext
  have hB4 := hn4.blk
  refine L_op0 (X_storeW (b := b4) (ys := [p_2, c_2, i_2, (.bool (off))]) A26 rfl rfl (List.forall_mem_cons.2 ⟨(hP2.1.sv.one), (List.forall_mem_cons.2 ⟨(hC2.1.sv.one), (List.forall_mem_cons.2 ⟨(hI2.1.sv.one), (List.forall_mem_cons.2 ⟨rfl, (fun _ h => by cases h)⟩)⟩)⟩)⟩) rfl hB4 rfl ?_)
  intro w5 hu5 hb5
  have hz5 := hu5.size
  replace hp := hp.upd hu5 fun i h1 h2 h => by have h : i = b4 := h; omega
  replace hc := hc.upd hu5 fun i h1 h2 h => by have h : i = b4 := h; omega
  replace hb := hb.upd hu5 fun i h1 h2 h => by have h : i = b4 := h; omega
  replace hU := hU.trans (hu5.mono fun i _ h => by have h : i = b4 := h; show n0 ≤ i; omega)
  replace hB1 := hB1.upd hu5 fun h => by have h : b1 = b4 := h; omega
  replace hB2 := hB2.upd hu5 fun h => by have h : b2 = b4 := h; omega
  replace hP2 := hP2.upd hu5 fun i h1 h2 h => by have h : i = b4 := h; omega
  replace hC2 := hC2.upd hu5 fun i h1 h2 h => by have h : i = b4 := h; omega
  replace hI2 := hI2.upd hu5 fun i h1 h2 h => by have h : i = b4 := h; omega
  replace hB4 : Blk w5 b4 #[p_2, c_2, i_2, (.bool (off))] 26 := hb5
  refine L_nil ?_
  refine T_n ?_
  refine W_seq ?_
  refine W_seq ?_
  refine W_reg ?_
  refine L_op rfl (X_move (v := (.int .i64 (n))) rfl ?_)
  by_cases hc6 : (n : Int) < (0)
  · refine L_op rfl (X_cmp (k := .i64) (a := n) (b := 0) (r := true) rfl rfl rfl (decide_eq_true (p := ((n) : Int) < ((0) : Int)) (by omega)) ?_)
    refine L_op rfl (X_move (v := (.bool (true))) rfl ?_)
    refine L_gn (dj := 15) (t := true) rfl rfl rfl rfl ?_
    refine L_gn (dj := 15) (t := true) rfl rfl rfl rfl ?_
    refine L_gn (dj := 15) (t := true) rfl rfl rfl rfl ?_
    refine L_gn (dj := 15) (t := true) rfl rfl rfl rfl ?_
    refine L_gn (dj := 15) (t := true) rfl rfl rfl rfl ?_
    refine L_op rfl (X_pick (t := true) (v := (.bool (true))) rfl rfl ?_)
    refine L_op rfl (X_move (v := (.bool (true))) rfl ?_)
    refine L_gn (dj := 22) (t := true) rfl rfl rfl rfl ?_
    refine L_gn (dj := 22) (t := true) rfl rfl rfl rfl ?_
    refine L_op rfl (X_pick (t := true) (v := (.bool (true))) rfl rfl ?_)
    refine L_op rfl (X_move (v := (.bool (true))) rfl ?_)
    refine L_gn (dj := 26) (t := true) rfl rfl rfl rfl ?_
    refine L_gn (dj := 26) (t := true) rfl rfl rfl rfl ?_
    refine L_op rfl (X_pick (t := true) (v := (.bool (true))) rfl rfl ?_)
    refine L_nil ?_
    refine T_n ?_
    refine W_ct rfl ?_
    refine W_seq ?_
    refine W_reg ?_
    refine L_op rfl (X_loadA (p := (ptr b4 (0))) (xs := [p_2, c_2, i_2, (.bool (off))]) A26 rfl hB4.atAll rfl ?_)
    refine L_op0 (X_storeW (b := b2) (ys := [p_2, c_2, i_2, (.bool (off))]) A26 rfl rfl (List.forall_mem_cons.2 ⟨(hP2.1.sv.one), (List.forall_mem_cons.2 ⟨(hC2.1.sv.one), (List.forall_mem_cons.2 ⟨(hI2.1.sv.one), (List.forall_mem_cons.2 ⟨rfl, (fun _ h => by cases h)⟩)⟩)⟩)⟩) rfl hB2 rfl ?_)
    intro w7 hu7 hb7
    have hz7 := hu7.size
    replace hp := hp.upd hu7 fun i h1 h2 h => by have h : i = b2 := h; omega
    replace hc := hc.upd hu7 fun i h1 h2 h => by have h : i = b2 := h; omega
    replace hb := hb.upd hu7 fun i h1 h2 h => by have h : i = b2 := h; omega
    replace hU := hU.trans (hu7.mono fun i _ h => by have h : i = b2 := h; show n0 ≤ i; omega)
    replace hB1 := hB1.upd hu7 fun h => by have h : b1 = b2 := h; omega
    replace hP2 := hP2.upd hu7 fun i h1 h2 h => by have h : i = b2 := h; omega
    replace hC2 := hC2.upd hu7 fun i h1 h2 h => by have h : i = b2 := h; omega
    replace hI2 := hI2.upd hu7 fun i h1 h2 h => by have h : i = b2 := h; omega
    replace hB4 := hB4.upd hu7 fun h => by have h : b4 = b2 := h; omega
    replace hB2 : Blk w7 b2 #[p_2, c_2, i_2, (.bool (off))] 26 := hb7
    refine L_op rfl (X_assign (v := (.int .i64 (2))) rfl ?_)
    refine L_nil ?_
    refine T_n ?_
    refine W_ret ?_
    refine T_r ?_
    exact BQ_r (End_2 Try.results18 (RV_A A26 rfl hB2.atAll rfl) (v2 := .int .i64 2) rfl ⟨_, _, _, ps, 2, rfl, hP2.mono (by omega) (by omega), hC2.mono (by omega) (by omega), hI2.mono (by omega) (by omega), fun h => by omega, fun _ => ⟨rfl, rfl⟩, hU.own hn0⟩)
  · refine L_op rfl (X_cmp (k := .i64) (a := n) (b := 0) (r := false) rfl rfl rfl (decide_eq_false (p := ((n) : Int) < ((0) : Int)) (by omega)) ?_)
    refine L_op rfl (X_move (v := (.bool (false))) rfl ?_)
    refine L_gy (dj := 15) rfl rfl rfl (X_move (v := (.int .i64 (n))) rfl ?_)
    refine L_gy (dj := 15) rfl rfl rfl (X_fldP (b := b1) (o := 0) (r := 0) Fd26_0 rfl rfl ?_)
    refine L_gy (dj := 15) rfl rfl rfl (X_load (p := (ptr b1 (0))) (v := pv) T22 rfl (hB1.at1 rfl) ?_)
    refine L_gy (dj := 15) rfl rfl rfl (X_len (v := pv) (n := ps.length) Try.underlying22 rfl hp.sv ?_)
    by_cases hc8 : (n : Int) ≥ (((ps.length : Nat) : Int))
    · refine L_gy (dj := 15) rfl rfl rfl (X_cmp (k := .i64) (a := n) (b := ((ps.length : Nat) : Int)) (r := true) rfl rfl rfl (decide_eq_true (p := ((((ps.length : Nat) : Int)) : Int) ≤ ((n) : Int)) (by omega)) ?_)
      refine L_op rfl (X_pick (t := false) (v := (.bool (true))) rfl rfl ?_)
      refine L_op rfl (X_move (v := (.bool (true))) rfl ?_)
      refine L_gn (dj := 22) (t := true) rfl rfl rfl rfl ?_
      refine L_gn (dj := 22) (t := true) rfl rfl rfl rfl ?_
      refine L_op rfl (X_pick (t := true) (v := (.bool (true))) rfl rfl ?_)
      refine L_op rfl (X_move (v := (.bool (true))) rfl ?_)
      refine L_gn (dj := 26) (t := true) rfl rfl rfl rfl ?_
      refine L_gn (dj := 26) (t := true) rfl rfl rfl rfl ?_
      refine L_op rfl (X_pick (t := true) (v := (.bool (true))) rfl rfl ?_)
      refine L_nil ?_
      refine T_n ?_
      refine W_ct rfl ?_
      refine W_seq ?_
      refine W_reg ?_
      refine L_op rfl (X_loadA (p := (ptr b4 (0))) (xs := [p_2, c_2, i_2, (.bool (off))]) A26 rfl hB4.atAll rfl ?_)
      refine L_op0 (X_storeW (b := b2) (ys := [p_2, c_2, i_2, (.bool (off))]) A26 rfl rfl (List.forall_mem_cons.2 ⟨(hP2.1.sv.one), (List.forall_mem_cons.2 ⟨(hC2.1.sv.one), (List.forall_mem_cons.2 ⟨(hI2.1.sv.one), (List.forall_mem_cons.2 ⟨rfl, (fun _ h => by cases h)⟩)⟩)⟩)⟩) rfl hB2 rfl ?_)
      intro w9 hu9 hb9
      have hz9 := hu9.size
      replace hp := hp.upd hu9 fun i h1 h2 h => by have h : i = b2 := h; omega
      replace hc := hc.upd hu9 fun i h1 h2 h => by have h : i = b2 := h; omega
      replace hb := hb.upd hu9 fun i h1 h2 h => by have h : i = b2 := h; omega
      replace hU := hU.trans (hu9.mono fun i _ h => by have h : i = b2 := h; show n0 ≤ i; omega)
      replace hB1 := hB1.upd hu9 fun h => by have h : b1 = b2 := h; omega
      replace hP2 := hP2.upd hu9 fun i h1 h2 h => by have h : i = b2 := h; omega
      replace hC2 := hC2.upd hu9 fun i h1 h2 h => by have h : i = b2 := h; omega
      replace hI2 := hI2.upd hu9 fun i h1 h2 h => by have h : i = b2 := h; omega
      replace hB4 := hB4.upd hu9 fun h => by have h : b4 = b2 := h; omega
      replace hB2 : Blk w9 b2 #[p_2, c_2, i_2, (.bool (off))] 26 := hb9
      refine L_op rfl (X_assign (v := (.int .i64 (2))) rfl ?_)
      refine L_nil ?_
      refine T_n ?_
      refine W_ret ?_
      refine T_r ?_
      exact BQ_r (End_2 Try.results18 (RV_A A26 rfl hB2.atAll rfl) (v2 := .int .i64 2) rfl ⟨_, _, _, ps, 2, rfl, hP2.mono (by omega) (by omega), hC2.mono (by omega) (by omega), hI2.mono (by omega) (by omega), fun h => by omega, fun _ => ⟨rfl, rfl⟩, hU.own hn0⟩)
    · refine L_gy (dj := 15) rfl rfl rfl (X_cmp (k := .i64) (a := n) (b := ((ps.length : Nat) : Int)) (r := false) rfl rfl rfl (decide_eq_false (p := ((((ps.length : Nat) : Int)) : Int) ≤ ((n) : Int)) (by omega)) ?_)
      refine L_op rfl (X_pick (t := false) (v := (.bool (false))) rfl rfl ?_)
      refine L_op rfl (X_move (v := (.bool (false))) rfl ?_)
      refine L_gy (dj := 22) rfl rfl rfl (X_move (v := (.int .i64 (k))) rfl ?_)
      by_cases hc10 : (k : Int) < (0)
      · refine L_gy (dj := 22) rfl rfl rfl (X_cmp (k := .i64) (a := k) (b := 0) (r := true) rfl rfl rfl (decide_eq_true (p := ((k) : Int) < ((0) : Int)) (by omega)) ?_)
        refine L_op rfl (X_pick (t := false) (v := (.bool (true))) rfl rfl ?_)
        refine L_op rfl (X_move (v := (.bool (true))) rfl ?_)
        refine L_gn (dj := 26) (t := true) rfl rfl rfl rfl ?_
        refine L_gn (dj := 26) (t := true) rfl rfl rfl rfl ?_
        refine L_op rfl (X_pick (t := true) (v := (.bool (true))) rfl rfl ?_)
        refine L_nil ?_
        refine T_n ?_
        refine W_ct rfl ?_
        refine W_seq ?_
        refine W_reg ?_
        refine L_op rfl (X_loadA (p := (ptr b4 (0))) (xs := [p_2, c_2, i_2, (.bool (off))]) A26 rfl hB4.atAll rfl ?_)
        refine L_op0 (X_storeW (b := b2) (ys := [p_2, c_2, i_2, (.bool (off))]) A26 rfl rfl (List.forall_mem_cons.2 ⟨(hP2.1.sv.one), (List.forall_mem_cons.2 ⟨(hC2.1.sv.one), (List.forall_mem_cons.2 ⟨(hI2.1.sv.one), (List.forall_mem_cons.2 ⟨rfl, (fun _ h => by cases h)⟩)⟩)⟩)⟩) rfl hB2 rfl ?_)
        intro w11 hu11 hb11
        have hz11 := hu11.size
        replace hp := hp.upd hu11 fun i h1 h2 h => by have h : i = b2 := h; omega
        replace hc := hc.upd hu11 fun i h1 h2 h => by have h : i = b2 := h; omega
        replace hb := hb.upd hu11 fun i h1 h2 h => by have h : i = b2 := h; omega
        replace hU := hU.trans (hu11.mono fun i _ h => by have h : i = b2 := h; show n0 ≤ i; omega)
        replace hB1 := hB1.upd hu11 fun h => by have h : b1 = b2 := h; omega
        replace hP2 := hP2.upd hu11 fun i h1 h2 h => by have h : i = b2 := h; omega
        replace hC2 := hC2.upd hu11 fun i h1 h2 h => by have h : i = b2 := h; omega
        replace hI2 := hI2.upd hu11 fun i h1 h2 h => by have h : i = b2 := h; omega
        replace hB4 := hB4.upd hu11 fun h => by have h : b4 = b2 := h; omega
        replace hB2 : Blk w11 b2 #[p_2, c_2, i_2, (.bool (off))] 26 := hb11
        refine L_op rfl (X_assign (v := (.int .i64 (2))) rfl ?_)
        refine L_nil ?_
        refine T_n ?_
        refine W_ret ?_
        refine T_r ?_
        exact BQ_r (End_2 Try.results18 (RV_A A26 rfl hB2.atAll rfl) (v2 := .int .i64 2) rfl ⟨_, _, _, ps, 2, rfl, hP2.mono (by omega) (by omega), hC2.mono (by omega) (by omega), hI2.mono (by omega) (by omega), fun h => by omega, fun _ => ⟨rfl, rfl⟩, hU.own hn0⟩)
      · refine L_gy (dj := 22) rfl rfl rfl (X_cmp (k := .i64) (a := k) (b := 0) (r := false) rfl rfl rfl (decide_eq_false (p := ((k) : Int) < ((0) : Int)) (by omega)) ?_)
        refine L_op rfl (X_pick (t := false) (v := (.bool (false))) rfl rfl ?_)
        refine L_op rfl (X_move (v := (.bool (false))) rfl ?_)
        refine L_gy (dj := 26) rfl rfl rfl (X_move (v := (.int .i64 (k))) rfl ?_)
        by_cases hc12 : (k : Int) ≥ (256)
        · refine L_gy (dj := 26) rfl rfl rfl (X_cmp (k := .i64) (a := k) (b := 256) (r := true) rfl rfl rfl (decide_eq_true (p := ((256) : Int) ≤ ((k) : Int)) (by omega)) ?_)
          refine L_op rfl (X_pick (t := false) (v := (.bool (true))) rfl rfl ?_)
          refine L_nil ?_
          refine T_n ?_
          refine W_ct rfl ?_
          refine W_seq ?_
          refine W_reg ?_
          refine L_op rfl (X_loadA (p := (ptr b4 (0))) (xs := [p_2, c_2, i_2, (.bool (off))]) A26 rfl hB4.atAll rfl ?_)
          refine L_op0 (X_storeW (b := b2) (ys := [p_2, c_2, i_2, (.bool (off))]) A26 rfl rfl (List.forall_mem_cons.2 ⟨(hP2.1.sv.one), (List.forall_mem_cons.2 ⟨(hC2.1.sv.one), (List.forall_mem_cons.2 ⟨(hI2.1.sv.one), (List.forall_mem_cons.2 ⟨rfl, (fun _ h => by cases h)⟩)⟩)⟩)⟩) rfl hB2 rfl ?_)
          intro w13 hu13 hb13
          have hz13 := hu13.size
          replace hp := hp.upd hu13 fun i h1 h2 h => by have h : i = b2 := h; omega
          replace hc := hc.upd hu13 fun i h1 h2 h => by have h : i = b2 := h; omega
          replace hb := hb.upd hu13 fun i h1 h2 h => by have h : i = b2 := h; omega
          replace hU := hU.trans (hu13.mono fun i _ h => by have h : i = b2 := h; show n0 ≤ i; omega)
          replace hB1 := hB1.upd hu13 fun h => by have h : b1 = b2 := h; omega
          replace hP2 := hP2.upd hu13 fun i h1 h2 h => by have h : i = b2 := h; omega
          replace hC2 := hC2.upd hu13 fun i h1 h2 h => by have h : i = b2 := h; omega
          replace hI2 := hI2.upd hu13 fun i h1 h2 h => by have h : i = b2 := h; omega
          replace hB4 := hB4.upd hu13 fun h => by have h : b4 = b2 := h; omega
          replace hB2 : Blk w13 b2 #[p_2, c_2, i_2, (.bool (off))] 26 := hb13
          refine L_op rfl (X_assign (v := (.int .i64 (2))) rfl ?_)
          refine L_nil ?_
          refine T_n ?_
          refine W_ret ?_
          refine T_r ?_
          exact BQ_r (End_2 Try.results18 (RV_A A26 rfl hB2.atAll rfl) (v2 := .int .i64 2) rfl ⟨_, _, _, ps, 2, rfl, hP2.mono (by omega) (by omega), hC2.mono (by omega) (by omega), hI2.mono (by omega) (by omega), fun h => by omega, fun _ => ⟨rfl, rfl⟩, hU.own hn0⟩)
        · refine L_gy (dj := 26) rfl rfl rfl (X_cmp (k := .i64) (a := k) (b := 256) (r := false) rfl rfl rfl (decide_eq_false (p := ((256) : Int) ≤ ((k) : Int)) (by omega)) ?_)
          refine L_op rfl (X_pick (t := false) (v := (.bool (false))) rfl rfl ?_)
          refine L_nil ?_
          refine T_n ?_
          refine W_cf rfl ?_
          refine W_skip ?_
          refine T_n ?_
          refine W_seq ?_
          obtain ⟨p0, hp0⟩ : ∃ e, ps[n.toNat]? = some e := ⟨_, List.getElem?_eq_getElem (by omega)⟩
          obtain ⟨x0, hx0⟩ : ∃ e, p0.1[k.toNat]? = some e := ⟨_, List.getElem?_eq_getElem (by rw [p0.2]; omega)⟩
          refine W_draw 14 [[], [0], [], [], [], [4], [], [], [4, 5, 6], [4, 5, 6, 7, 8], [4, 5, 6, 7, 8, 9], [], [4, 5, 6, 7, 8, 9, 10, 11], [0, 1, 2], [0, 1, 2, 3, 4, 5, 6, 7, 8, 9, 10, 11, 12, 13], [0, 1, 2, 3, 4, 5, 6, 7, 8, 9, 10, 11, 12, 13, 14]] mixed (by kernel_rfl) ?_
          refine ⟨.det (fun val => (ptr b4 (0))), ⟨fun _ _ hv => rfl, fun _ _ _ _ _ => trivial⟩, fun val h_ W hx he => ⟨trivial, ?_⟩, ?_⟩
          · replace hx := (Upd.drew _ _).trans hx
            replace hp := hp.ext hx
            replace hc := hc.ext hx
            replace hb := hb.ext hx
            replace hB1 := hB1.ext hx
            replace hB2 := hB2.ext hx
            replace hP2 := hP2.ext hx
            replace hC2 := hC2.ext hx
            replace hI2 := hI2.ext hx
            replace hB4 := hB4.ext hx
            have hE := Upd.refl (fun _ => False) W
            refine id (X_fldP (b := b4) (o := 0) (r := 0) Fd26_0 rfl rfl ?_)
            exact ⟨hE, rfl⟩
          refine ⟨.det (fun val => p_2), ⟨fun _ _ hv => rfl, fun _ _ _ _ _ => trivial⟩, fun val h_ W hx he => ⟨trivial, ?_⟩, ?_⟩
          · replace hx := (Upd.drew _ _).trans hx
            replace hp := hp.ext hx
            replace hc := hc.ext hx
            replace hb := hb.ext hx
            replace hB1 := hB1.ext hx
            replace hB2 := hB2.ext hx
            replace hP2 := hP2.ext hx
            replace hC2 := hC2.ext hx
            replace hI2 := hI2.ext hx
            replace hB4 := hB4.ext hx
            have hE := Upd.refl (fun _ => False) W
            refine id (X_load (p := (ptr b4 (0))) (v := p_2) T22 rfl (hB4.at1 rfl) ?_)
            exact ⟨hE, rfl⟩
          refine ⟨.det (fun val => (.int .i64 (n))), ⟨fun _ _ hv => rfl, fun _ _ _ _ _ => trivial⟩, fun val h_ W hx he => ⟨trivial, ?_⟩, ?_⟩
          · replace hx := (Upd.drew _ _).trans hx
            replace hp := hp.ext hx
            replace hc := hc.ext hx
            replace hb := hb.ext hx
            replace hB1 := hB1.ext hx
            replace hB2 := hB2.ext hx
            replace hP2 := hP2.ext hx
            replace hC2 := hC2.ext hx
            replace hI2 := hI2.ext hx
            replace hB4 := hB4.ext hx
            have hE := Upd.refl (fun _ => False) W
            refine id (X_move (v := (.int .i64 (n))) rfl ?_)
            exact ⟨hE, rfl⟩
          refine ⟨.det (fun val => (.int .i64 (k))), ⟨fun _ _ hv => rfl, fun _ _ _ _ _ => trivial⟩, fun val h_ W hx he => ⟨trivial, ?_⟩, ?_⟩
          · replace hx := (Upd.drew _ _).trans hx
            replace hp := hp.ext hx
            replace hc := hc.ext hx
            replace hb := hb.ext hx
            replace hB1 := hB1.ext hx
            replace hB2 := hB2.ext hx
            replace hP2 := hP2.ext hx
            replace hC2 := hC2.ext hx
            replace hI2 := hI2.ext hx
            replace hB4 := hB4.ext hx
            have hE := Upd.refl (fun _ => False) W
            refine id (X_move (v := (.int .i64 (k))) rfl ?_)
            exact ⟨hE, rfl⟩
          refine ⟨.det (fun val => (ptr b4 (0))), ⟨fun _ _ hv => rfl, fun _ _ _ _ _ => trivial⟩, fun val h_ W hx he => ⟨trivial, ?_⟩, ?_⟩
          · replace hx := (Upd.drew _ _).trans hx
            replace hp := hp.ext hx
            replace hc := hc.ext hx
            replace hb := hb.ext hx
            replace hB1 := hB1.ext hx
            replace hB2 := hB2.ext hx
            replace hP2 := hP2.ext hx
            replace hC2 := hC2.ext hx
            replace hI2 := hI2.ext hx
            replace hB4 := hB4.ext hx
            have hE := Upd.refl (fun _ => False) W
            refine id (X_fldP (b := b4) (o := 0) (r := 0) Fd26_0 rfl rfl ?_)
            exact ⟨hE, rfl⟩
          refine ⟨.det (fun val => p_2), ⟨fun _ _ hv => rfl, fun _ _ _ _ _ => trivial⟩, fun val h_ W hx he => ⟨trivial, ?_⟩, ?_⟩
          · replace hx := (Upd.drew _ _).trans hx
            replace hp := hp.ext hx
            replace hc := hc.ext hx
            replace hb := hb.ext hx
            replace hB1 := hB1.ext hx
            replace hB2 := hB2.ext hx
            replace hP2 := hP2.ext hx
            replace hC2 := hC2.ext hx
            replace hI2 := hI2.ext hx
            replace hB4 := hB4.ext hx
            have hE := Upd.refl (fun _ => False) W
            refine id (X_load (p := (ptr b4 (0))) (v := p_2) T22 rfl (hB4.at1 rfl) ?_)
            exact ⟨hE, rfl⟩
          refine ⟨.det (fun val => (.int .i64 (n))), ⟨fun _ _ hv => rfl, fun _ _ _ _ _ => trivial⟩, fun val h_ W hx he => ⟨trivial, ?_⟩, ?_⟩
          · replace hx := (Upd.drew _ _).trans hx
            replace hp := hp.ext hx
            replace hc := hc.ext hx
            replace hb := hb.ext hx
            replace hB1 := hB1.ext hx
            replace hB2 := hB2.ext hx
            replace hP2 := hP2.ext hx
            replace hC2 := hC2.ext hx
            replace hI2 := hI2.ext hx
            replace hB4 := hB4.ext hx
            have hE := Upd.refl (fun _ => False) W
            refine id (X_move (v := (.int .i64 (n))) rfl ?_)
            exact ⟨hE, rfl⟩
          refine ⟨.det (fun val => (.int .i64 (k))), ⟨fun _ _ hv => rfl, fun _ _ _ _ _ => trivial⟩, fun val h_ W hx he => ⟨trivial, ?_⟩, ?_⟩
          · replace hx := (Upd.drew _ _).trans hx
            replace hp := hp.ext hx
            replace hc := hc.ext hx
            replace hb := hb.ext hx
            replace hB1 := hB1.ext hx
            replace hB2 := hB2.ext hx
            replace hP2 := hP2.ext hx
            replace hC2 := hC2.ext hx
            replace hI2 := hI2.ext hx
            replace hB4 := hB4.ext hx
            have hE := Upd.refl (fun _ => False) W
            refine id (X_move (v := (.int .i64 (k))) rfl ?_)
            exact ⟨hE, rfl⟩
          refine ⟨.det (fun val => (pof p_2 ((n : Int).toNat * 256))), ⟨fun _ _ hv => rfl, fun _ _ _ _ _ => trivial⟩, fun val h_ W hx he => ⟨trivial, ?_⟩, ?_⟩
          · replace hx := (Upd.drew _ _).trans hx
            replace hp := hp.ext hx
            replace hc := hc.ext hx
            replace hb := hb.ext hx
            replace hB1 := hB1.ext hx
            replace hB2 := hB2.ext hx
            replace hP2 := hP2.ext hx
            replace hC2 := hC2.ext hx
            replace hI2 := hI2.ext hx
            replace hB4 := hB4.ext hx
            have hE := Upd.refl (fun _ => False) W
            refine id (X_idx (v := p_2) (n := ps.length) (k := .i64) (i := n) S22 rfl hP2.1.sv rfl (by omega) (by omega) ?_)
            exact ⟨hE, rfl⟩
          refine ⟨.det (fun val => (pof p_2 ((n : Int).toNat * 256 + (k : Int).toNat * 1))), ⟨fun _ _ hv => rfl, fun _ _ _ _ _ => trivial⟩, fun val h_ W hx he => ⟨trivial, ?_⟩, ?_⟩
          · replace hx := (Upd.drew _ _).trans hx
            replace hp := hp.ext hx
            replace hc := hc.ext hx
            replace hb := hb.ext hx
            replace hB1 := hB1.ext hx
            replace hB2 := hB2.ext hx
            replace hP2 := hP2.ext hx
            replace hC2 := hC2.ext hx
            replace hI2 := hI2.ext hx
            replace hB4 := hB4.ext hx
            have hE := Upd.refl (fun _ => False) W
            refine id (X_idxAS (len := 256) (sz := 1) (v := p_2) (o := (n : Int).toNat * 256) (k := .i64) (i := k) (r := (n : Int).toNat * 256 + (k : Int).toNat * 1) Try.underlying33 Z5 rfl hP2.1.sv (by omega) rfl (by omega) (by omega) (by omega) ?_)
            exact ⟨hE, rfl⟩
          refine ⟨.det (fun val => (.int .u8 (((x0.toNat : Nat) : Int)))), ⟨fun _ _ hv => rfl, fun _ _ _ _ _ => trivial⟩, fun val h_ W hx he => ⟨trivial, ?_⟩, ?_⟩
          · replace hx := (Upd.drew _ _).trans hx
            replace hp := hp.ext hx
            replace hc := hc.ext hx
            replace hb := hb.ext hx
            replace hB1 := hB1.ext hx
            replace hB2 := hB2.ext hx
            replace hP2 := hP2.ext hx
            replace hC2 := hC2.ext hx
            replace hI2 := hI2.ext hx
            replace hB4 := hB4.ext hx
            have hE := Upd.refl (fun _ => False) W
            refine id (X_load (v := .int .u8 ((x0.toNat : Nat) : Int)) T5 rfl (hP2.1.rd.cell (by rw [show (n : Int).toNat * 256 + (k : Int).toNat * 1 = n.toNat * LP.sz + k.toNat by (show _ = n.toNat * 256 + k.toNat; omega)]; exact flat_at (L := LP) hp0 (by show (p0.1.map byteV)[k.toNat]? = _; rw [List.getElem?_map, hx0]; rfl))) ?_)
            exact ⟨hE, rfl⟩
          refine ⟨.det (fun val => (byteV y)), ⟨fun _ _ hv => rfl, fun _ _ _ _ _ => trivial⟩, fun val h_ W hx he => ⟨trivial, ?_⟩, ?_⟩
          · replace hx := (Upd.drew _ _).trans hx
            replace hp := hp.ext hx
            replace hc := hc.ext hx
            replace hb := hb.ext hx
            replace hB1 := hB1.ext hx
            replace hB2 := hB2.ext hx
            replace hP2 := hP2.ext hx
            replace hC2 := hC2.ext hx
            replace hI2 := hI2.ext hx
            replace hB4 := hB4.ext hx
            have hE := Upd.refl (fun _ => False) W
            refine id (X_move (v := (byteV y)) rfl ?_)
            exact ⟨hE, rfl⟩
          refine ⟨.det (fun val => (.int .u8 ((((x0 ^^^ y).toNat : Nat) : Int)))), ⟨fun _ _ hv => rfl, fun _ _ _ _ _ => trivial⟩, fun val h_ W hx he => ⟨trivial, ?_⟩, ?_⟩
          · replace hx := (Upd.drew _ _).trans hx
            replace hp := hp.ext hx
            replace hc := hc.ext hx
            replace hb := hb.ext hx
            replace hB1 := hB1.ext hx
            replace hB2 := hB2.ext hx
            replace hP2 := hP2.ext hx
            replace hC2 := hC2.ext hx
            replace hI2 := hI2.ext hx
            replace hB4 := hB4.ext hx
            have hE := Upd.refl (fun _ => False) W
            refine id (X_arith (k := .u8) (a := ((x0.toNat : Nat) : Int)) (b := ((y.toNat : Nat) : Int)) (r := (((x0 ^^^ y).toNat : Nat) : Int)) rfl rfl rfl (u8_xor x0 y) ?_)
            exact ⟨hE, rfl⟩
          refine ⟨.det (fun val => (pof p_2 ((n : Int).toNat * 256))), ⟨fun _ _ hv => rfl, fun _ _ _ _ _ => trivial⟩, fun val h_ W hx he => ⟨trivial, ?_⟩, ?_⟩
          · replace hx := (Upd.drew _ _).trans hx
            replace hp := hp.ext hx
            replace hc := hc.ext hx
            replace hb := hb.ext hx
            replace hB1 := hB1.ext hx
            replace hB2 := hB2.ext hx
            replace hP2 := hP2.ext hx
            replace hC2 := hC2.ext hx
            replace hI2 := hI2.ext hx
            replace hB4 := hB4.ext hx
            have hE := Upd.refl (fun _ => False) W
            refine id (X_idx (v := p_2) (n := ps.length) (k := .i64) (i := n) S22 rfl hP2.1.sv rfl (by omega) (by omega) ?_)
            exact ⟨hE, rfl⟩
          intro val W14 hx14 he14
          replace hx14 := (Upd.drew _ _).trans hx14
          have hz14 := hx14.size
          replace hp := hp.ext hx14
          replace hc := hc.ext hx14
          replace hb := hb.ext hx14
          replace hU := hU.trans (Ext.upd hx14)
          replace hB1 := hB1.ext hx14
          replace hB2 := hB2.ext hx14
          replace hP2 := hP2.ext hx14
          replace hC2 := hC2.ext hx14
          replace hI2 := hI2.ext hx14
          replace hB4 := hB4.ext hx14
          refine L_op rfl (X_idxAS (len := 256) (sz := 1) (v := p_2) (o := (n : Int).toNat * 256) (k := .i64) (i := k) (r := (n : Int).toNat * 256 + (k : Int).toNat * 1) Try.underlying33 Z5 rfl hP2.1.sv (by omega) rfl (by omega) (by omega) (by omega) ?_)
          refine L_op0 (X_storeOwnC (i := (n : Int).toNat * 256 + (k : Int).toNat * 1) (v := p_2) (u := .int .u8 (((x0 ^^^ y).toNat : Nat) : Int)) T5 hP2.1 (by show _ < ps.length * 256; omega) rfl rfl rfl ?_)
          intro w5 hO5 hu5
          have hz5 := hu5.size
          rw [show (n : Int).toNat * 256 + (k : Int).toNat * 1 = n.toNat * 256 + k.toNat by omega, show Value.int .u8 (((x0 ^^^ y).toNat : Nat) : Int) = byteV (x0 ^^^ y) from rfl, flip_cells hp0 hx0 (by omega) y] at hO5
          have hP5 : NOwn LP w5 33 5 s0 us0 p_2 (flipP ps n.toNat k.toNat y) := NOwn.of (fun _ => rfl) (hO5.eq (flipP_length _ _ _ _).symm rfl) hP2.2.1
          replace hC2 := NOwn.upd' (fun _ => rfl) hC2 hu5 fun b h1 h2 => absurd (hC2.1.types hP2.1 h1 h2) (by decide)
          replace hI2 := NOwn.upd' (fun _ => rfl) hI2 hu5 fun b h1 h2 => absurd (hI2.1.types hP2.1 h1 h2) (by decide)
          replace hp := hp.upd hu5 fun i h1 h2 h => by have h1_ := hP2.1.lt h; have h2_ := hP2.2.1 _ h; omega
          replace hc := hc.upd hu5 fun i h1 h2 h => by have h1_ := hP2.1.lt h; have h2_ := hP2.2.1 _ h; omega
          replace hb := hb.upd hu5 fun i h1 h2 h => by have h1_ := hP2.1.lt h; have h2_ := hP2.2.1 _ h; omega
          replace hU := hU.trans (hu5.mono fun i _ h => by have h1_ := hP2.1.lt h; have h2_ := hP2.2.1 _ h; show n0 ≤ i; omega)
          replace hB1 := hB1.upd hu5 fun h => by have h1_ := hP2.1.lt h; have h2_ := hP2.2.1 _ h; omega
          replace hB2 := hB2.upd hu5 fun h => by have h1_ := hP2.1.lt h; have h2_ := hP2.2.1 _ h; omega
          replace hB4 := hB4.upd hu5 fun h => by have h1_ := hP2.1.lt h; have h2_ := hP2.2.1 _ h; omega
          replace hP2 := hP5
          refine L_nil ?_
          refine T_n ?_
          refine W_seq ?_
          refine W_reg ?_
          refine L_op rfl (X_loadA (p := (ptr b4 (0))) (xs := [p_2, c_2, i_2, (.bool (off))]) A26 rfl hB4.atAll rfl ?_)
          refine L_op0 (X_storeW (b := b2) (ys := [p_2, c_2, i_2, (.bool (off))]) A26 rfl rfl (List.forall_mem_cons.2 ⟨(hP2.1.sv.one), (List.forall_mem_cons.2 ⟨(hC2.1.sv.one), (List.forall_mem_cons.2 ⟨(hI2.1.sv.one), (List.forall_mem_cons.2 ⟨rfl, (fun _ h => by cases h)⟩)⟩)⟩)⟩) rfl hB2 rfl ?_)
          intro w15 hu15 hb15
          have hz15 := hu15.size
          replace hp := hp.upd hu15 fun i h1 h2 h => by have h : i = b2 := h; omega
          replace hc := hc.upd hu15 fun i h1 h2 h => by have h : i = b2 := h; omega
          replace hb := hb.upd hu15 fun i h1 h2 h => by have h : i = b2 := h; omega
          replace hU := hU.trans (hu15.mono fun i _ h => by have h : i = b2 := h; show n0 ≤ i; omega)
          replace hB1 := hB1.upd hu15 fun h => by have h : b1 = b2 := h; omega
          replace hB4 := hB4.upd hu15 fun h => by have h : b4 = b2 := h; omega
          replace hP2 := hP2.upd hu15 fun i h1 h2 h => by have h : i = b2 := h; omega
          replace hC2 := hC2.upd hu15 fun i h1 h2 h => by have h : i = b2 := h; omega
          replace hI2 := hI2.upd hu15 fun i h1 h2 h => by have h : i = b2 := h; omega
          replace hB2 : Blk w15 b2 #[p_2, c_2, i_2, (.bool (off))] 26 := hb15
          refine L_op rfl (X_assign (v := (.int .i64 (0))) rfl ?_)
          refine L_nil ?_
          refine T_n ?_
          refine W_ret ?_
          exact BQ_r (End_2 Try.results18 (RV_A A26 rfl hB2.atAll rfl) (v2 := .int .i64 0) rfl ⟨_, _, _, flipP ps n.toNat k.toNat y, 0, rfl, hP2.mono (by omega) (by omega), hC2.mono (by omega) (by omega), hI2.mono (by omega) (by omega), fun _ => ⟨rfl, rfl⟩, fun h => absurd ⟨by omega, by omega, by omega, by omega⟩ h, hU.own hn0⟩)

theorem rise_pw {bs : List Int} (h : RiseI bs) : bs.Pairwise (· < ·) := by
  rw [List.pairwise_iff_getElem]
  intro i j hi hj hij
  obtain ⟨d, rfl⟩ : ∃ d, j = i + 1 + d := ⟨j - i - 1, by omega⟩
  clear hij
  induction d with
  | zero => exact h i _ _ (List.getElem?_eq_getElem hi) (List.getElem?_eq_getElem hj)
  | succ d ih =>
    have h1 := ih (by omega)
    have h2 := h (i + 1 + d) _ _ (List.getElem?_eq_getElem (by omega)) (List.getElem?_eq_getElem (show i + 1 + d + 1 < bs.length by omega))
    have h3 : bs[i + 1 + (d + 1)] = bs[i + 1 + d + 1] := rfl
    omega
theorem incr_ext : ∀ {a b : List Int}, a.Pairwise (· < ·) → b.Pairwise (· < ·) → (∀ x, x ∈ a ↔ x ∈ b) → a = b
  | [], [], _, _, _ => rfl
  | [], y :: s, _, _, h => absurd ((h y).2 List.mem_cons_self) List.not_mem_nil
  | x :: r, [], _, _, h => absurd ((h x).1 List.mem_cons_self) List.not_mem_nil
  | x :: r, y :: s, ha, hb, h => by
    obtain ⟨a1, a2⟩ := List.pairwise_cons.1 ha
    obtain ⟨b1, b2⟩ := List.pairwise_cons.1 hb
    have e : x = y := by
      rcases List.mem_cons.1 ((h x).1 List.mem_cons_self) with e | hx
      · exact e
      · rcases List.mem_cons.1 ((h y).2 List.mem_cons_self) with e | hy
        · exact e.symm
        · have := a1 y hy
          have := b1 x hx
          omega
    subst e
    rw [incr_ext a2 b2 fun z => ⟨fun hz => (List.mem_cons.1 ((h z).1 (List.mem_cons_of_mem _ hz))).elim (fun e => by have := a1 z hz; omega) id, fun hz => (List.mem_cons.1 ((h z).2 (List.mem_cons_of_mem _ hz))).elim (fun e => by have := b1 z hz; omega) id⟩]
/-- what the reference's Spoil has put together behind i numbers; g: n stands in it -/
def SP (bs : List Int) (n : Int) (i : Nat) (g : Bool) (us : List Int) : Prop :=
  us.Pairwise (· < ·) ∧ (∀ y ∈ us, ∀ (j : Nat) (a : Int), i ≤ j → bs[j]? = some a → y < a) ∧ (g = false → ∀ y ∈ us, y < n) ∧ (∀ y, y ∈ us ↔ y ∈ bs.take i ∨ (g = true ∧ y = n))
theorem pw_push {us : List Int} {x : Int} (h : us.Pairwise (· < ·)) (hx : ∀ y ∈ us, y < x) : (us ++ [x]).Pairwise (· < ·) :=
  List.pairwise_append.2 ⟨h, List.pairwise_singleton _ _, fun y hy z hz => by have : z = x := by { simpa using hz }; subst this; exact hx y hy⟩
theorem pw_next {bs : List Int} (hp : bs.Pairwise (· < ·)) {i j : Nat} {a b : Int} (ha : bs[i]? = some a) (hb : bs[j]? = some b) (hij : i < j) : a < b := by
  obtain ⟨h1, rfl⟩ := List.getElem?_eq_some_iff.1 ha
  obtain ⟨h2, rfl⟩ := List.getElem?_eq_some_iff.1 hb
  exact (List.pairwise_iff_getElem.1 hp) i j h1 h2 hij
theorem take_mem {bs : List Int} {i : Nat} {a : Int} (ha : bs[i]? = some a) (y : Int) : y ∈ bs.take (i + 1) ↔ y ∈ bs.take i ∨ y = a := by rw [List.take_add_one, ha, List.mem_append]; simp
theorem sp_nil (bs : List Int) (n : Int) : SP bs n 0 false [] := ⟨List.Pairwise.nil, fun y h => (by cases h), fun _ y h => (by cases h), fun y => (by simp)⟩
section sp
variable {bs : List Int} {n a : Int} {i : Nat} {us : List Int}
theorem sp_lt (hp : bs.Pairwise (· < ·)) (ha : bs[i]? = some a) (hn : a < n) (h : SP bs n i false us) : SP bs n (i + 1) false (us ++ [a]) := by
  obtain ⟨h1, h2, h3, h4⟩ := h
  refine ⟨pw_push h1 fun y hy => h2 y hy i a (Nat.le_refl _) ha, fun y hy j b hj hb => ?_, fun _ y hy => ?_, fun y => ?_⟩
  · rcases List.mem_append.1 hy with hy | hy
    · exact h2 y hy j b (by omega) hb
    · have : y = a := by simpa using hy
      subst this; exact pw_next hp ha hb (by omega)
  · rcases List.mem_append.1 hy with hy | hy
    · exact h3 rfl y hy
    · have : y = a := by simpa using hy
      subst this; exact hn
  · rw [List.mem_append, h4, take_mem ha]; simp
theorem sp_on (hp : bs.Pairwise (· < ·)) (ha : bs[i]? = some a) (h : SP bs n i true us) : SP bs n (i + 1) true (us ++ [a]) := by
  obtain ⟨h1, h2, h3, h4⟩ := h
  refine ⟨pw_push h1 fun y hy => h2 y hy i a (Nat.le_refl _) ha, fun y hy j b hj hb => ?_, fun h => (by cases h), fun y => ?_⟩
  · rcases List.mem_append.1 hy with hy | hy
    · exact h2 y hy j b (by omega) hb
    · have : y = a := by simpa using hy
      subst this; exact pw_next hp ha hb (by omega)
  · rw [List.mem_append, h4, take_mem ha]
    simp only [List.mem_singleton, true_and]
    constructor
    · rintro ((h | h) | h)
      · exact .inl (.inl h)
      · exact .inr h
      · exact .inl (.inr h)
    · rintro ((h | h) | h)
      · exact .inl (.inl h)
      · exact .inr h
      · exact .inl (.inr h)
theorem sp_put (hp : bs.Pairwise (· < ·)) (ha : bs[i]? = some a) (hn : n ≤ a) (h : SP bs n i false us) : (us ++ [n]).Pairwise (· < ·) ∧ (∀ y ∈ us ++ [n], ∀ (j : Nat) (b : Int), i + 1 ≤ j → bs[j]? = some b → y < b) ∧ ∀ y, y ∈ us ++ [n] ↔ y ∈ bs.take i ∨ y = n := by
  obtain ⟨h1, h2, h3, h4⟩ := h
  refine ⟨pw_push h1 fun y hy => h3 rfl y hy, fun y hy j b hj hb => ?_, fun y => ?_⟩
  · rcases List.mem_append.1 hy with hy | hy
    · exact h2 y hy j b (by omega) hb
    · have : y = n := by simpa using hy
      subst this
      have := pw_next hp ha hb (by omega)
      omega
  · rw [List.mem_append, h4]; simp
theorem sp_eq (hp : bs.Pairwise (· < ·)) (ha : bs[i]? = some a) (hn : a = n) (h : SP bs n i false us) : SP bs n (i + 1) true (us ++ [n]) := by
  obtain ⟨h1, h2, h3⟩ := sp_put hp ha (by omega) h
  refine ⟨h1, h2, fun h => (by cases h), fun y => ?_⟩
  rw [h3, take_mem ha, hn]
  simp
theorem sp_gt (hp : bs.Pairwise (· < ·)) (ha : bs[i]? = some a) (hn : n < a) (h : SP bs n i false us) : SP bs n (i + 1) true ((us ++ [n]) ++ [a]) := by
  have h0 := h
  obtain ⟨h1, h2, h3⟩ := sp_put hp ha (by omega) h
  refine ⟨pw_push h1 fun y hy => ?_, fun y hy j b hj hb => ?_, fun h => (by cases h), fun y => ?_⟩
  · rcases List.mem_append.1 hy with hy | hy
    · exact h0.2.1 y hy i a (Nat.le_refl _) ha
    · have : y = n := by simpa using hy
      subst this; exact hn
  · rcases List.mem_append.1 hy with hy | hy
    · exact h2 y hy j b hj hb
    · have : y = a := by simpa using hy
      subst this; exact pw_next hp ha hb (by omega)
  · rw [List.mem_append, h3, take_mem ha]
    simp only [List.mem_singleton, true_and]
    constructor
    · rintro ((h | h) | h)
      · exact .inl (.inl h)
      · exact .inr h
      · exact .inl (.inr h)
    · rintro ((h | h) | h)
      · exact .inl (.inl h)
      · exact .inr h
      · exact .inl (.inr h)
theorem sp_end {g : Bool} (hi : bs.length ≤ i) (h : SP bs n i g us) : ∃ zs, zs = (if g = true then us else us ++ [n]) ∧ zs.Pairwise (· < ·) ∧ ∀ y, y ∈ zs ↔ y ∈ bs ∨ y = n := by
  obtain ⟨h1, h2, h3, h4⟩ := h
  rw [List.take_of_length_le hi] at h4
  cases g with
  | true => exact ⟨us, rfl, h1, fun y => by rw [h4]; simp⟩
  | false => exact ⟨us ++ [n], rfl, pw_push h1 (h3 rfl), fun y => by rw [List.mem_append, h4]; simp⟩
end sp
end Go.Proofs.Ytfmgjkchhajpmaa
