/-
 What chapter 10 takes over of chapter 04: detached and attached disks. (Printed by wip/gen/t10c.py of this repo.)
-/
import Derived.Test.YtcjfkkoapncnhaaMiB
import Derived.Test.YtcjfkkoapncnhaaBaseS
import Derived.Test.YtcjfkkoapncnhaaBaseT
namespace Go.Proofs.Ytcjfkkoapncnhaa
open Go Go.SL Go.Proofs
set_option linter.unusedVariables false

theorem built26o (o : Bool) : Try.prog.built 26 [(3, .bool o)] = some #[.slice none 0 0, .slice none 0 0, .slice none 0 0, .bool o] := by kernel_rfl

theorem c_ownR (pv cv bv : Value) (ps : List Pg) (cs : List Wr) (bs : List Int) (off : Bool) (w : World) (lo up : Nat) (hup : up ≤ w.heap.size) (hp : NRd LP w lo up pv ps) (hc : NRd LW w lo up cv cs) (hb : NRd LI w lo up bv bs) (hpL : ps.length ≤ 1048576) (hcL : cs.length ≤ 1048576) (hbL : bs.length ≤ 1048576) : CT Try.prog 32 #[(.agg #[pv, cv, bv, (.bool (off))])] w fun v w' => ∃ p2 c2 b2, v = .agg #[p2, c2, b2, .bool off] ∧ NOwn LP w' 37 5 w.heap.size w'.heap.size p2 ps ∧ NOwn LW w' 63 5 w.heap.size w'.heap.size c2 cs ∧ NOwn LI w' 3 5 w.heap.size w'.heap.size b2 bs ∧ Ext w w' := by
 obtain ⟨n0, hn0⟩ : ∃ n, n = w.heap.size := ⟨_, rfl⟩
 have hU : Upd (fun i => n0 ≤ i) w w := Upd.refl _ _
 have hpl := hp.sv.len
 have hcl := hc.sv.len
 have hbl := hb.sv.len
 rw [← hn0] at hup
 refine CT_of Try.func32 rfl rfl rfl ?_
 refine W_seq ?_
 refine W_reg ?_
 refine L_op rfl (X_box (v := (.agg #[pv, cv, bv, (.bool (off))])) (c := ([pv, cv, bv, (.bool (off))]).toArray) rfl rfl ?_)
 intro b1 w1 hn1
 have hbn1 := hn1.num; have hbs1 := hn1.size
 replace hp := hp.ext hn1.ext
 replace hc := hc.ext hn1.ext
 replace hb := hb.ext hn1.ext
 replace hU := hU.trans (Ext.upd hn1.ext)
 have hB1 := hn1.blk
 refine L_op rfl (X_alloc (z := (.agg #[(.slice none 0 0), (.slice none 0 0), (.slice none 0 0), (.bool (false))])) (c := #[(.slice none 0 0), (.slice none 0 0), (.slice none 0 0), (.bool (false))]) Zv26 rfl ?_)
 intro b2 w2 hn2
 have hbn2 := hn2.num; have hbs2 := hn2.size
 replace hp := hp.ext hn2.ext
 replace hc := hc.ext hn2.ext
 replace hb := hb.ext hn2.ext
 replace hU := hU.trans (Ext.upd hn2.ext)
 replace hB1 := hB1.ext hn2.ext
 have hB2 := hn2.blk
 refine L_nil ?_
 refine T_n ?_
 refine W_seq ?_
 refine W_reg ?_
 refine L_op rfl (X_fldP (b := b1) (o := 0) (r := 3) Fd26_3 rfl rfl ?_)
 refine L_op rfl (X_load (p := (ptr b1 (3))) (v := (.bool (off))) T4 rfl (hB1.at1 rfl) ?_)
 refine L_op rfl (X_build (built26o off) ?_)
 refine L_op rfl (X_alloc (z := (.agg #[(.slice none 0 0), (.slice none 0 0), (.slice none 0 0), (.bool (false))])) (c := #[(.slice none 0 0), (.slice none 0 0), (.slice none 0 0), (.bool (false))]) Zv26 rfl ?_)
 intro b3 w3 hn3
 have hbn3 := hn3.num; have hbs3 := hn3.size
 replace hp := hp.ext hn3.ext
 replace hc := hc.ext hn3.ext
 replace hb := hb.ext hn3.ext
 replace hU := hU.trans (Ext.upd hn3.ext)
 replace hB1 := hB1.ext hn3.ext
 replace hB2 := hB2.ext hn3.ext
 have hB3 := hn3.blk
 refine L_op0 (X_storeW (b := b3) (ys := [(.slice none 0 0), (.slice none 0 0), (.slice none 0 0), (.bool (off))]) A26 rfl rfl (List.forall_mem_cons.2 ⟨rfl, (List.forall_mem_cons.2 ⟨rfl, (List.forall_mem_cons.2 ⟨rfl, (List.forall_mem_cons.2 ⟨rfl, (fun _ h => by cases h)⟩)⟩)⟩)⟩) rfl hB3 rfl ?_)
 intro w4 hu4 hb4
 have hz4 := hu4.size
 replace hp := hp.upd hu4 fun i h1 h2 h => by have h : i = b3 := h; omega
 replace hc := hc.upd hu4 fun i h1 h2 h => by have h : i = b3 := h; omega
 replace hb := hb.upd hu4 fun i h1 h2 h => by have h : i = b3 := h; omega
 replace hU := hU.trans (hu4.mono fun i _ h => by have h : i = b3 := h; show n0 ≤ i; omega)
 replace hB1 := hB1.upd hu4 fun h => by have h : b1 = b3 := h; omega
 replace hB2 := hB2.upd hu4 fun h => by have h : b2 = b3 := h; omega
 replace hB3 : Blk w4 b3 #[(.slice none 0 0), (.slice none 0 0), (.slice none 0 0), (.bool (off))] 26 := hb4
 refine L_nil ?_
 refine T_n ?_
 refine W_seq ?_
 refine W_reg ?_
 refine L_op rfl (X_fldP (b := b3) (o := 0) (r := 0) Fd26_0 rfl rfl ?_)
 refine L_op rfl (X_load (p := (ptr b3 (0))) (v := (.slice none 0 0)) T22 rfl (hB3.at1 rfl) ?_)
 refine L_op rfl (X_fldP (b := b1) (o := 0) (r := 0) Fd26_0 rfl rfl ?_)
 refine L_op rfl (X_load (p := (ptr b1 (0))) (v := pv) T22 rfl (hB1.at1 rfl) ?_)
 obtain ⟨s_a, hs_a⟩ : ∃ n, n = w4.heap.size := ⟨_, rfl⟩
 refine L_op rfl (X_append (B := s_a) (n := 0) (s := .slice none 0 0) (x := pv) S22 ⟨_, Try.underlying22⟩ rfl rfl (xs := []) (Own.nil _ _ _ _) hp.1 hp.sub_one (by unfold maxLen; omega) (by omega) (by omega) ?_)
 intro v_a w_a hO_a hu_a _
 replace hO_a := hO_a.eq (Nat.zero_add _) (List.nil_append _)
 replace hu_a := hu_a.nobk
 have hz_a := hu_a.size
 replace hp := hp.ext hu_a
 replace hc := hc.ext hu_a
 replace hb := hb.ext hu_a
 replace hU := hU.trans (Ext.upd hu_a)
 replace hB1 := hB1.ext hu_a
 replace hB2 := hB2.ext hu_a
 replace hB3 := hB3.ext hu_a
 have hN_a : NOwn LP w_a 37 5 s_a w_a.heap.size v_a ps := NOwn.of (fun _ => rfl) hO_a fun b hb => (hO_a.lt hb).2
 obtain ⟨u_a, hu__a⟩ : ∃ n, n = w_a.heap.size := ⟨_, rfl⟩
 rw [← hu__a] at hN_a
 refine L_op rfl (X_fldP (b := b3) (o := 0) (r := 0) Fd26_0 rfl rfl ?_)
 refine L_op0 (X_store (b := b3) (o := 0) T22 rfl rfl (hN_a.1.sv.one) hB3 (by show (0 : Nat) < 4; decide) ?_)
 intro w5 hu5 hb5
 have hz5 := hu5.size
 replace hp := hp.upd hu5 fun i h1 h2 h => by have h : i = b3 := h; omega
 replace hc := hc.upd hu5 fun i h1 h2 h => by have h : i = b3 := h; omega
 replace hb := hb.upd hu5 fun i h1 h2 h => by have h : i = b3 := h; omega
 replace hU := hU.trans (hu5.mono fun i _ h => by have h : i = b3 := h; show n0 ≤ i; omega)
 replace hB1 := hB1.upd hu5 fun h => by have h : b1 = b3 := h; omega
 replace hB2 := hB2.upd hu5 fun h => by have h : b2 = b3 := h; omega
 replace hN_a := hN_a.upd hu5 fun i h1 h2 h => by have h : i = b3 := h; omega
 replace hB3 : Blk w5 b3 #[v_a, (.slice none 0 0), (.slice none 0 0), (.bool (off))] 26 := hb5
 refine L_nil ?_
 refine T_n ?_
 refine W_seq ?_
 refine W_reg ?_
 refine L_op rfl (X_fldP (b := b3) (o := 0) (r := 1) Fd26_1 rfl rfl ?_)
 refine L_op rfl (X_load (p := (ptr b3 (1))) (v := (.slice none 0 0)) T23 rfl (hB3.at1 rfl) ?_)
 refine L_op rfl (X_fldP (b := b1) (o := 0) (r := 1) Fd26_1 rfl rfl ?_)
 refine L_op rfl (X_load (p := (ptr b1 (1))) (v := cv) T23 rfl (hB1.at1 rfl) ?_)
 obtain ⟨s_b, hs_b⟩ : ∃ n, n = w5.heap.size := ⟨_, rfl⟩
 refine L_op rfl (X_append (B := s_b) (n := 0) (s := .slice none 0 0) (x := cv) S23 ⟨_, Try.underlying23⟩ rfl rfl (xs := []) (Own.nil _ _ _ _) hc.1 hc.sub_one (by unfold maxLen; omega) (by omega) (by omega) ?_)
 intro v_b w_b hO_b hu_b _
 replace hO_b := hO_b.eq (Nat.zero_add _) (List.nil_append _)
 replace hu_b := hu_b.nobk
 have hz_b := hu_b.size
 replace hp := hp.ext hu_b
 replace hc := hc.ext hu_b
 replace hb := hb.ext hu_b
 replace hU := hU.trans (Ext.upd hu_b)
 replace hB1 := hB1.ext hu_b
 replace hB2 := hB2.ext hu_b
 replace hN_a := hN_a.ext hu_b
 replace hB3 := hB3.ext hu_b
 have hN_b : NOwn LW w_b 63 5 s_b w_b.heap.size v_b cs := NOwn.of (fun _ => rfl) hO_b fun b hb => (hO_b.lt hb).2
 obtain ⟨u_b, hu__b⟩ : ∃ n, n = w_b.heap.size := ⟨_, rfl⟩
 rw [← hu__b] at hN_b
 refine L_op rfl (X_fldP (b := b3) (o := 0) (r := 1) Fd26_1 rfl rfl ?_)
 refine L_op0 (X_store (b := b3) (o := 1) T23 rfl rfl (hN_b.1.sv.one) hB3 (by show (1 : Nat) < 4; decide) ?_)
 intro w6 hu6 hb6
 have hz6 := hu6.size
 replace hp := hp.upd hu6 fun i h1 h2 h => by have h : i = b3 := h; omega
 replace hc := hc.upd hu6 fun i h1 h2 h => by have h : i = b3 := h; omega
 replace hb := hb.upd hu6 fun i h1 h2 h => by have h : i = b3 := h; omega
 replace hU := hU.trans (hu6.mono fun i _ h => by have h : i = b3 := h; show n0 ≤ i; omega)
 replace hB1 := hB1.upd hu6 fun h => by have h : b1 = b3 := h; omega
 replace hB2 := hB2.upd hu6 fun h => by have h : b2 = b3 := h; omega
 replace hN_a := hN_a.upd hu6 fun i h1 h2 h => by have h : i = b3 := h; omega
 replace hN_b := hN_b.upd hu6 fun i h1 h2 h => by have h : i = b3 := h; omega
 replace hB3 : Blk w6 b3 #[v_a, v_b, (.slice none 0 0), (.bool (off))] 26 := hb6
 refine L_nil ?_
 refine T_n ?_
 refine W_seq ?_
 refine W_reg ?_
 refine L_op rfl (X_fldP (b := b3) (o := 0) (r := 2) Fd26_2 rfl rfl ?_)
 refine L_op rfl (X_load (p := (ptr b3 (2))) (v := (.slice none 0 0)) T24 rfl (hB3.at1 rfl) ?_)
 refine L_op rfl (X_fldP (b := b1) (o := 0) (r := 2) Fd26_2 rfl rfl ?_)
 refine L_op rfl (X_load (p := (ptr b1 (2))) (v := bv) T24 rfl (hB1.at1 rfl) ?_)
 obtain ⟨s_c, hs_c⟩ : ∃ n, n = w6.heap.size := ⟨_, rfl⟩
 refine L_op rfl (X_append (B := s_c) (n := 0) (s := .slice none 0 0) (x := bv) S24 ⟨_, Try.underlying24⟩ rfl rfl (xs := []) (Own.nil _ _ _ _) hb.1 hb.sub_one (by unfold maxLen; omega) (by omega) (by omega) ?_)
 intro v_c w_c hO_c hu_c _
 replace hO_c := hO_c.eq (Nat.zero_add _) (List.nil_append _)
 replace hu_c := hu_c.nobk
 have hz_c := hu_c.size
 replace hp := hp.ext hu_c
 replace hc := hc.ext hu_c
 replace hb := hb.ext hu_c
 replace hU := hU.trans (Ext.upd hu_c)
 replace hB1 := hB1.ext hu_c
 replace hB2 := hB2.ext hu_c
 replace hN_a := hN_a.ext hu_c
 replace hN_b := hN_b.ext hu_c
 replace hB3 := hB3.ext hu_c
 have hN_c : NOwn LI w_c 3 5 s_c w_c.heap.size v_c bs := NOwn.of (fun _ => rfl) hO_c fun b hb => (hO_c.lt hb).2
 obtain ⟨u_c, hu__c⟩ : ∃ n, n = w_c.heap.size := ⟨_, rfl⟩
 rw [← hu__c] at hN_c
 refine L_op rfl (X_fldP (b := b3) (o := 0) (r := 2) Fd26_2 rfl rfl ?_)
 refine L_op0 (X_store (b := b3) (o := 2) T24 rfl rfl (hN_c.1.sv.one) hB3 (by show (2 : Nat) < 4; decide) ?_)
 intro w7 hu7 hb7
 have hz7 := hu7.size
 replace hp := hp.upd hu7 fun i h1 h2 h => by have h : i = b3 := h; omega
 replace hc := hc.upd hu7 fun i h1 h2 h => by have h : i = b3 := h; omega
 replace hb := hb.upd hu7 fun i h1 h2 h => by have h : i = b3 := h; omega
 replace hU := hU.trans (hu7.mono fun i _ h => by have h : i = b3 := h; show n0 ≤ i; omega)
 replace hB1 := hB1.upd hu7 fun h => by have h : b1 = b3 := h; omega
 replace hB2 := hB2.upd hu7 fun h => by have h : b2 = b3 := h; omega
 replace hN_a := hN_a.upd hu7 fun i h1 h2 h => by have h : i = b3 := h; omega
 replace hN_b := hN_b.upd hu7 fun i h1 h2 h => by have h : i = b3 := h; omega
 replace hN_c := hN_c.upd hu7 fun i h1 h2 h => by have h : i = b3 := h; omega
 replace hB3 : Blk w7 b3 #[v_a, v_b, v_c, (.bool (off))] 26 := hb7
 refine L_nil ?_
 refine T_n ?_
 refine W_seq ?_
 refine W_reg ?_
 refine L_op rfl (X_loadA (p := (ptr b3 (0))) (xs := [v_a, v_b, v_c, (.bool (off))]) A26 rfl hB3.atAll rfl ?_)
 refine L_op0 (X_storeW (b := b2) (ys := [v_a, v_b, v_c, (.bool (off))]) A26 rfl rfl (List.forall_mem_cons.2 ⟨(hN_a.1.sv.one), (List.forall_mem_cons.2 ⟨(hN_b.1.sv.one), (List.forall_mem_cons.2 ⟨(hN_c.1.sv.one), (List.forall_mem_cons.2 ⟨rfl, (fun _ h => by cases h)⟩)⟩)⟩)⟩) rfl hB2 rfl ?_)
 intro w8 hu8 hb8
 have hz8 := hu8.size
 replace hp := hp.upd hu8 fun i h1 h2 h => by have h : i = b2 := h; omega
 replace hc := hc.upd hu8 fun i h1 h2 h => by have h : i = b2 := h; omega
 replace hb := hb.upd hu8 fun i h1 h2 h => by have h : i = b2 := h; omega
 replace hU := hU.trans (hu8.mono fun i _ h => by have h : i = b2 := h; show n0 ≤ i; omega)
 replace hB1 := hB1.upd hu8 fun h => by have h : b1 = b2 := h; omega
 replace hN_a := hN_a.upd hu8 fun i h1 h2 h => by have h : i = b2 := h; omega
 replace hN_b := hN_b.upd hu8 fun i h1 h2 h => by have h : i = b2 := h; omega
 replace hN_c := hN_c.upd hu8 fun i h1 h2 h => by have h : i = b2 := h; omega
 replace hB3 := hB3.upd hu8 fun h => by have h : b3 = b2 := h; omega
 replace hB2 : Blk w8 b2 #[v_a, v_b, v_c, (.bool (off))] 26 := hb8
 refine L_nil ?_
 refine T_n ?_
 refine W_ret ?_
 have hU2 := hU.own hn0
 exact BQ_r (End_1 Try.results32 (RV_A A26 rfl hB2.atAll rfl) ⟨_, _, _, rfl, hN_a.mono (by omega) (by omega), hN_b.mono (by omega) (by omega), hN_c.mono (by omega) (by omega), hU2⟩)

theorem c_detachR (pv cv bv : Value) (ps : List Pg) (cs : List Wr) (bs : List Int) (off : Bool) (w : World) (lo up : Nat) (hup : up ≤ w.heap.size) (hp : NRd LP w lo up pv ps) (hc : NRd LW w lo up cv cs) (hb : NRd LI w lo up bv bs) (hpL : ps.length ≤ 1048576) (hcL : cs.length ≤ 1048576) (hbL : bs.length ≤ 1048576) : CT Try.prog 15 #[(.agg #[pv, cv, bv, (.bool (off))])] w fun v w' => ∃ p2 i2, v = .agg #[p2, .slice none 0 0, i2, .bool true] ∧ NOwn LP w' 37 5 w.heap.size w'.heap.size p2 ps ∧ NOwn LI w' 3 5 w.heap.size w'.heap.size i2 bs ∧ Ext w w' := by
 obtain ⟨n0, hn0⟩ : ∃ n, n = w.heap.size := ⟨_, rfl⟩
 have hU : Upd (fun i => n0 ≤ i) w w := Upd.refl _ _
 have hpl := hp.sv.len
 have hcl := hc.sv.len
 have hbl := hb.sv.len
 rw [← hn0] at hup
 refine CT_of Try.func15 rfl rfl rfl ?_
 refine W_seq ?_
 refine W_reg ?_
 refine L_op rfl (X_box (v := (.agg #[pv, cv, bv, (.bool (off))])) (c := ([pv, cv, bv, (.bool (off))]).toArray) rfl rfl ?_)
 intro b1 w1 hn1
 have hbn1 := hn1.num; have hbs1 := hn1.size
 replace hp := hp.ext hn1.ext
 replace hc := hc.ext hn1.ext
 replace hb := hb.ext hn1.ext
 replace hU := hU.trans (Ext.upd hn1.ext)
 have hB1 := hn1.blk
 refine L_op rfl (X_alloc (z := (.agg #[(.slice none 0 0), (.slice none 0 0), (.slice none 0 0), (.bool (false))])) (c := #[(.slice none 0 0), (.slice none 0 0), (.slice none 0 0), (.bool (false))]) Zv26 rfl ?_)
 intro b2 w2 hn2
 have hbn2 := hn2.num; have hbs2 := hn2.size
 replace hp := hp.ext hn2.ext
 replace hc := hc.ext hn2.ext
 replace hb := hb.ext hn2.ext
 replace hU := hU.trans (Ext.upd hn2.ext)
 replace hB1 := hB1.ext hn2.ext
 have hB2 := hn2.blk
 refine L_nil ?_
 refine T_n ?_
 refine W_seq ?_
 refine W_reg ?_
 refine L_op rfl (X_loadA (p := (ptr b1 (0))) (xs := [pv, cv, bv, (.bool (off))]) A26 rfl hB1.atAll rfl ?_)
 obtain ⟨s0, hs0⟩ : ∃ n, n = w2.heap.size := ⟨_, rfl⟩
 refine L_op rfl (X_fn (vs := [(.agg ([pv, cv, bv, (.bool (off))]).toArray)]) en32 rfl (CT.mono (c_ownR pv cv bv ps cs bs off _ lo up (by omega) hp hc hb hpL hcL hbL) ?_))
 rintro _ w3 ⟨p_2, c_2, i_2, rfl, hP2, hC2, hI2, hu3⟩
 have hz3 := hu3.size
 rw [← hs0] at hP2 hC2 hI2
 obtain ⟨us0, hus0_⟩ : ∃ n, n = w3.heap.size := ⟨_, rfl⟩
 rw [← hus0_] at hP2 hC2 hI2
 replace hp := hp.ext hu3
 replace hc := hc.ext hu3
 replace hb := hb.ext hu3
 replace hU := hU.trans (Ext.upd hu3)
 replace hB1 := hB1.ext hu3
 replace hB2 := hB2.ext hu3
 refine L_op rfl (X_alloc (z := (.agg #[(.slice none 0 0), (.slice none 0 0), (.slice none 0 0), (.bool (false))])) (c := #[(.slice none 0 0), (.slice none 0 0), (.slice none 0 0), (.bool (false))]) Zv26 rfl ?_)
 intro b4 w4 hn4
 have hbn4 := hn4.num; have hbs4 := hn4.size
 replace hp := hp.ext hn4.ext
 replace hc := hc.ext hn4.ext
 replace hb := hb.ext hn4.ext
 replace hU := hU.trans (Ext.upd hn4.ext)
 replace hB1 := hB1.ext hn4.ext
 replace hB2 := hB2.ext hn4.ext
 replace hP2 := hP2.ext hn4.ext
 replace hC2 := hC2.ext hn4.ext
 replace hI2 := hI2.ext hn4.ext
 have hB4 := hn4.blk
 refine L_op0 (X_storeW (b := b4) (ys := [p_2, c_2, i_2, (.bool (off))]) A26 rfl rfl (List.forall_mem_cons.2 ⟨(hP2.1.sv.one), (List.forall_mem_cons.2 ⟨(hC2.1.sv.one), (List.forall_mem_cons.2 ⟨(hI2.1.sv.one), (List.forall_mem_cons.2 ⟨rfl, (fun _ h => by cases h)⟩)⟩)⟩)⟩) rfl hB4 rfl ?_)
 intro w5 hu5 hb5
 have hz5 := hu5.size
 replace hp := hp.upd hu5 fun i h1 h2 h => by have h : i = b4 := h; omega
 replace hc := hc.upd hu5 fun i h1 h2 h => by have h : i = b4 := h; omega
 replace hb := hb.upd hu5 fun i h1 h2 h => by have h : i = b4 := h; omega
 replace hU := hU.trans (hu5.mono fun i _ h => by have h : i = b4 := h; show n0 ≤ i; omega)
 replace hB1 := hB1.upd hu5 fun h => by have h : b1 = b4 := h; omega
 replace hB2 := hB2.upd hu5 fun h => by have h : b2 = b4 := h; omega
 replace hP2 := hP2.upd hu5 fun i h1 h2 h => by have h : i = b4 := h; omega
 replace hC2 := hC2.upd hu5 fun i h1 h2 h => by have h : i = b4 := h; omega
 replace hI2 := hI2.upd hu5 fun i h1 h2 h => by have h : i = b4 := h; omega
 replace hB4 : Blk w5 b4 #[p_2, c_2, i_2, (.bool (off))] 26 := hb5
 refine L_nil ?_
 refine T_n ?_
 refine W_seq ?_
 refine W_reg ?_
 refine L_op rfl (X_fldP (b := b4) (o := 0) (r := 3) Fd26_3 rfl rfl ?_)
 refine L_op0 (X_store (b := b4) (o := 3) T4 rfl rfl rfl hB4 (by show (3 : Nat) < 4; decide) ?_)
 intro w6 hu6 hb6
 have hz6 := hu6.size
 replace hp := hp.upd hu6 fun i h1 h2 h => by have h : i = b4 := h; omega
 replace hc := hc.upd hu6 fun i h1 h2 h => by have h : i = b4 := h; omega
 replace hb := hb.upd hu6 fun i h1 h2 h => by have h : i = b4 := h; omega
 replace hU := hU.trans (hu6.mono fun i _ h => by have h : i = b4 := h; show n0 ≤ i; omega)
 replace hB1 := hB1.upd hu6 fun h => by have h : b1 = b4 := h; omega
 replace hB2 := hB2.upd hu6 fun h => by have h : b2 = b4 := h; omega
 replace hP2 := hP2.upd hu6 fun i h1 h2 h => by have h : i = b4 := h; omega
 replace hC2 := hC2.upd hu6 fun i h1 h2 h => by have h : i = b4 := h; omega
 replace hI2 := hI2.upd hu6 fun i h1 h2 h => by have h : i = b4 := h; omega
 replace hB4 : Blk w6 b4 #[p_2, c_2, i_2, (.bool (true))] 26 := hb6
 refine L_nil ?_
 refine T_n ?_
 refine W_seq ?_
 refine W_reg ?_
 refine L_op rfl (X_fldP (b := b4) (o := 0) (r := 1) Fd26_1 rfl rfl ?_)
 refine L_op0 (X_store (b := b4) (o := 1) T23 rfl rfl rfl hB4 (by show (1 : Nat) < 4; decide) ?_)
 intro w7 hu7 hb7
 have hz7 := hu7.size
 replace hp := hp.upd hu7 fun i h1 h2 h => by have h : i = b4 := h; omega
 replace hc := hc.upd hu7 fun i h1 h2 h => by have h : i = b4 := h; omega
 replace hb := hb.upd hu7 fun i h1 h2 h => by have h : i = b4 := h; omega
 replace hU := hU.trans (hu7.mono fun i _ h => by have h : i = b4 := h; show n0 ≤ i; omega)
 replace hB1 := hB1.upd hu7 fun h => by have h : b1 = b4 := h; omega
 replace hB2 := hB2.upd hu7 fun h => by have h : b2 = b4 := h; omega
 replace hP2 := hP2.upd hu7 fun i h1 h2 h => by have h : i = b4 := h; omega
 replace hC2 := hC2.upd hu7 fun i h1 h2 h => by have h : i = b4 := h; omega
 replace hI2 := hI2.upd hu7 fun i h1 h2 h => by have h : i = b4 := h; omega
 replace hB4 : Blk w7 b4 #[p_2, (.slice none 0 0), i_2, (.bool (true))] 26 := hb7
 refine L_nil ?_
 refine T_n ?_
 refine W_seq ?_
 refine W_reg ?_
 refine L_op rfl (X_loadA (p := (ptr b4 (0))) (xs := [p_2, (.slice none 0 0), i_2, (.bool (true))]) A26 rfl hB4.atAll rfl ?_)
 refine L_op0 (X_storeW (b := b2) (ys := [p_2, (.slice none 0 0), i_2, (.bool (true))]) A26 rfl rfl (List.forall_mem_cons.2 ⟨(hP2.1.sv.one), (List.forall_mem_cons.2 ⟨rfl, (List.forall_mem_cons.2 ⟨(hI2.1.sv.one), (List.forall_mem_cons.2 ⟨rfl, (fun _ h => by cases h)⟩)⟩)⟩)⟩) rfl hB2 rfl ?_)
 intro w8 hu8 hb8
 have hz8 := hu8.size
 replace hp := hp.upd hu8 fun i h1 h2 h => by have h : i = b2 := h; omega
 replace hc := hc.upd hu8 fun i h1 h2 h => by have h : i = b2 := h; omega
 replace hb := hb.upd hu8 fun i h1 h2 h => by have h : i = b2 := h; omega
 replace hU := hU.trans (hu8.mono fun i _ h => by have h : i = b2 := h; show n0 ≤ i; omega)
 replace hB1 := hB1.upd hu8 fun h => by have h : b1 = b2 := h; omega
 replace hP2 := hP2.upd hu8 fun i h1 h2 h => by have h : i = b2 := h; omega
 replace hC2 := hC2.upd hu8 fun i h1 h2 h => by have h : i = b2 := h; omega
 replace hI2 := hI2.upd hu8 fun i h1 h2 h => by have h : i = b2 := h; omega
 replace hB4 := hB4.upd hu8 fun h => by have h : b4 = b2 := h; omega
 replace hB2 : Blk w8 b2 #[p_2, (.slice none 0 0), i_2, (.bool (true))] 26 := hb8
 refine L_nil ?_
 refine T_n ?_
 refine W_ret ?_
 exact BQ_r (End_1 Try.results15 (RV_A A26 rfl hB2.atAll rfl) ⟨_, _, rfl, hP2.mono (by omega) (by omega), hI2.mono (by omega) (by omega), hU.own hn0⟩)

theorem c_attachR (pv cv bv : Value) (ps : List Pg) (cs : List Wr) (bs : List Int) (off : Bool) (w : World) (lo up : Nat) (hup : up ≤ w.heap.size) (hp : NRd LP w lo up pv ps) (hc : NRd LW w lo up cv cs) (hb : NRd LI w lo up bv bs) (hpL : ps.length ≤ 1048576) (hcL : cs.length ≤ 1048576) (hbL : bs.length ≤ 1048576) : CT Try.prog 16 #[(.agg #[pv, cv, bv, (.bool (off))])] w fun v w' => ∃ p2 c2 i2, v = .agg #[p2, c2, i2, .bool false] ∧ NOwn LP w' 37 5 w.heap.size w'.heap.size p2 ps ∧ NOwn LW w' 63 5 w.heap.size w'.heap.size c2 cs ∧ NOwn LI w' 3 5 w.heap.size w'.heap.size i2 bs ∧ Ext w w' := by
 obtain ⟨n0, hn0⟩ : ∃ n, n = w.heap.size := ⟨_, rfl⟩
 have hU : Upd (fun i => n0 ≤ i) w w := Upd.refl _ _
 have hpl := hp.sv.len
 have hcl := hc.sv.len
 have hbl := hb.sv.len
 rw [← hn0] at hup
 refine CT_of Try.func16 rfl rfl rfl ?_
 refine W_seq ?_
 refine W_reg ?_
 refine L_op rfl (X_box (v := (.agg #[pv, cv, bv, (.bool (off))])) (c := ([pv, cv, bv, (.bool (off))]).toArray) rfl rfl ?_)
 intro b1 w1 hn1
 have hbn1 := hn1.num; have hbs1 := hn1.size
 replace hp := hp.ext hn1.ext
 replace hc := hc.ext hn1.ext
 replace hb := hb.ext hn1.ext
 replace hU := hU.trans (Ext.upd hn1.ext)
 have hB1 := hn1.blk
 refine L_op rfl (X_alloc (z := (.agg #[(.slice none 0 0), (.slice none 0 0), (.slice none 0 0), (.bool (false))])) (c := #[(.slice none 0 0), (.slice none 0 0), (.slice none 0 0), (.bool (false))]) Zv26 rfl ?_)
 intro b2 w2 hn2
 have hbn2 := hn2.num; have hbs2 := hn2.size
 replace hp := hp.ext hn2.ext
 replace hc := hc.ext hn2.ext
 replace hb := hb.ext hn2.ext
 replace hU := hU.trans (Ext.upd hn2.ext)
 replace hB1 := hB1.ext hn2.ext
 have hB2 := hn2.blk
 refine L_nil ?_
 refine T_n ?_
 refine W_seq ?_
 refine W_reg ?_
 refine L_op rfl (X_loadA (p := (ptr b1 (0))) (xs := [pv, cv, bv, (.bool (off))]) A26 rfl hB1.atAll rfl ?_)
 obtain ⟨s0, hs0⟩ : ∃ n, n = w2.heap.size := ⟨_, rfl⟩
 refine L_op rfl (X_fn (vs := [(.agg ([pv, cv, bv, (.bool (off))]).toArray)]) en32 rfl (CT.mono (c_ownR pv cv bv ps cs bs off _ lo up (by omega) hp hc hb hpL hcL hbL) ?_))
 rintro _ w3 ⟨p_2, c_2, i_2, rfl, hP2, hC2, hI2, hu3⟩
 have hz3 := hu3.size
 rw [← hs0] at hP2 hC2 hI2
 obtain ⟨us0, hus0_⟩ : ∃ n, n = w3.heap.size := ⟨_, rfl⟩
 rw [← hus0_] at hP2 hC2 hI2
 replace hp := hp.ext hu3
 replace hc := hc.ext hu3
 replace hb := hb.ext hu3
 replace hU := hU.trans (Ext.upd hu3)
 replace hB1 := hB1.ext hu3
 replace hB2 := hB2.ext hu3
 refine L_op rfl (X_alloc (z := (.agg #[(.slice none 0 0), (.slice none 0 0), (.slice none 0 0), (.bool (false))])) (c := #[(.slice none 0 0), (.slice none 0 0), (.slice none 0 0), (.bool (false))]) Zv26 rfl ?_)
 intro b4 w4 hn4
 have hbn4 := hn4.num; have hbs4 := hn4.size
 replace hp := hp.ext hn4.ext
 replace hc := hc.ext hn4.ext
 replace hb := hb.ext hn4.ext
 replace hU := hU.trans (Ext.upd hn4.ext)
 replace hB1 := hB1.ext hn4.ext
 replace hB2 := hB2.ext hn4.ext
 replace hP2 := hP2.ext hn4.ext
 replace hC2 := hC2.ext hn4.ext
 replace hI2 := hI2.ext hn4.ext
 have hB4 := hn4.blk
 refine L_op0 (X_storeW (b := b4) (ys := [p_2, c_2, i_2, (.bool (off))]) A26 rfl rfl (List.forall_mem_cons.2 ⟨(hP2.1.sv.one), (List.forall_mem_cons.2 ⟨(hC2.1.sv.one), (List.forall_mem_cons.2 ⟨(hI2.1.sv.one), (List.forall_mem_cons.2 ⟨rfl, (fun _ h => by cases h)⟩)⟩)⟩)⟩) rfl hB4 rfl ?_)
 intro w5 hu5 hb5
 have hz5 := hu5.size
 replace hp := hp.upd hu5 fun i h1 h2 h => by have h : i = b4 := h; omega
 replace hc := hc.upd hu5 fun i h1 h2 h => by have h : i = b4 := h; omega
 replace hb := hb.upd hu5 fun i h1 h2 h => by have h : i = b4 := h; omega
 replace hU := hU.trans (hu5.mono fun i _ h => by have h : i = b4 := h; show n0 ≤ i; omega)
 replace hB1 := hB1.upd hu5 fun h => by have h : b1 = b4 := h; omega
 replace hB2 := hB2.upd hu5 fun h => by have h : b2 = b4 := h; omega
 replace hP2 := hP2.upd hu5 fun i h1 h2 h => by have h : i = b4 := h; omega
 replace hC2 := hC2.upd hu5 fun i h1 h2 h => by have h : i = b4 := h; omega
 replace hI2 := hI2.upd hu5 fun i h1 h2 h => by have h : i = b4 := h; omega
 replace hB4 : Blk w5 b4 #[p_2, c_2, i_2, (.bool (off))] 26 := hb5
 refine L_nil ?_
 refine T_n ?_
 refine W_seq ?_
 refine W_reg ?_
 refine L_op rfl (X_fldP (b := b4) (o := 0) (r := 3) Fd26_3 rfl rfl ?_)
 refine L_op0 (X_store (b := b4) (o := 3) T4 rfl rfl rfl hB4 (by show (3 : Nat) < 4; decide) ?_)
 intro w6 hu6 hb6
 have hz6 := hu6.size
 replace hp := hp.upd hu6 fun i h1 h2 h => by have h : i = b4 := h; omega
 replace hc := hc.upd hu6 fun i h1 h2 h => by have h : i = b4 := h; omega
 replace hb := hb.upd hu6 fun i h1 h2 h => by have h : i = b4 := h; omega
 replace hU := hU.trans (hu6.mono fun i _ h => by have h : i = b4 := h; show n0 ≤ i; omega)
 replace hB1 := hB1.upd hu6 fun h => by have h : b1 = b4 := h; omega
 replace hB2 := hB2.upd hu6 fun h => by have h : b2 = b4 := h; omega
 replace hP2 := hP2.upd hu6 fun i h1 h2 h => by have h : i = b4 := h; omega
 replace hC2 := hC2.upd hu6 fun i h1 h2 h => by have h : i = b4 := h; omega
 replace hI2 := hI2.upd hu6 fun i h1 h2 h => by have h : i = b4 := h; omega
 replace hB4 : Blk w6 b4 #[p_2, c_2, i_2, (.bool (false))] 26 := hb6
 refine L_nil ?_
 refine T_n ?_
 refine W_seq ?_
 refine W_reg ?_
 refine L_op rfl (X_loadA (p := (ptr b4 (0))) (xs := [p_2, c_2, i_2, (.bool (false))]) A26 rfl hB4.atAll rfl ?_)
 refine L_op0 (X_storeW (b := b2) (ys := [p_2, c_2, i_2, (.bool (false))]) A26 rfl rfl (List.forall_mem_cons.2 ⟨(hP2.1.sv.one), (List.forall_mem_cons.2 ⟨(hC2.1.sv.one), (List.forall_mem_cons.2 ⟨(hI2.1.sv.one), (List.forall_mem_cons.2 ⟨rfl, (fun _ h => by cases h)⟩)⟩)⟩)⟩) rfl hB2 rfl ?_)
 intro w7 hu7 hb7
 have hz7 := hu7.size
 replace hp := hp.upd hu7 fun i h1 h2 h => by have h : i = b2 := h; omega
 replace hc := hc.upd hu7 fun i h1 h2 h => by have h : i = b2 := h; omega
 replace hb := hb.upd hu7 fun i h1 h2 h => by have h : i = b2 := h; omega
 replace hU := hU.trans (hu7.mono fun i _ h => by have h : i = b2 := h; show n0 ≤ i; omega)
 replace hB1 := hB1.upd hu7 fun h => by have h : b1 = b2 := h; omega
 replace hP2 := hP2.upd hu7 fun i h1 h2 h => by have h : i = b2 := h; omega
 replace hC2 := hC2.upd hu7 fun i h1 h2 h => by have h : i = b2 := h; omega
 replace hI2 := hI2.upd hu7 fun i h1 h2 h => by have h : i = b2 := h; omega
 replace hB4 := hB4.upd hu7 fun h => by have h : b4 = b2 := h; omega
 replace hB2 : Blk w7 b2 #[p_2, c_2, i_2, (.bool (false))] 26 := hb7
 refine L_nil ?_
 refine T_n ?_
 refine W_ret ?_
 exact BQ_r (End_1 Try.results16 (RV_A A26 rfl hB2.atAll rfl) ⟨_, _, _, rfl, hP2.mono (by omega) (by omega), hC2.mono (by omega) (by omega), hI2.mono (by omega) (by omega), hU.own hn0⟩)
end Go.Proofs.Ytcjfkkoapncnhaa
