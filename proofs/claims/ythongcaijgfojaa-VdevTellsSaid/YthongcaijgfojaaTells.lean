/-
  The walk of VdevTells. (Printed by wip/gen/t03t.py of this repo.)
-/
import Derived.Test.YthongcaijgfojaaTellsD
namespace Go.Proofs.Ythongcaijgfojaa
open Go Go.SL Go.Proofs
set_option linter.unusedVariables false

open Classical in
noncomputable def newP (m : Int) : List Pg := if 32 ≤ m ∧ m ≤ 256 then List.replicate m.toNat (default : Pg) else []
open Classical in
noncomputable def newE (m : Int) : Int := if 32 ≤ m ∧ m ≤ 256 then 0 else 2
theorem new_u {v : Value} {w' : World} {lo hi : Nat} {m : Int} (hA : m < 32 ∨ 256 < m → v = .tuple #[.agg #[.slice none 0 0, .slice none 0 0, .slice none 0 0, .bool false], .int .i64 2])
    (hB : 32 ≤ m ∧ m ≤ 256 → ∃ p2, v = .tuple #[.agg #[p2, .slice none 0 0, .slice none 0 0, .bool false], .int .i64 0] ∧ NOwn LP w' 28 5 lo hi p2 (List.replicate m.toNat (default : Pg))) :
    ∃ p2, v = .tuple #[.agg #[p2, .slice none 0 0, .slice none 0 0, .bool false], .int .i64 (newE m)] ∧ NOwn LP w' 28 5 lo hi p2 (newP m) := by
  by_cases h : 32 ≤ m ∧ m ≤ 256
  · obtain ⟨p2, h1, h2⟩ := hB h
    exact ⟨p2, by rw [h1, show newE m = 0 from if_pos h], by rw [show newP m = _ from if_pos h]; exact h2⟩
  · exact ⟨.slice none 0 0, by rw [hA (by omega), show newE m = 2 from if_neg h], by rw [show newP m = [] from if_neg h]; exact NOwn.nil _ _ _ _ _⟩
theorem bool_of (P : Prop) : ∃ g : Bool, (g = true ↔ P) := by
  rcases Classical.em P with h | h
  · exact ⟨true, ⟨fun _ => h, fun _ => rfl⟩⟩
  · exact ⟨false, ⟨fun h1 => (by cases h1), fun h1 => absurd h1 h⟩⟩

set_option maxRecDepth 10000 in
set_option maxHeartbeats 2000000 in
theorem c_vdevTells (pv cv bv : Value) (ps : List Pg) (cs : List Wr) (bs : List Int) (off : Bool) (pv2 cv2 bv2 : Value) (ps2 : List Pg) (cs2 : List Wr) (bs2 : List Int) (off2 : Bool) (n : Int) (p : Pg) (m : Int) (w : World) (hp : NRd LP w 0 w.heap.size pv ps) (hc : NRd LW w 0 w.heap.size cv cs) (hb : NRd LI w 0 w.heap.size bv bs) (hp2 : NRd LP w 0 w.heap.size pv2 ps2) (hc2 : NRd LW w 0 w.heap.size cv2 cs2) (hb2 : NRd LI w 0 w.heap.size bv2 bs2) : CT Try.prog 6 #[(.agg #[pv, cv, bv, (.bool (off))]), (.agg #[pv2, cv2, bv2, (.bool (off2))]), (.int .i64 (n)), (pageV p), (.int .i64 (m))] w fun v w' => v = .bool true ∧ Ext w w' := by
  obtain ⟨n0, hn0⟩ : ∃ n, n = w.heap.size := ⟨_, rfl⟩
  have hU : Upd (fun i => n0 ≤ i) w w := Upd.refl _ _
  have hpl := hp.sv.len
  have hcl := hc.sv.len
  have hbl := hb.sv.len
  have hpl2 := hp2.sv.len
  have hcl2 := hc2.sv.len
  have hbl2 := hb2.sv.len
  rw [← hn0] at hp hc hb hp2 hc2 hb2
  refine CT_of Try.func6 rfl rfl rfl ?_
  refine W_seq ?_
  refine W_reg ?_
  refine L_op rfl (X_box (v := (.agg #[pv, cv, bv, (.bool (off))])) (c := ([pv, cv, bv, (.bool (off))]).toArray) rfl rfl ?_)
  intro b1 w1 hn1
  have hbn1 := hn1.num; have hbs1 := hn1.size
  replace hp := hp.ext hn1.ext
  replace hc := hc.ext hn1.ext
  replace hb := hb.ext hn1.ext
  replace hp2 := hp2.ext hn1.ext
  replace hc2 := hc2.ext hn1.ext
  replace hb2 := hb2.ext hn1.ext
  replace hU := hU.trans (Ext.upd hn1.ext)
  have hB1 := hn1.blk
  refine L_op rfl (X_box (v := (.agg #[pv2, cv2, bv2, (.bool (off2))])) (c := ([pv2, cv2, bv2, (.bool (off2))]).toArray) rfl rfl ?_)
  intro b2 w2 hn2
  have hbn2 := hn2.num; have hbs2 := hn2.size
  replace hp := hp.ext hn2.ext
  replace hc := hc.ext hn2.ext
  replace hb := hb.ext hn2.ext
  replace hp2 := hp2.ext hn2.ext
  replace hc2 := hc2.ext hn2.ext
  replace hb2 := hb2.ext hn2.ext
  replace hU := hU.trans (Ext.upd hn2.ext)
  replace hB1 := hB1.ext hn2.ext
  have hB2 := hn2.blk
  refine L_op rfl (X_box (v := (pageV p)) (c := ((p.1).map byteV).toArray) rfl rfl ?_)
  intro b3 w3 hn3
  have hbn3 := hn3.num; have hbs3 := hn3.size
  replace hp := hp.ext hn3.ext
  replace hc := hc.ext hn3.ext
  replace hb := hb.ext hn3.ext
  replace hp2 := hp2.ext hn3.ext
  replace hc2 := hc2.ext hn3.ext
  replace hb2 := hb2.ext hn3.ext
  replace hU := hU.trans (Ext.upd hn3.ext)
  replace hB1 := hB1.ext hn3.ext
  replace hB2 := hB2.ext hn3.ext
  have hB3 := hn3.blk
  refine L_op rfl (X_assign (v := (.bool (false))) rfl ?_)
  refine L_nil ?_
  refine T_n ?_
  refine W_seq ?_
  refine W_seq ?_
  refine W_reg ?_
  refine L_op rfl (X_loadA (p := (ptr b1 (0))) (xs := [pv, cv, bv, (.bool (off))]) A26 rfl hB1.atAll rfl ?_)
  refine L_op rfl (X_loadA (p := (ptr b2 (0))) (xs := [pv2, cv2, bv2, (.bool (off2))]) A26 rfl hB2.atAll rfl ?_)
  refine L_op rfl (X_buildSliceL (vs := [(.agg ([pv, cv, bv, (.bool (off))]).toArray), (.agg ([pv2, cv2, bv2, (.bool (off2))]).toArray)]) (c := [pv, cv, bv, (.bool (off)), pv2, cv2, bv2, (.bool (off2))]) S41 (by decide) rfl rfl (List.forall_mem_cons.2 ⟨rfl, (List.forall_mem_cons.2 ⟨rfl, (fun _ h => by cases h)⟩)⟩) rfl ?_)
  intro b4 w4 hn4
  have hbn4 := hn4.num; have hbs4 := hn4.size
  replace hp := hp.ext hn4.ext
  replace hc := hc.ext hn4.ext
  replace hb := hb.ext hn4.ext
  replace hp2 := hp2.ext hn4.ext
  replace hc2 := hc2.ext hn4.ext
  replace hb2 := hb2.ext hn4.ext
  replace hU := hU.trans (Ext.upd hn4.ext)
  replace hB1 := hB1.ext hn4.ext
  replace hB2 := hB2.ext hn4.ext
  replace hB3 := hB3.ext hn4.ext
  have hB4 := hn4.blk
  refine L_op rfl (X_fn (vs := [(.slice (some ⟨b4, 0, none⟩) 2 2)]) en8 rfl (CT.mono (c_great _ [⟨pv, cv, bv, ps, cs, bs, off⟩, ⟨pv2, cv2, bv2, ps2, cs2, bs2, off2⟩] _ (hB4.rd (o := 0) (n := 2) (c := 2) (sz := 4) (by decide) (by decide) rfl (fun j u hj => by rw [Nat.zero_add]; simpa [LD, Dk.cel] using hj)) (List.forall_mem_cons.2 ⟨⟨hp.sv, hc.sv, hb.sv⟩, (List.forall_mem_cons.2 ⟨⟨hp2.sv, hc2.sv, hb2.sv⟩, (fun _ h => by cases h)⟩)⟩)) ?_))
  rintro _ _ ⟨⟨gG, rfl, hgG⟩, rfl⟩
  rcases Bool.eq_false_or_eq_true (gG) with hc5 | hc5
  · rw [hc5]
    refine L_nil ?_
    refine T_n ?_
    refine W_ct rfl ?_
    refine W_seq ?_
    refine W_reg ?_
    refine L_op rfl (X_fn (vs := []) en10 rfl (CT.mono (c_wakes _) ?_))
    rintro vb6 w6 ⟨hvb6, hu6⟩
    have hz6 := hu6.size
    replace hp := hp.ext hu6
    replace hc := hc.ext hu6
    replace hb := hb.ext hu6
    replace hp2 := hp2.ext hu6
    replace hc2 := hc2.ext hu6
    replace hb2 := hb2.ext hu6
    replace hU := hU.trans (Ext.upd hu6)
    replace hB1 := hB1.ext hu6
    replace hB2 := hB2.ext hu6
    replace hB3 := hB3.ext hu6
    subst hvb6
    refine L_op rfl (X_assign (v := (.bool (true))) rfl ?_)
    refine L_nil ?_
    refine T_n ?_
    refine W_ret ?_
    refine T_r ?_
    exact BQ_r (End_1 Try.results6 (v := .bool true) rfl ⟨rfl, hU.own hn0⟩)
  · rw [hc5]
    refine L_nil ?_
    refine T_n ?_
    refine W_cf rfl ?_
    refine W_skip ?_
    refine T_n ?_
    refine W_seq ?_
    have hgd := hgG hc5
    have hg1 := hgd _ (List.mem_cons_self)
    replace hg1 : ps.length ≤ 300 ∧ cs.length ≤ 60 ∧ bs.length ≤ 300 := hg1
    obtain ⟨pr, er, hre⟩ : ∃ (a : Pg) (b : Int), readE ps cs bs off n = (a, b) := ⟨_, _, rfl⟩
    refine W_reg ?_
    refine L_op rfl (X_move (v := (.int .i64 (m))) rfl ?_)
    obtain ⟨s_a, hs_a⟩ : ∃ n, n = w4.heap.size := ⟨_, rfl⟩
    refine L_op rfl (X_fn (vs := [(.int .i64 (m))]) en19 rfl (CT.mono (c_new m _) ?_))
    rintro vNa w7 ⟨hAa, hBba, hu7⟩
    have hz7 := hu7.size
    replace hp := hp.ext hu7
    replace hc := hc.ext hu7
    replace hb := hb.ext hu7
    replace hp2 := hp2.ext hu7
    replace hc2 := hc2.ext hu7
    replace hb2 := hb2.ext hu7
    replace hU := hU.trans (Ext.upd hu7)
    replace hB1 := hB1.ext hu7
    replace hB2 := hB2.ext hu7
    replace hB3 := hB3.ext hu7
    obtain ⟨p_a, rfl, hPa⟩ := new_u hAa hBba
    obtain ⟨u_a, hu_a⟩ : ∃ n, n = w7.heap.size := ⟨_, rfl⟩
    rw [← hs_a, ← hu_a] at hPa
    refine L_op rfl (X_move (v := (.tuple #[(.agg #[p_a, (.slice none 0 0), (.slice none 0 0), (.bool (false))]), (.int .i64 ((newE m)))])) rfl ?_)
    refine L_op rfl (X_extract (l := [(.agg #[p_a, (.slice none 0 0), (.slice none 0 0), (.bool (false))]), (.int .i64 ((newE m)))]) (v := (.agg #[p_a, (.slice none 0 0), (.slice none 0 0), (.bool (false))])) rfl rfl ?_)
    refine L_op rfl (X_extract (l := [(.agg #[p_a, (.slice none 0 0), (.slice none 0 0), (.bool (false))]), (.int .i64 ((newE m)))]) (v := (.int .i64 ((newE m)))) rfl rfl ?_)
    refine L_op rfl (X_alloc (z := (.agg #[(.slice none 0 0), (.slice none 0 0), (.slice none 0 0), (.bool (false))])) (c := #[(.slice none 0 0), (.slice none 0 0), (.slice none 0 0), (.bool (false))]) Zv26 rfl ?_)
    intro b8 w8 hn8
    have hbn8 := hn8.num; have hbs8 := hn8.size
    replace hp := hp.ext hn8.ext
    replace hc := hc.ext hn8.ext
    replace hb := hb.ext hn8.ext
    replace hp2 := hp2.ext hn8.ext
    replace hc2 := hc2.ext hn8.ext
    replace hb2 := hb2.ext hn8.ext
    replace hU := hU.trans (Ext.upd hn8.ext)
    replace hB1 := hB1.ext hn8.ext
    replace hB2 := hB2.ext hn8.ext
    replace hB3 := hB3.ext hn8.ext
    replace hPa := hPa.ext hn8.ext
    have hB8 := hn8.blk
    refine L_op0 (X_storeW (b := b8) (ys := [p_a, (.slice none 0 0), (.slice none 0 0), (.bool (false))]) A26 rfl rfl (List.forall_mem_cons.2 ⟨(hPa.1.sv.one), (List.forall_mem_cons.2 ⟨rfl, (List.forall_mem_cons.2 ⟨rfl, (List.forall_mem_cons.2 ⟨rfl, (fun _ h => by cases h)⟩)⟩)⟩)⟩) rfl hB8 rfl ?_)
    intro w9 hu9 hb9
    have hz9 := hu9.size
    replace hp := hp.upd hu9 fun i h1 h2 h => by have h : i = b8 := h; omega
    replace hc := hc.upd hu9 fun i h1 h2 h => by have h : i = b8 := h; omega
    replace hb := hb.upd hu9 fun i h1 h2 h => by have h : i = b8 := h; omega
    replace hp2 := hp2.upd hu9 fun i h1 h2 h => by have h : i = b8 := h; omega
    replace hc2 := hc2.upd hu9 fun i h1 h2 h => by have h : i = b8 := h; omega
    replace hb2 := hb2.upd hu9 fun i h1 h2 h => by have h : i = b8 := h; omega
    replace hU := hU.trans (hu9.mono fun i _ h => by have h : i = b8 := h; show n0 ≤ i; omega)
    replace hB1 := hB1.upd hu9 fun h => by have h : b1 = b8 := h; omega
    replace hB2 := hB2.upd hu9 fun h => by have h : b2 = b8 := h; omega
    replace hB3 := hB3.upd hu9 fun h => by have h : b3 = b8 := h; omega
    replace hPa := hPa.upd hu9 fun i h1 h2 h => by have h : i = b8 := h; omega
    replace hB8 : Blk w9 b8 #[p_a, (.slice none 0 0), (.slice none 0 0), (.bool (false))] 26 := hb9
    refine L_op rfl (X_assign (v := (.int .i64 ((newE m)))) rfl ?_)
    refine L_nil ?_
    refine T_n ?_
    refine W_seq ?_
    refine W_reg ?_
    refine L_op rfl (X_move (v := (.int .i64 (m))) rfl ?_)
    obtain ⟨s_b, hs_b⟩ : ∃ n, n = w9.heap.size := ⟨_, rfl⟩
    refine L_op rfl (X_fn (vs := [(.int .i64 (m))]) en20 rfl (CT.mono (c_newR m _) ?_))
    rintro vNb w10 ⟨hAb, hBbb, hu10⟩
    have hz10 := hu10.size
    replace hp := hp.ext hu10
    replace hc := hc.ext hu10
    replace hb := hb.ext hu10
    replace hp2 := hp2.ext hu10
    replace hc2 := hc2.ext hu10
    replace hb2 := hb2.ext hu10
    replace hU := hU.trans (Ext.upd hu10)
    replace hB1 := hB1.ext hu10
    replace hB2 := hB2.ext hu10
    replace hB3 := hB3.ext hu10
    replace hPa := hPa.ext hu10
    replace hB8 := hB8.ext hu10
    obtain ⟨p_b, rfl, hPb⟩ := new_u hAb hBbb
    obtain ⟨u_b, hu_b⟩ : ∃ n, n = w10.heap.size := ⟨_, rfl⟩
    rw [← hs_b, ← hu_b] at hPb
    refine L_op rfl (X_move (v := (.tuple #[(.agg #[p_b, (.slice none 0 0), (.slice none 0 0), (.bool (false))]), (.int .i64 ((newE m)))])) rfl ?_)
    refine L_op rfl (X_extract (l := [(.agg #[p_b, (.slice none 0 0), (.slice none 0 0), (.bool (false))]), (.int .i64 ((newE m)))]) (v := (.agg #[p_b, (.slice none 0 0), (.slice none 0 0), (.bool (false))])) rfl rfl ?_)
    refine L_op rfl (X_extract (l := [(.agg #[p_b, (.slice none 0 0), (.slice none 0 0), (.bool (false))]), (.int .i64 ((newE m)))]) (v := (.int .i64 ((newE m)))) rfl rfl ?_)
    refine L_op rfl (X_alloc (z := (.agg #[(.slice none 0 0), (.slice none 0 0), (.slice none 0 0), (.bool (false))])) (c := #[(.slice none 0 0), (.slice none 0 0), (.slice none 0 0), (.bool (false))]) Zv26 rfl ?_)
    intro b11 w11 hn11
    have hbn11 := hn11.num; have hbs11 := hn11.size
    replace hp := hp.ext hn11.ext
    replace hc := hc.ext hn11.ext
    replace hb := hb.ext hn11.ext
    replace hp2 := hp2.ext hn11.ext
    replace hc2 := hc2.ext hn11.ext
    replace hb2 := hb2.ext hn11.ext
    replace hU := hU.trans (Ext.upd hn11.ext)
    replace hB1 := hB1.ext hn11.ext
    replace hB2 := hB2.ext hn11.ext
    replace hB3 := hB3.ext hn11.ext
    replace hPa := hPa.ext hn11.ext
    replace hB8 := hB8.ext hn11.ext
    replace hPb := hPb.ext hn11.ext
    have hB11 := hn11.blk
    refine L_op0 (X_storeW (b := b11) (ys := [p_b, (.slice none 0 0), (.slice none 0 0), (.bool (false))]) A26 rfl rfl (List.forall_mem_cons.2 ⟨(hPb.1.sv.one), (List.forall_mem_cons.2 ⟨rfl, (List.forall_mem_cons.2 ⟨rfl, (List.forall_mem_cons.2 ⟨rfl, (fun _ h => by cases h)⟩)⟩)⟩)⟩) rfl hB11 rfl ?_)
    intro w12 hu12 hb12
    have hz12 := hu12.size
    replace hp := hp.upd hu12 fun i h1 h2 h => by have h : i = b11 := h; omega
    replace hc := hc.upd hu12 fun i h1 h2 h => by have h : i = b11 := h; omega
    replace hb := hb.upd hu12 fun i h1 h2 h => by have h : i = b11 := h; omega
    replace hp2 := hp2.upd hu12 fun i h1 h2 h => by have h : i = b11 := h; omega
    replace hc2 := hc2.upd hu12 fun i h1 h2 h => by have h : i = b11 := h; omega
    replace hb2 := hb2.upd hu12 fun i h1 h2 h => by have h : i = b11 := h; omega
    replace hU := hU.trans (hu12.mono fun i _ h => by have h : i = b11 := h; show n0 ≤ i; omega)
    replace hB1 := hB1.upd hu12 fun h => by have h : b1 = b11 := h; omega
    replace hB2 := hB2.upd hu12 fun h => by have h : b2 = b11 := h; omega
    replace hB3 := hB3.upd hu12 fun h => by have h : b3 = b11 := h; omega
    replace hPa := hPa.upd hu12 fun i h1 h2 h => by have h : i = b11 := h; omega
    replace hB8 := hB8.upd hu12 fun h => by have h : b8 = b11 := h; omega
    replace hPb := hPb.upd hu12 fun i h1 h2 h => by have h : i = b11 := h; omega
    replace hB11 : Blk w12 b11 #[p_b, (.slice none 0 0), (.slice none 0 0), (.bool (false))] 26 := hb12
    refine L_op rfl (X_assign (v := (.int .i64 ((newE m)))) rfl ?_)
    refine L_nil ?_
    refine T_n ?_
    refine W_seq ?_
    refine W_reg ?_
    refine L_op rfl (X_loadA (p := (ptr b1 (0))) (xs := [pv, cv, bv, (.bool (off))]) A26 rfl hB1.atAll rfl ?_)
    refine L_op rfl (X_move (v := (.int .i64 (n))) rfl ?_)
    refine L_op rfl (X_fn (vs := [(.agg ([pv, cv, bv, (.bool (off))]).toArray), (.int .i64 (n))]) en11 rfl (CT.mono (c_read pv cv bv ps cs bs off n _ 0 n0 (by omega) hp hc hb) ?_))
    rintro _ w13 ⟨rfl, hu13⟩
    have hz13 := hu13.size
    replace hp := hp.ext hu13
    replace hc := hc.ext hu13
    replace hb := hb.ext hu13
    replace hp2 := hp2.ext hu13
    replace hc2 := hc2.ext hu13
    replace hb2 := hb2.ext hu13
    replace hU := hU.trans (Ext.upd hu13)
    replace hB1 := hB1.ext hu13
    replace hB2 := hB2.ext hu13
    replace hB3 := hB3.ext hu13
    replace hPa := hPa.ext hu13
    replace hB8 := hB8.ext hu13
    replace hPb := hPb.ext hu13
    replace hB11 := hB11.ext hu13
    rw [hre]
    refine L_op rfl (X_move (v := (.tuple #[(pageV pr), (.int .i64 (er))])) rfl ?_)
    refine L_op rfl (X_extract (l := [(pageV pr), (.int .i64 (er))]) (v := (pageV pr)) rfl rfl ?_)
    refine L_op rfl (X_extract (l := [(pageV pr), (.int .i64 (er))]) (v := (.int .i64 (er))) rfl rfl ?_)
    refine L_op rfl (X_alloc (z := zv28) (c := zc28.toArray) Zv28 rfl ?_)
    intro b14 w14 hn14
    have hbn14 := hn14.num; have hbs14 := hn14.size
    replace hp := hp.ext hn14.ext
    replace hc := hc.ext hn14.ext
    replace hb := hb.ext hn14.ext
    replace hp2 := hp2.ext hn14.ext
    replace hc2 := hc2.ext hn14.ext
    replace hb2 := hb2.ext hn14.ext
    replace hU := hU.trans (Ext.upd hn14.ext)
    replace hB1 := hB1.ext hn14.ext
    replace hB2 := hB2.ext hn14.ext
    replace hB3 := hB3.ext hn14.ext
    replace hPa := hPa.ext hn14.ext
    replace hB8 := hB8.ext hn14.ext
    replace hPb := hPb.ext hn14.ext
    replace hB11 := hB11.ext hn14.ext
    have hB14 := hn14.blk
    rw [zc28_eq] at hB14
    refine L_op0 (X_storeW (b := b14) (ys := ((pr.1).map byteV)) A28 rfl rfl (byteV_one _) (by rw [List.length_map]; exact pr.2) hB14 (by rw [List.size_toArray]; exact (by rw [List.length_map]; exact List.length_replicate)) ?_)
    intro w15 hu15 hb15
    have hz15 := hu15.size
    replace hp := hp.upd hu15 fun i h1 h2 h => by have h : i = b14 := h; omega
    replace hc := hc.upd hu15 fun i h1 h2 h => by have h : i = b14 := h; omega
    replace hb := hb.upd hu15 fun i h1 h2 h => by have h : i = b14 := h; omega
    replace hp2 := hp2.upd hu15 fun i h1 h2 h => by have h : i = b14 := h; omega
    replace hc2 := hc2.upd hu15 fun i h1 h2 h => by have h : i = b14 := h; omega
    replace hb2 := hb2.upd hu15 fun i h1 h2 h => by have h : i = b14 := h; omega
    replace hU := hU.trans (hu15.mono fun i _ h => by have h : i = b14 := h; show n0 ≤ i; omega)
    replace hB1 := hB1.upd hu15 fun h => by have h : b1 = b14 := h; omega
    replace hB2 := hB2.upd hu15 fun h => by have h : b2 = b14 := h; omega
    replace hB3 := hB3.upd hu15 fun h => by have h : b3 = b14 := h; omega
    replace hPa := hPa.upd hu15 fun i h1 h2 h => by have h : i = b14 := h; omega
    replace hB8 := hB8.upd hu15 fun h => by have h : b8 = b14 := h; omega
    replace hPb := hPb.upd hu15 fun i h1 h2 h => by have h : i = b14 := h; omega
    replace hB11 := hB11.upd hu15 fun h => by have h : b11 = b14 := h; omega
    replace hB14 := hb15
    refine L_op rfl (X_assign (v := (.int .i64 (er))) rfl ?_)
    refine L_nil ?_
    refine T_n ?_
    refine W_seq ?_
    refine W_reg ?_
    refine L_op rfl (X_loadA (p := (ptr b1 (0))) (xs := [pv, cv, bv, (.bool (off))]) A26 rfl hB1.atAll rfl ?_)
    refine L_op rfl (X_move (v := (.int .i64 (n))) rfl ?_)
    refine L_op rfl (X_fn (vs := [(.agg ([pv, cv, bv, (.bool (off))]).toArray), (.int .i64 (n))]) en21 rfl (CT.mono (c_readR pv cv bv ps cs bs off n _ 0 n0 (by omega) hp hc hb) ?_))
    rintro _ w16 ⟨rfl, hu16⟩
    have hz16 := hu16.size
    replace hp := hp.ext hu16
    replace hc := hc.ext hu16
    replace hb := hb.ext hu16
    replace hp2 := hp2.ext hu16
    replace hc2 := hc2.ext hu16
    replace hb2 := hb2.ext hu16
    replace hU := hU.trans (Ext.upd hu16)
    replace hB1 := hB1.ext hu16
    replace hB2 := hB2.ext hu16
    replace hB3 := hB3.ext hu16
    replace hPa := hPa.ext hu16
    replace hB8 := hB8.ext hu16
    replace hPb := hPb.ext hu16
    replace hB11 := hB11.ext hu16
    replace hB14 := hB14.ext hu16
    rw [hre]
    refine L_op rfl (X_move (v := (.tuple #[(pageV pr), (.int .i64 (er))])) rfl ?_)
    refine L_op rfl (X_extract (l := [(pageV pr), (.int .i64 (er))]) (v := (pageV pr)) rfl rfl ?_)
    refine L_op rfl (X_extract (l := [(pageV pr), (.int .i64 (er))]) (v := (.int .i64 (er))) rfl rfl ?_)
    refine L_op rfl (X_alloc (z := zv28) (c := zc28.toArray) Zv28 rfl ?_)
    intro b17 w17 hn17
    have hbn17 := hn17.num; have hbs17 := hn17.size
    replace hp := hp.ext hn17.ext
    replace hc := hc.ext hn17.ext
    replace hb := hb.ext hn17.ext
    replace hp2 := hp2.ext hn17.ext
    replace hc2 := hc2.ext hn17.ext
    replace hb2 := hb2.ext hn17.ext
    replace hU := hU.trans (Ext.upd hn17.ext)
    replace hB1 := hB1.ext hn17.ext
    replace hB2 := hB2.ext hn17.ext
    replace hB3 := hB3.ext hn17.ext
    replace hPa := hPa.ext hn17.ext
    replace hB8 := hB8.ext hn17.ext
    replace hPb := hPb.ext hn17.ext
    replace hB11 := hB11.ext hn17.ext
    replace hB14 := hB14.ext hn17.ext
    have hB17 := hn17.blk
    rw [zc28_eq] at hB17
    refine L_op0 (X_storeW (b := b17) (ys := ((pr.1).map byteV)) A28 rfl rfl (byteV_one _) (by rw [List.length_map]; exact pr.2) hB17 (by rw [List.size_toArray]; exact (by rw [List.length_map]; exact List.length_replicate)) ?_)
    intro w18 hu18 hb18
    have hz18 := hu18.size
    replace hp := hp.upd hu18 fun i h1 h2 h => by have h : i = b17 := h; omega
    replace hc := hc.upd hu18 fun i h1 h2 h => by have h : i = b17 := h; omega
    replace hb := hb.upd hu18 fun i h1 h2 h => by have h : i = b17 := h; omega
    replace hp2 := hp2.upd hu18 fun i h1 h2 h => by have h : i = b17 := h; omega
    replace hc2 := hc2.upd hu18 fun i h1 h2 h => by have h : i = b17 := h; omega
    replace hb2 := hb2.upd hu18 fun i h1 h2 h => by have h : i = b17 := h; omega
    replace hU := hU.trans (hu18.mono fun i _ h => by have h : i = b17 := h; show n0 ≤ i; omega)
    replace hB1 := hB1.upd hu18 fun h => by have h : b1 = b17 := h; omega
    replace hB2 := hB2.upd hu18 fun h => by have h : b2 = b17 := h; omega
    replace hB3 := hB3.upd hu18 fun h => by have h : b3 = b17 := h; omega
    replace hPa := hPa.upd hu18 fun i h1 h2 h => by have h : i = b17 := h; omega
    replace hB8 := hB8.upd hu18 fun h => by have h : b8 = b17 := h; omega
    replace hPb := hPb.upd hu18 fun i h1 h2 h => by have h : i = b17 := h; omega
    replace hB11 := hB11.upd hu18 fun h => by have h : b11 = b17 := h; omega
    replace hB14 := hB14.upd hu18 fun h => by have h : b14 = b17 := h; omega
    replace hB17 := hb18
    refine L_op rfl (X_assign (v := (.int .i64 (er))) rfl ?_)
    refine L_nil ?_
    refine T_n ?_
    refine W_seq ?_
    refine W_seq ?_
    obtain ⟨gM, hgM⟩ := bool_of (MayD ps.length cs bs off)
    obtain ⟨gS, hgS⟩ := bool_of (ps = ps2 ∧ cs = cs2 ∧ bs = bs2 ∧ off = off2)
    obtain ⟨s7, hs7⟩ : ∃ n, n = w18.heap.size := ⟨_, rfl⟩
    refine W_draw 39 [[], [], [0, 1], [0, 1, 2], [0, 1, 2, 3], [0, 1, 2, 3, 4], [0, 1, 2, 3, 4], [0, 1, 2, 3, 4, 5, 6], [0, 1, 2, 3, 4, 5, 6, 7], [0, 1, 2, 3, 4, 5, 6, 7, 8], [0, 1, 2, 3, 4, 5, 6, 7, 8, 9], [0, 1, 2, 3, 4, 5, 6, 7, 8, 9], [0, 1, 2, 3, 4, 5, 6, 7, 8, 9, 10, 11], [0, 1, 2, 3, 4, 5, 6, 7, 8, 9, 10, 11, 12], [0, 1, 2, 3, 4, 5, 6, 7, 8, 9, 10, 11, 12, 13], [0, 1, 2, 3, 4, 5, 6, 7, 8, 9, 10, 11, 12, 13, 14], [0, 1, 2, 3, 4, 5, 6, 7, 8, 9, 10, 11, 12, 13, 14], [0, 1, 2, 3, 4, 5, 6, 7, 8, 9, 10, 11, 12, 13, 14, 15, 16], [0, 1, 2, 3, 4, 5, 6, 7, 8, 9, 10, 11, 12, 13, 14, 15, 16, 17], [0, 1, 2, 3, 4, 5, 6, 7, 8, 9, 10, 11, 12, 13, 14, 15, 16, 17, 18], [0, 1, 2, 3, 4, 5, 6, 7, 8, 9, 10, 11, 12, 13, 14, 15, 16, 17, 18, 19], [0, 1, 2, 3, 4, 5, 6, 7, 8, 9, 10, 11, 12, 13, 14, 15, 16, 17, 18, 19, 20], [0, 1, 2, 3, 4, 5, 6, 7, 8, 9, 10, 11, 12, 13, 14, 15, 16, 17, 18, 19], [0, 1, 2, 3, 4, 5, 6, 7, 8, 9, 10, 11, 12, 13, 14, 15, 16, 17, 18, 19, 20, 21, 22], [0, 1, 2, 3, 4, 5, 6, 7, 8, 9, 10, 11, 12, 13, 14, 15, 16, 17, 18, 19, 20, 21, 22, 23], [0, 1, 2, 3, 4, 5, 6, 7, 8, 9, 10, 11, 12, 13, 14, 15, 16, 17, 18, 19, 20, 21, 22, 23, 24], [0, 1, 2, 3, 4, 5, 6, 7, 8, 9, 10, 11, 12, 13, 14, 15, 16, 17, 18, 19, 20, 21, 22, 23, 24, 25], [0, 1, 2, 3, 4, 5, 6, 7, 8, 9, 10, 11, 12, 13, 14, 15, 16, 17, 18, 19, 20, 21, 22, 23, 24, 25, 26], [0, 1, 2, 3, 4, 5, 6, 7, 8, 9, 10, 11, 12, 13, 14, 15, 16, 17, 18, 19, 20, 21, 22, 23, 24, 25, 26], [0, 1, 2, 3, 4, 5, 6, 7, 8, 9, 10, 11, 12, 13, 14, 15, 16, 17, 18, 19, 20, 21, 22, 23, 24, 25, 26, 27, 28], [0, 1, 2, 3, 4, 5, 6, 7, 8, 9, 10, 11, 12, 13, 14, 15, 16, 17, 18, 19, 20, 21, 22, 23, 24, 25, 26], [0, 1, 2, 3, 4, 5, 6, 7, 8, 9, 10, 11, 12, 13, 14, 15, 16, 17, 18, 19, 20, 21, 22, 23, 24, 25, 26], [0, 1, 2, 3, 4, 5, 6, 7, 8, 9, 10, 11, 12, 13, 14, 15, 16, 17, 18, 19, 20, 21, 22, 23, 24, 25, 26, 27, 28, 29, 30, 31], [0, 1, 2, 3, 4, 5, 6, 7, 8, 9, 10, 11, 12, 13, 14, 15, 16, 17, 18, 19, 20, 21, 22, 23, 24, 25, 26, 27, 28, 29, 30, 31, 32], [0, 1, 2, 3, 4, 5, 6, 7, 8, 9, 10, 11, 12, 13, 14, 15, 16, 17, 18, 19, 20, 21, 22, 23, 24, 25, 26, 27, 28, 29, 30, 31, 32, 33], [0, 1, 2, 3, 4, 5, 6, 7, 8, 9, 10, 11, 12, 13, 14, 15, 16, 17, 18, 19, 20, 21, 22, 23, 24, 25, 26, 27, 28, 29, 30, 31, 32, 33, 34], [0, 1, 2, 3, 4, 5, 6, 7, 8, 9, 10, 11, 12, 13, 14, 15, 16, 17, 18, 19, 20, 21, 22, 23, 24, 25, 26, 27, 28, 29, 30, 31, 32, 33, 34, 35], [0, 1, 2, 3, 4, 5, 6, 7, 8, 9, 10, 11, 12, 13, 14, 15, 16, 17, 18, 19, 20, 21, 22, 23, 24, 25, 26, 27, 28, 29, 30, 31, 32, 33, 34, 35, 36], [0, 1, 2, 3, 4, 5, 6, 7, 8, 9, 10, 11, 12, 13, 14, 15, 16, 17, 18, 19, 20, 21, 22, 23, 24, 25, 26, 27, 28, 29, 30, 31, 32, 33, 34, 35], [0, 1, 2, 3, 4, 5, 6, 7, 8, 9, 10, 11, 12, 13, 14, 15, 16, 17, 18, 19, 20, 21, 22, 23, 24, 25, 26, 27, 28, 29, 30, 31, 32, 33, 34, 35, 36, 37, 38], [0, 1, 2, 3, 4, 5, 6, 7, 8, 9, 10, 11, 12, 13, 14, 15, 16, 17, 18, 19, 20, 21, 22, 23, 24, 25, 26, 27, 28, 29, 30, 31, 32, 33, 34, 35, 36, 37, 38, 39], [0, 1, 2, 3, 4, 5, 6, 7, 8, 9, 10, 11, 12, 13, 14, 15, 16, 17, 18, 19, 20, 21, 22, 23, 24, 25, 26, 27, 28, 29, 30, 31, 32, 33, 34, 35, 36, 37, 38, 39, 40], [0, 1, 2, 3, 4, 5, 6, 7, 8, 9, 10, 11, 12, 13, 14, 15, 16, 17, 18, 19, 20, 21, 22, 23, 24, 25, 26, 27, 28, 29, 30, 31, 32, 33, 34, 35, 36, 37, 38, 39, 40, 41]] mixed (by kernel_rfl) ?_
    refine ⟨.det (fun val => (.agg ([p_a, (.slice none 0 0), (.slice none 0 0), (.bool (false))]).toArray)), ⟨fun _ _ hv => rfl, fun _ _ _ _ _ => trivial⟩, fun val h_ W hx he => ⟨trivial, ?_⟩, ?_⟩
    · replace hx := (Upd.drew _ _).trans hx
      replace hp := hp.ext hx
      replace hc := hc.ext hx
      replace hb := hb.ext hx
      replace hp2 := hp2.ext hx
      replace hc2 := hc2.ext hx
      replace hb2 := hb2.ext hx
      replace hB1 := hB1.ext hx
      replace hB2 := hB2.ext hx
      replace hB3 := hB3.ext hx
      replace hPa := hPa.ext hx
      replace hB8 := hB8.ext hx
      replace hPb := hPb.ext hx
      replace hB11 := hB11.ext hx
      replace hB14 := hB14.ext hx
      replace hB17 := hB17.ext hx
      have hE := Upd.refl (fun _ => False) W
      refine id (X_loadA (p := (ptr b8 (0))) (xs := [p_a, (.slice none 0 0), (.slice none 0 0), (.bool (false))]) A26 rfl hB8.atAll rfl ?_)
      exact ⟨hE, rfl⟩
    refine ⟨.det (fun val => (.agg ([p_b, (.slice none 0 0), (.slice none 0 0), (.bool (false))]).toArray)), ⟨fun _ _ hv => rfl, fun _ _ _ _ _ => trivial⟩, fun val h_ W hx he => ⟨trivial, ?_⟩, ?_⟩
    · replace hx := (Upd.drew _ _).trans hx
      replace hp := hp.ext hx
      replace hc := hc.ext hx
      replace hb := hb.ext hx
      replace hp2 := hp2.ext hx
      replace hc2 := hc2.ext hx
      replace hb2 := hb2.ext hx
      replace hB1 := hB1.ext hx
      replace hB2 := hB2.ext hx
      replace hB3 := hB3.ext hx
      replace hPa := hPa.ext hx
      replace hB8 := hB8.ext hx
      replace hPb := hPb.ext hx
      replace hB11 := hB11.ext hx
      replace hB14 := hB14.ext hx
      replace hB17 := hB17.ext hx
      have hE := Upd.refl (fun _ => False) W
      refine id (X_loadA (p := (ptr b11 (0))) (xs := [p_b, (.slice none 0 0), (.slice none 0 0), (.bool (false))]) A26 rfl hB11.atAll rfl ?_)
      exact ⟨hE, rfl⟩
    refine ⟨.det (fun val => (.bool (true))), ⟨fun _ _ hv => rfl, fun _ _ _ _ _ => trivial⟩, fun val h_ W hx he => ⟨trivial, ?_⟩, ?_⟩
    · replace hx := (Upd.drew _ _).trans hx
      replace hp := hp.ext hx
      replace hc := hc.ext hx
      replace hb := hb.ext hx
      replace hp2 := hp2.ext hx
      replace hc2 := hc2.ext hx
      replace hb2 := hb2.ext hx
      replace hB1 := hB1.ext hx
      replace hB2 := hB2.ext hx
      replace hB3 := hB3.ext hx
      replace hPa := hPa.ext hx
      replace hB8 := hB8.ext hx
      replace hPb := hPb.ext hx
      replace hB11 := hB11.ext hx
      replace hB14 := hB14.ext hx
      replace hB17 := hB17.ext hx
      have hE := Upd.refl (fun _ => False) W
      refine id (X_fn (vs := [(.agg ([p_a, (.slice none 0 0), (.slice none 0 0), (.bool (false))]).toArray), (.agg ([p_b, (.slice none 0 0), (.slice none 0 0), (.bool (false))]).toArray)]) en18 rfl (CT.mono (c_same p_a (.slice none 0 0) (.slice none 0 0) (newP m) [] [] false p_b (.slice none 0 0) (.slice none 0 0) (newP m) [] [] false _ s_a u_a s_b u_b hPa.rd (NRd.nil _ _ _) (NRd.nil _ _ _) hPb.rd (NRd.nil _ _ _) (NRd.nil _ _ _)) ?_))
      rintro _ w20 ⟨⟨g20, rfl, hg20⟩, hu20⟩
      have hz20 := hu20.size
      replace hp := hp.ext hu20
      replace hc := hc.ext hu20
      replace hb := hb.ext hu20
      replace hp2 := hp2.ext hu20
      replace hc2 := hc2.ext hu20
      replace hb2 := hb2.ext hu20
      replace hB1 := hB1.ext hu20
      replace hB2 := hB2.ext hu20
      replace hB3 := hB3.ext hu20
      replace hPa := hPa.ext hu20
      replace hB8 := hB8.ext hu20
      replace hPb := hPb.ext hu20
      replace hB11 := hB11.ext hu20
      replace hB14 := hB14.ext hu20
      replace hB17 := hB17.ext hu20
      replace hE := hE.trans (Ext.upd hu20)
      obtain rfl : g20 = true := hg20.2 ⟨rfl, rfl, rfl, rfl⟩
      exact ⟨hE, rfl⟩
    refine ⟨.det (fun val => (.bool (false))), ⟨fun _ _ hv => rfl, fun _ _ _ _ _ => trivial⟩, fun val h_ W hx he => ⟨trivial, ?_⟩, ?_⟩
    · replace hx := (Upd.drew _ _).trans hx
      replace hp := hp.ext hx
      replace hc := hc.ext hx
      replace hb := hb.ext hx
      replace hp2 := hp2.ext hx
      replace hc2 := hc2.ext hx
      replace hb2 := hb2.ext hx
      replace hB1 := hB1.ext hx
      replace hB2 := hB2.ext hx
      replace hB3 := hB3.ext hx
      replace hPa := hPa.ext hx
      replace hB8 := hB8.ext hx
      replace hPb := hPb.ext hx
      replace hB11 := hB11.ext hx
      replace hB14 := hB14.ext hx
      replace hB17 := hB17.ext hx
      have hE := Upd.refl (fun _ => False) W
      refine id (X_not (b := true) (r := false) rfl rfl ?_)
      exact ⟨hE, rfl⟩
    refine ⟨.det (fun val => (.bool (false))), ⟨fun _ _ hv => rfl, fun _ _ _ _ _ => trivial⟩, fun val h_ W hx he => ⟨trivial, ?_⟩, ?_⟩
    · replace hx := (Upd.drew _ _).trans hx
      replace hp := hp.ext hx
      replace hc := hc.ext hx
      replace hb := hb.ext hx
      replace hp2 := hp2.ext hx
      replace hc2 := hc2.ext hx
      replace hb2 := hb2.ext hx
      replace hB1 := hB1.ext hx
      replace hB2 := hB2.ext hx
      replace hB3 := hB3.ext hx
      replace hPa := hPa.ext hx
      replace hB8 := hB8.ext hx
      replace hPb := hPb.ext hx
      replace hB11 := hB11.ext hx
      replace hB14 := hB14.ext hx
      replace hB17 := hB17.ext hx
      have hE := Upd.refl (fun _ => False) W
      refine id (X_move (v := (.bool (false))) rfl ?_)
      exact ⟨hE, rfl⟩
    refine ⟨.det (fun val => (.int .i64 ((newE m)))), ⟨fun _ _ hv => rfl, fun _ _ _ _ _ => trivial⟩, fun val h_ W hx he => ⟨⟨54, rfl, rfl⟩, ?_⟩, ?_⟩
    · replace hx := (Upd.drew _ _).trans hx
      replace hp := hp.ext hx
      replace hc := hc.ext hx
      replace hb := hb.ext hx
      replace hp2 := hp2.ext hx
      replace hc2 := hc2.ext hx
      replace hb2 := hb2.ext hx
      replace hB1 := hB1.ext hx
      replace hB2 := hB2.ext hx
      replace hB3 := hB3.ext hx
      replace hPa := hPa.ext hx
      replace hB8 := hB8.ext hx
      replace hPb := hPb.ext hx
      replace hB11 := hB11.ext hx
      replace hB14 := hB14.ext hx
      replace hB17 := hB17.ext hx
      have hE := Upd.refl (fun _ => False) W
      refine id (X_move (v := (.int .i64 ((newE m)))) rfl ?_)
      exact ⟨hE, rfl⟩
    refine ⟨.det (fun val => (.int .i64 ((newE m)))), ⟨fun _ _ hv => rfl, fun _ _ _ _ _ => trivial⟩, fun val h_ W hx he => ⟨⟨54, rfl, rfl⟩, ?_⟩, ?_⟩
    · replace hx := (Upd.drew _ _).trans hx
      replace hp := hp.ext hx
      replace hc := hc.ext hx
      replace hb := hb.ext hx
      replace hp2 := hp2.ext hx
      replace hc2 := hc2.ext hx
      replace hb2 := hb2.ext hx
      replace hB1 := hB1.ext hx
      replace hB2 := hB2.ext hx
      replace hB3 := hB3.ext hx
      replace hPa := hPa.ext hx
      replace hB8 := hB8.ext hx
      replace hPb := hPb.ext hx
      replace hB11 := hB11.ext hx
      replace hB14 := hB14.ext hx
      replace hB17 := hB17.ext hx
      have hE := Upd.refl (fun _ => False) W
      refine id (X_move (v := (.int .i64 ((newE m)))) rfl ?_)
      exact ⟨hE, rfl⟩
    refine ⟨.det (fun val => (.bool (false))), ⟨fun _ _ hv => rfl, fun _ _ _ _ _ => trivial⟩, fun val h_ W hx he => ⟨⟨54, rfl, rfl⟩, ?_⟩, ?_⟩
    · replace hx := (Upd.drew _ _).trans hx
      replace hp := hp.ext hx
      replace hc := hc.ext hx
      replace hb := hb.ext hx
      replace hp2 := hp2.ext hx
      replace hc2 := hc2.ext hx
      replace hb2 := hb2.ext hx
      replace hB1 := hB1.ext hx
      replace hB2 := hB2.ext hx
      replace hB3 := hB3.ext hx
      replace hPa := hPa.ext hx
      replace hB8 := hB8.ext hx
      replace hPb := hPb.ext hx
      replace hB11 := hB11.ext hx
      replace hB14 := hB14.ext hx
      replace hB17 := hB17.ext hx
      have hE := Upd.refl (fun _ => False) W
      refine id (X_cmp (k := .i64) (a := (newE m)) (b := (newE m)) (r := false) rfl rfl rfl (decide_eq_false (p := (((newE m)) : Int) ≠ (((newE m)) : Int)) (by omega)) ?_)
      exact ⟨hE, rfl⟩
    refine ⟨.det (fun val => (.bool (false))), ⟨fun _ _ hv => rfl, fun _ _ _ _ _ => trivial⟩, fun val h_ W hx he => ⟨trivial, ?_⟩, ?_⟩
    · replace hx := (Upd.drew _ _).trans hx
      replace hp := hp.ext hx
      replace hc := hc.ext hx
      replace hb := hb.ext hx
      replace hp2 := hp2.ext hx
      replace hc2 := hc2.ext hx
      replace hb2 := hb2.ext hx
      replace hB1 := hB1.ext hx
      replace hB2 := hB2.ext hx
      replace hB3 := hB3.ext hx
      replace hPa := hPa.ext hx
      replace hB8 := hB8.ext hx
      replace hPb := hPb.ext hx
      replace hB11 := hB11.ext hx
      replace hB14 := hB14.ext hx
      replace hB17 := hB17.ext hx
      have hE := Upd.refl (fun _ => False) W
      refine id (X_pick (t := false) (v := (.bool (false))) rfl rfl ?_)
      exact ⟨hE, rfl⟩
    refine ⟨.det (fun val => (.bool (false))), ⟨fun _ _ hv => rfl, fun _ _ _ _ _ => trivial⟩, fun val h_ W hx he => ⟨trivial, ?_⟩, ?_⟩
    · replace hx := (Upd.drew _ _).trans hx
      replace hp := hp.ext hx
      replace hc := hc.ext hx
      replace hb := hb.ext hx
      replace hp2 := hp2.ext hx
      replace hc2 := hc2.ext hx
      replace hb2 := hb2.ext hx
      replace hB1 := hB1.ext hx
      replace hB2 := hB2.ext hx
      replace hB3 := hB3.ext hx
      replace hPa := hPa.ext hx
      replace hB8 := hB8.ext hx
      replace hPb := hPb.ext hx
      replace hB11 := hB11.ext hx
      replace hB14 := hB14.ext hx
      replace hB17 := hB17.ext hx
      have hE := Upd.refl (fun _ => False) W
      refine id (X_move (v := (.bool (false))) rfl ?_)
      exact ⟨hE, rfl⟩
    refine ⟨.det (fun val => (.agg (((pr.1).map byteV)).toArray)), ⟨fun _ _ hv => rfl, fun _ _ _ _ _ => trivial⟩, fun val h_ W hx he => ⟨⟨59, rfl, rfl⟩, ?_⟩, ?_⟩
    · replace hx := (Upd.drew _ _).trans hx
      replace hp := hp.ext hx
      replace hc := hc.ext hx
      replace hb := hb.ext hx
      replace hp2 := hp2.ext hx
      replace hc2 := hc2.ext hx
      replace hb2 := hb2.ext hx
      replace hB1 := hB1.ext hx
      replace hB2 := hB2.ext hx
      replace hB3 := hB3.ext hx
      replace hPa := hPa.ext hx
      replace hB8 := hB8.ext hx
      replace hPb := hPb.ext hx
      replace hB11 := hB11.ext hx
      replace hB14 := hB14.ext hx
      replace hB17 := hB17.ext hx
      have hE := Upd.refl (fun _ => False) W
      refine id (X_loadA (p := (ptr b14 (0))) (xs := ((pr.1).map byteV)) A28 rfl hB14.atAll (by rw [List.length_map]; exact pr.2) ?_)
      exact ⟨hE, rfl⟩
    refine ⟨.det (fun val => (.agg (((pr.1).map byteV)).toArray)), ⟨fun _ _ hv => rfl, fun _ _ _ _ _ => trivial⟩, fun val h_ W hx he => ⟨⟨59, rfl, rfl⟩, ?_⟩, ?_⟩
    · replace hx := (Upd.drew _ _).trans hx
      replace hp := hp.ext hx
      replace hc := hc.ext hx
      replace hb := hb.ext hx
      replace hp2 := hp2.ext hx
      replace hc2 := hc2.ext hx
      replace hb2 := hb2.ext hx
      replace hB1 := hB1.ext hx
      replace hB2 := hB2.ext hx
      replace hB3 := hB3.ext hx
      replace hPa := hPa.ext hx
      replace hB8 := hB8.ext hx
      replace hPb := hPb.ext hx
      replace hB11 := hB11.ext hx
      replace hB14 := hB14.ext hx
      replace hB17 := hB17.ext hx
      have hE := Upd.refl (fun _ => False) W
      refine id (X_loadA (p := (ptr b17 (0))) (xs := ((pr.1).map byteV)) A28 rfl hB17.atAll (by rw [List.length_map]; exact pr.2) ?_)
      exact ⟨hE, rfl⟩
    refine ⟨.det (fun val => (.bool (false))), ⟨fun _ _ hv => rfl, fun _ _ _ _ _ => trivial⟩, fun val h_ W hx he => ⟨⟨59, rfl, rfl⟩, ?_⟩, ?_⟩
    · replace hx := (Upd.drew _ _).trans hx
      replace hp := hp.ext hx
      replace hc := hc.ext hx
      replace hb := hb.ext hx
      replace hp2 := hp2.ext hx
      replace hc2 := hc2.ext hx
      replace hb2 := hb2.ext hx
      replace hB1 := hB1.ext hx
      replace hB2 := hB2.ext hx
      replace hB3 := hB3.ext hx
      replace hPa := hPa.ext hx
      replace hB8 := hB8.ext hx
      replace hPb := hPb.ext hx
      replace hB11 := hB11.ext hx
      replace hB14 := hB14.ext hx
      replace hB17 := hB17.ext hx
      have hE := Upd.refl (fun _ => False) W
      refine id (X_eqA (n := 256) (l := pr.1) (m := pr.1) (r := false) Try.underlying28 Try.underlying5 (by kernel_rfl) (by kernel_rfl) (by kernel_rfl) rfl rfl (pr.2) (pr.2) (.inr ⟨rfl, (by rw [beq_self_eq_true]; rfl)⟩) ?_)
      exact ⟨hE, rfl⟩
    refine ⟨.det (fun val => (.bool (false))), ⟨fun _ _ hv => rfl, fun _ _ _ _ _ => trivial⟩, fun val h_ W hx he => ⟨trivial, ?_⟩, ?_⟩
    · replace hx := (Upd.drew _ _).trans hx
      replace hp := hp.ext hx
      replace hc := hc.ext hx
      replace hb := hb.ext hx
      replace hp2 := hp2.ext hx
      replace hc2 := hc2.ext hx
      replace hb2 := hb2.ext hx
      replace hB1 := hB1.ext hx
      replace hB2 := hB2.ext hx
      replace hB3 := hB3.ext hx
      replace hPa := hPa.ext hx
      replace hB8 := hB8.ext hx
      replace hPb := hPb.ext hx
      replace hB11 := hB11.ext hx
      replace hB14 := hB14.ext hx
      replace hB17 := hB17.ext hx
      have hE := Upd.refl (fun _ => False) W
      refine id (X_pick (t := false) (v := (.bool (false))) rfl rfl ?_)
      exact ⟨hE, rfl⟩
    refine ⟨.det (fun val => (.bool (false))), ⟨fun _ _ hv => rfl, fun _ _ _ _ _ => trivial⟩, fun val h_ W hx he => ⟨trivial, ?_⟩, ?_⟩
    · replace hx := (Upd.drew _ _).trans hx
      replace hp := hp.ext hx
      replace hc := hc.ext hx
      replace hb := hb.ext hx
      replace hp2 := hp2.ext hx
      replace hc2 := hc2.ext hx
      replace hb2 := hb2.ext hx
      replace hB1 := hB1.ext hx
      replace hB2 := hB2.ext hx
      replace hB3 := hB3.ext hx
      replace hPa := hPa.ext hx
      replace hB8 := hB8.ext hx
      replace hPb := hPb.ext hx
      replace hB11 := hB11.ext hx
      replace hB14 := hB14.ext hx
      replace hB17 := hB17.ext hx
      have hE := Upd.refl (fun _ => False) W
      refine id (X_move (v := (.bool (false))) rfl ?_)
      exact ⟨hE, rfl⟩
    refine ⟨.det (fun val => (.int .i64 (er))), ⟨fun _ _ hv => rfl, fun _ _ _ _ _ => trivial⟩, fun val h_ W hx he => ⟨⟨64, rfl, rfl⟩, ?_⟩, ?_⟩
    · replace hx := (Upd.drew _ _).trans hx
      replace hp := hp.ext hx
      replace hc := hc.ext hx
      replace hb := hb.ext hx
      replace hp2 := hp2.ext hx
      replace hc2 := hc2.ext hx
      replace hb2 := hb2.ext hx
      replace hB1 := hB1.ext hx
      replace hB2 := hB2.ext hx
      replace hB3 := hB3.ext hx
      replace hPa := hPa.ext hx
      replace hB8 := hB8.ext hx
      replace hPb := hPb.ext hx
      replace hB11 := hB11.ext hx
      replace hB14 := hB14.ext hx
      replace hB17 := hB17.ext hx
      have hE := Upd.refl (fun _ => False) W
      refine id (X_move (v := (.int .i64 (er))) rfl ?_)
      exact ⟨hE, rfl⟩
    refine ⟨.det (fun val => (.int .i64 (er))), ⟨fun _ _ hv => rfl, fun _ _ _ _ _ => trivial⟩, fun val h_ W hx he => ⟨⟨64, rfl, rfl⟩, ?_⟩, ?_⟩
    · replace hx := (Upd.drew _ _).trans hx
      replace hp := hp.ext hx
      replace hc := hc.ext hx
      replace hb := hb.ext hx
      replace hp2 := hp2.ext hx
      replace hc2 := hc2.ext hx
      replace hb2 := hb2.ext hx
      replace hB1 := hB1.ext hx
      replace hB2 := hB2.ext hx
      replace hB3 := hB3.ext hx
      replace hPa := hPa.ext hx
      replace hB8 := hB8.ext hx
      replace hPb := hPb.ext hx
      replace hB11 := hB11.ext hx
      replace hB14 := hB14.ext hx
      replace hB17 := hB17.ext hx
      have hE := Upd.refl (fun _ => False) W
      refine id (X_move (v := (.int .i64 (er))) rfl ?_)
      exact ⟨hE, rfl⟩
    refine ⟨.det (fun val => (.bool (false))), ⟨fun _ _ hv => rfl, fun _ _ _ _ _ => trivial⟩, fun val h_ W hx he => ⟨⟨64, rfl, rfl⟩, ?_⟩, ?_⟩
    · replace hx := (Upd.drew _ _).trans hx
      replace hp := hp.ext hx
      replace hc := hc.ext hx
      replace hb := hb.ext hx
      replace hp2 := hp2.ext hx
      replace hc2 := hc2.ext hx
      replace hb2 := hb2.ext hx
      replace hB1 := hB1.ext hx
      replace hB2 := hB2.ext hx
      replace hB3 := hB3.ext hx
      replace hPa := hPa.ext hx
      replace hB8 := hB8.ext hx
      replace hPb := hPb.ext hx
      replace hB11 := hB11.ext hx
      replace hB14 := hB14.ext hx
      replace hB17 := hB17.ext hx
      have hE := Upd.refl (fun _ => False) W
      refine id (X_cmp (k := .i64) (a := er) (b := er) (r := false) rfl rfl rfl (decide_eq_false (p := ((er) : Int) ≠ ((er) : Int)) (by omega)) ?_)
      exact ⟨hE, rfl⟩
    refine ⟨.det (fun val => (.bool (false))), ⟨fun _ _ hv => rfl, fun _ _ _ _ _ => trivial⟩, fun val h_ W hx he => ⟨trivial, ?_⟩, ?_⟩
    · replace hx := (Upd.drew _ _).trans hx
      replace hp := hp.ext hx
      replace hc := hc.ext hx
      replace hb := hb.ext hx
      replace hp2 := hp2.ext hx
      replace hc2 := hc2.ext hx
      replace hb2 := hb2.ext hx
      replace hB1 := hB1.ext hx
      replace hB2 := hB2.ext hx
      replace hB3 := hB3.ext hx
      replace hPa := hPa.ext hx
      replace hB8 := hB8.ext hx
      replace hPb := hPb.ext hx
      replace hB11 := hB11.ext hx
      replace hB14 := hB14.ext hx
      replace hB17 := hB17.ext hx
      have hE := Upd.refl (fun _ => False) W
      refine id (X_pick (t := false) (v := (.bool (false))) rfl rfl ?_)
      exact ⟨hE, rfl⟩
    refine ⟨.det (fun val => (.bool (false))), ⟨fun _ _ hv => rfl, fun _ _ _ _ _ => trivial⟩, fun val h_ W hx he => ⟨trivial, ?_⟩, ?_⟩
    · replace hx := (Upd.drew _ _).trans hx
      replace hp := hp.ext hx
      replace hc := hc.ext hx
      replace hb := hb.ext hx
      replace hp2 := hp2.ext hx
      replace hc2 := hc2.ext hx
      replace hb2 := hb2.ext hx
      replace hB1 := hB1.ext hx
      replace hB2 := hB2.ext hx
      replace hB3 := hB3.ext hx
      replace hPa := hPa.ext hx
      replace hB8 := hB8.ext hx
      replace hPb := hPb.ext hx
      replace hB11 := hB11.ext hx
      replace hB14 := hB14.ext hx
      replace hB17 := hB17.ext hx
      have hE := Upd.refl (fun _ => False) W
      refine id (X_move (v := (.bool (false))) rfl ?_)
      exact ⟨hE, rfl⟩
    refine ⟨.det (fun val => (.agg ([pv, cv, bv, (.bool (off))]).toArray)), ⟨fun _ _ hv => rfl, fun _ _ _ _ _ => trivial⟩, fun val h_ W hx he => ⟨⟨69, rfl, rfl⟩, ?_⟩, ?_⟩
    · replace hx := (Upd.drew _ _).trans hx
      replace hp := hp.ext hx
      replace hc := hc.ext hx
      replace hb := hb.ext hx
      replace hp2 := hp2.ext hx
      replace hc2 := hc2.ext hx
      replace hb2 := hb2.ext hx
      replace hB1 := hB1.ext hx
      replace hB2 := hB2.ext hx
      replace hB3 := hB3.ext hx
      replace hPa := hPa.ext hx
      replace hB8 := hB8.ext hx
      replace hPb := hPb.ext hx
      replace hB11 := hB11.ext hx
      replace hB14 := hB14.ext hx
      replace hB17 := hB17.ext hx
      have hE := Upd.refl (fun _ => False) W
      refine id (X_loadA (p := (ptr b1 (0))) (xs := [pv, cv, bv, (.bool (off))]) A26 rfl hB1.atAll rfl ?_)
      exact ⟨hE, rfl⟩
    refine ⟨.det (fun val => (.bool (gM))), ⟨fun _ _ hv => rfl, fun _ _ _ _ _ => trivial⟩, fun val h_ W hx he => ⟨⟨69, rfl, rfl⟩, ?_⟩, ?_⟩
    · replace hx := (Upd.drew _ _).trans hx
      replace hp := hp.ext hx
      replace hc := hc.ext hx
      replace hb := hb.ext hx
      replace hp2 := hp2.ext hx
      replace hc2 := hc2.ext hx
      replace hb2 := hb2.ext hx
      replace hB1 := hB1.ext hx
      replace hB2 := hB2.ext hx
      replace hB3 := hB3.ext hx
      replace hPa := hPa.ext hx
      replace hB8 := hB8.ext hx
      replace hPb := hPb.ext hx
      replace hB11 := hB11.ext hx
      replace hB14 := hB14.ext hx
      replace hB17 := hB17.ext hx
      have hE := Upd.refl (fun _ => False) W
      have hxs_ := hx.size
      refine id (X_fn (vs := [(.agg ([pv, cv, bv, (.bool (off))]).toArray)]) en15 rfl (CT.mono (c_may pv cv bv ps cs bs off _ 0 n0 (by omega) hp hc hb) ?_))
      rintro _ w21 ⟨⟨g21, rfl, hg21⟩, hu21⟩
      have hz21 := hu21.size
      replace hp := hp.ext hu21
      replace hc := hc.ext hu21
      replace hb := hb.ext hu21
      replace hp2 := hp2.ext hu21
      replace hc2 := hc2.ext hu21
      replace hb2 := hb2.ext hu21
      replace hB1 := hB1.ext hu21
      replace hB2 := hB2.ext hu21
      replace hB3 := hB3.ext hu21
      replace hPa := hPa.ext hu21
      replace hB8 := hB8.ext hu21
      replace hPb := hPb.ext hu21
      replace hB11 := hB11.ext hu21
      replace hB14 := hB14.ext hu21
      replace hB17 := hB17.ext hu21
      replace hE := hE.trans (Ext.upd hu21)
      obtain rfl : g21 = gM := Bool.eq_iff_iff.2 (hg21.trans hgM.symm)
      exact ⟨hE, rfl⟩
    refine ⟨.det (fun val => (.agg ([pv, cv, bv, (.bool (off))]).toArray)), ⟨fun _ _ hv => rfl, fun _ _ _ _ _ => trivial⟩, fun val h_ W hx he => ⟨⟨69, rfl, rfl⟩, ?_⟩, ?_⟩
    · replace hx := (Upd.drew _ _).trans hx
      replace hp := hp.ext hx
      replace hc := hc.ext hx
      replace hb := hb.ext hx
      replace hp2 := hp2.ext hx
      replace hc2 := hc2.ext hx
      replace hb2 := hb2.ext hx
      replace hB1 := hB1.ext hx
      replace hB2 := hB2.ext hx
      replace hB3 := hB3.ext hx
      replace hPa := hPa.ext hx
      replace hB8 := hB8.ext hx
      replace hPb := hPb.ext hx
      replace hB11 := hB11.ext hx
      replace hB14 := hB14.ext hx
      replace hB17 := hB17.ext hx
      have hE := Upd.refl (fun _ => False) W
      refine id (X_loadA (p := (ptr b1 (0))) (xs := [pv, cv, bv, (.bool (off))]) A26 rfl hB1.atAll rfl ?_)
      exact ⟨hE, rfl⟩
    refine ⟨.det (fun val => (.bool (gM))), ⟨fun _ _ hv => rfl, fun _ _ _ _ _ => trivial⟩, fun val h_ W hx he => ⟨⟨69, rfl, rfl⟩, ?_⟩, ?_⟩
    · replace hx := (Upd.drew _ _).trans hx
      replace hp := hp.ext hx
      replace hc := hc.ext hx
      replace hb := hb.ext hx
      replace hp2 := hp2.ext hx
      replace hc2 := hc2.ext hx
      replace hb2 := hb2.ext hx
      replace hB1 := hB1.ext hx
      replace hB2 := hB2.ext hx
      replace hB3 := hB3.ext hx
      replace hPa := hPa.ext hx
      replace hB8 := hB8.ext hx
      replace hPb := hPb.ext hx
      replace hB11 := hB11.ext hx
      replace hB14 := hB14.ext hx
      replace hB17 := hB17.ext hx
      have hE := Upd.refl (fun _ => False) W
      have hxs_ := hx.size
      refine id (X_fn (vs := [(.agg ([pv, cv, bv, (.bool (off))]).toArray)]) en9 rfl (CT.mono (c_mayR pv cv bv ps cs bs off _ 0 n0 hp hc hb) ?_))
      rintro _ w22 ⟨⟨g22, rfl, hg22⟩, hu22⟩
      have hz22 := hu22.size
      replace hp := hp.ext hu22
      replace hc := hc.ext hu22
      replace hb := hb.ext hu22
      replace hp2 := hp2.ext hu22
      replace hc2 := hc2.ext hu22
      replace hb2 := hb2.ext hu22
      replace hB1 := hB1.ext hu22
      replace hB2 := hB2.ext hu22
      replace hB3 := hB3.ext hu22
      replace hPa := hPa.ext hu22
      replace hB8 := hB8.ext hu22
      replace hPb := hPb.ext hu22
      replace hB11 := hB11.ext hu22
      replace hB14 := hB14.ext hu22
      replace hB17 := hB17.ext hu22
      replace hE := hE.trans (Ext.upd hu22)
      obtain rfl : g22 = gM := Bool.eq_iff_iff.2 (hg22.trans hgM.symm)
      exact ⟨hE, rfl⟩
    refine ⟨.det (fun val => (.bool (false))), ⟨fun _ _ hv => rfl, fun _ _ _ _ _ => trivial⟩, fun val h_ W hx he => ⟨⟨69, rfl, rfl⟩, ?_⟩, ?_⟩
    · replace hx := (Upd.drew _ _).trans hx
      replace hp := hp.ext hx
      replace hc := hc.ext hx
      replace hb := hb.ext hx
      replace hp2 := hp2.ext hx
      replace hc2 := hc2.ext hx
      replace hb2 := hb2.ext hx
      replace hB1 := hB1.ext hx
      replace hB2 := hB2.ext hx
      replace hB3 := hB3.ext hx
      replace hPa := hPa.ext hx
      replace hB8 := hB8.ext hx
      replace hPb := hPb.ext hx
      replace hB11 := hB11.ext hx
      replace hB14 := hB14.ext hx
      replace hB17 := hB17.ext hx
      have hE := Upd.refl (fun _ => False) W
      refine id (X_cmpBool (a := gM) (b := gM) (r := false) Try.underlying4 rfl rfl (.inr ⟨rfl, by rw [beq_self_eq_true]; rfl⟩) ?_)
      exact ⟨hE, rfl⟩
    refine ⟨.det (fun val => (.bool (false))), ⟨fun _ _ hv => rfl, fun _ _ _ _ _ => trivial⟩, fun val h_ W hx he => ⟨trivial, ?_⟩, ?_⟩
    · replace hx := (Upd.drew _ _).trans hx
      replace hp := hp.ext hx
      replace hc := hc.ext hx
      replace hb := hb.ext hx
      replace hp2 := hp2.ext hx
      replace hc2 := hc2.ext hx
      replace hb2 := hb2.ext hx
      replace hB1 := hB1.ext hx
      replace hB2 := hB2.ext hx
      replace hB3 := hB3.ext hx
      replace hPa := hPa.ext hx
      replace hB8 := hB8.ext hx
      replace hPb := hPb.ext hx
      replace hB11 := hB11.ext hx
      replace hB14 := hB14.ext hx
      replace hB17 := hB17.ext hx
      have hE := Upd.refl (fun _ => False) W
      refine id (X_pick (t := false) (v := (.bool (false))) rfl rfl ?_)
      exact ⟨hE, rfl⟩
    refine ⟨.det (fun val => (.bool (false))), ⟨fun _ _ hv => rfl, fun _ _ _ _ _ => trivial⟩, fun val h_ W hx he => ⟨trivial, ?_⟩, ?_⟩
    · replace hx := (Upd.drew _ _).trans hx
      replace hp := hp.ext hx
      replace hc := hc.ext hx
      replace hb := hb.ext hx
      replace hp2 := hp2.ext hx
      replace hc2 := hc2.ext hx
      replace hb2 := hb2.ext hx
      replace hB1 := hB1.ext hx
      replace hB2 := hB2.ext hx
      replace hB3 := hB3.ext hx
      replace hPa := hPa.ext hx
      replace hB8 := hB8.ext hx
      replace hPb := hPb.ext hx
      replace hB11 := hB11.ext hx
      replace hB14 := hB14.ext hx
      replace hB17 := hB17.ext hx
      have hE := Upd.refl (fun _ => False) W
      refine id (X_move (v := (.bool (false))) rfl ?_)
      exact ⟨hE, rfl⟩
    refine ⟨.det (fun val => (.agg ([pv, cv, bv, (.bool (off))]).toArray)), ⟨fun _ _ hv => rfl, fun _ _ _ _ _ => trivial⟩, fun val h_ W hx he => ⟨⟨76, rfl, rfl⟩, ?_⟩, ?_⟩
    · replace hx := (Upd.drew _ _).trans hx
      replace hp := hp.ext hx
      replace hc := hc.ext hx
      replace hb := hb.ext hx
      replace hp2 := hp2.ext hx
      replace hc2 := hc2.ext hx
      replace hb2 := hb2.ext hx
      replace hB1 := hB1.ext hx
      replace hB2 := hB2.ext hx
      replace hB3 := hB3.ext hx
      replace hPa := hPa.ext hx
      replace hB8 := hB8.ext hx
      replace hPb := hPb.ext hx
      replace hB11 := hB11.ext hx
      replace hB14 := hB14.ext hx
      replace hB17 := hB17.ext hx
      have hE := Upd.refl (fun _ => False) W
      refine id (X_loadA (p := (ptr b1 (0))) (xs := [pv, cv, bv, (.bool (off))]) A26 rfl hB1.atAll rfl ?_)
      exact ⟨hE, rfl⟩
    refine ⟨.det (fun val => (.agg ([pv2, cv2, bv2, (.bool (off2))]).toArray)), ⟨fun _ _ hv => rfl, fun _ _ _ _ _ => trivial⟩, fun val h_ W hx he => ⟨⟨76, rfl, rfl⟩, ?_⟩, ?_⟩
    · replace hx := (Upd.drew _ _).trans hx
      replace hp := hp.ext hx
      replace hc := hc.ext hx
      replace hb := hb.ext hx
      replace hp2 := hp2.ext hx
      replace hc2 := hc2.ext hx
      replace hb2 := hb2.ext hx
      replace hB1 := hB1.ext hx
      replace hB2 := hB2.ext hx
      replace hB3 := hB3.ext hx
      replace hPa := hPa.ext hx
      replace hB8 := hB8.ext hx
      replace hPb := hPb.ext hx
      replace hB11 := hB11.ext hx
      replace hB14 := hB14.ext hx
      replace hB17 := hB17.ext hx
      have hE := Upd.refl (fun _ => False) W
      refine id (X_loadA (p := (ptr b2 (0))) (xs := [pv2, cv2, bv2, (.bool (off2))]) A26 rfl hB2.atAll rfl ?_)
      exact ⟨hE, rfl⟩
    refine ⟨.det (fun val => (.bool (gS))), ⟨fun _ _ hv => rfl, fun _ _ _ _ _ => trivial⟩, fun val h_ W hx he => ⟨⟨76, rfl, rfl⟩, ?_⟩, ?_⟩
    · replace hx := (Upd.drew _ _).trans hx
      replace hp := hp.ext hx
      replace hc := hc.ext hx
      replace hb := hb.ext hx
      replace hp2 := hp2.ext hx
      replace hc2 := hc2.ext hx
      replace hb2 := hb2.ext hx
      replace hB1 := hB1.ext hx
      replace hB2 := hB2.ext hx
      replace hB3 := hB3.ext hx
      replace hPa := hPa.ext hx
      replace hB8 := hB8.ext hx
      replace hPb := hPb.ext hx
      replace hB11 := hB11.ext hx
      replace hB14 := hB14.ext hx
      replace hB17 := hB17.ext hx
      have hE := Upd.refl (fun _ => False) W
      have hxs_ := hx.size
      refine id (X_fn (vs := [(.agg ([pv, cv, bv, (.bool (off))]).toArray), (.agg ([pv2, cv2, bv2, (.bool (off2))]).toArray)]) en22 rfl (CT.mono (c_sameV pv cv bv ps cs bs off pv2 cv2 bv2 ps2 cs2 bs2 off2 _ 0 n0 0 n0 hp hc hb hp2 hc2 hb2) ?_))
      rintro _ w23 ⟨⟨g23, rfl, hg23⟩, hu23⟩
      have hz23 := hu23.size
      replace hp := hp.ext hu23
      replace hc := hc.ext hu23
      replace hb := hb.ext hu23
      replace hp2 := hp2.ext hu23
      replace hc2 := hc2.ext hu23
      replace hb2 := hb2.ext hu23
      replace hB1 := hB1.ext hu23
      replace hB2 := hB2.ext hu23
      replace hB3 := hB3.ext hu23
      replace hPa := hPa.ext hu23
      replace hB8 := hB8.ext hu23
      replace hPb := hPb.ext hu23
      replace hB11 := hB11.ext hu23
      replace hB14 := hB14.ext hu23
      replace hB17 := hB17.ext hu23
      replace hE := hE.trans (Ext.upd hu23)
      obtain rfl : g23 = gS := Bool.eq_iff_iff.2 (hg23.trans hgS.symm)
      exact ⟨hE, rfl⟩
    refine ⟨.det (fun val => (.agg ([pv, cv, bv, (.bool (off))]).toArray)), ⟨fun _ _ hv => rfl, fun _ _ _ _ _ => trivial⟩, fun val h_ W hx he => ⟨⟨76, rfl, rfl⟩, ?_⟩, ?_⟩
    · replace hx := (Upd.drew _ _).trans hx
      replace hp := hp.ext hx
      replace hc := hc.ext hx
      replace hb := hb.ext hx
      replace hp2 := hp2.ext hx
      replace hc2 := hc2.ext hx
      replace hb2 := hb2.ext hx
      replace hB1 := hB1.ext hx
      replace hB2 := hB2.ext hx
      replace hB3 := hB3.ext hx
      replace hPa := hPa.ext hx
      replace hB8 := hB8.ext hx
      replace hPb := hPb.ext hx
      replace hB11 := hB11.ext hx
      replace hB14 := hB14.ext hx
      replace hB17 := hB17.ext hx
      have hE := Upd.refl (fun _ => False) W
      refine id (X_loadA (p := (ptr b1 (0))) (xs := [pv, cv, bv, (.bool (off))]) A26 rfl hB1.atAll rfl ?_)
      exact ⟨hE, rfl⟩
    refine ⟨.det (fun val => (.agg ([pv2, cv2, bv2, (.bool (off2))]).toArray)), ⟨fun _ _ hv => rfl, fun _ _ _ _ _ => trivial⟩, fun val h_ W hx he => ⟨⟨76, rfl, rfl⟩, ?_⟩, ?_⟩
    · replace hx := (Upd.drew _ _).trans hx
      replace hp := hp.ext hx
      replace hc := hc.ext hx
      replace hb := hb.ext hx
      replace hp2 := hp2.ext hx
      replace hc2 := hc2.ext hx
      replace hb2 := hb2.ext hx
      replace hB1 := hB1.ext hx
      replace hB2 := hB2.ext hx
      replace hB3 := hB3.ext hx
      replace hPa := hPa.ext hx
      replace hB8 := hB8.ext hx
      replace hPb := hPb.ext hx
      replace hB11 := hB11.ext hx
      replace hB14 := hB14.ext hx
      replace hB17 := hB17.ext hx
      have hE := Upd.refl (fun _ => False) W
      refine id (X_loadA (p := (ptr b2 (0))) (xs := [pv2, cv2, bv2, (.bool (off2))]) A26 rfl hB2.atAll rfl ?_)
      exact ⟨hE, rfl⟩
    refine ⟨.det (fun val => (.bool (gS))), ⟨fun _ _ hv => rfl, fun _ _ _ _ _ => trivial⟩, fun val h_ W hx he => ⟨⟨76, rfl, rfl⟩, ?_⟩, ?_⟩
    · replace hx := (Upd.drew _ _).trans hx
      replace hp := hp.ext hx
      replace hc := hc.ext hx
      replace hb := hb.ext hx
      replace hp2 := hp2.ext hx
      replace hc2 := hc2.ext hx
      replace hb2 := hb2.ext hx
      replace hB1 := hB1.ext hx
      replace hB2 := hB2.ext hx
      replace hB3 := hB3.ext hx
      replace hPa := hPa.ext hx
      replace hB8 := hB8.ext hx
      replace hPb := hPb.ext hx
      replace hB11 := hB11.ext hx
      replace hB14 := hB14.ext hx
      replace hB17 := hB17.ext hx
      have hE := Upd.refl (fun _ => False) W
      have hxs_ := hx.size
      refine id (X_fn (vs := [(.agg ([pv, cv, bv, (.bool (off))]).toArray), (.agg ([pv2, cv2, bv2, (.bool (off2))]).toArray)]) en23 rfl (CT.mono (c_sameR pv cv bv ps cs bs off pv2 cv2 bv2 ps2 cs2 bs2 off2 _ 0 n0 0 n0 hp hc hb hp2 hc2 hb2) ?_))
      rintro _ w24 ⟨⟨g24, rfl, hg24⟩, hu24⟩
      have hz24 := hu24.size
      replace hp := hp.ext hu24
      replace hc := hc.ext hu24
      replace hb := hb.ext hu24
      replace hp2 := hp2.ext hu24
      replace hc2 := hc2.ext hu24
      replace hb2 := hb2.ext hu24
      replace hB1 := hB1.ext hu24
      replace hB2 := hB2.ext hu24
      replace hB3 := hB3.ext hu24
      replace hPa := hPa.ext hu24
      replace hB8 := hB8.ext hu24
      replace hPb := hPb.ext hu24
      replace hB11 := hB11.ext hu24
      replace hB14 := hB14.ext hu24
      replace hB17 := hB17.ext hu24
      replace hE := hE.trans (Ext.upd hu24)
      obtain rfl : g24 = gS := Bool.eq_iff_iff.2 (hg24.trans hgS.symm)
      exact ⟨hE, rfl⟩
    refine ⟨.det (fun val => (.bool (false))), ⟨fun _ _ hv => rfl, fun _ _ _ _ _ => trivial⟩, fun val h_ W hx he => ⟨⟨76, rfl, rfl⟩, ?_⟩, ?_⟩
    · replace hx := (Upd.drew _ _).trans hx
      replace hp := hp.ext hx
      replace hc := hc.ext hx
      replace hb := hb.ext hx
      replace hp2 := hp2.ext hx
      replace hc2 := hc2.ext hx
      replace hb2 := hb2.ext hx
      replace hB1 := hB1.ext hx
      replace hB2 := hB2.ext hx
      replace hB3 := hB3.ext hx
      replace hPa := hPa.ext hx
      replace hB8 := hB8.ext hx
      replace hPb := hPb.ext hx
      replace hB11 := hB11.ext hx
      replace hB14 := hB14.ext hx
      replace hB17 := hB17.ext hx
      have hE := Upd.refl (fun _ => False) W
      refine id (X_cmpBool (a := gS) (b := gS) (r := false) Try.underlying4 rfl rfl (.inr ⟨rfl, by rw [beq_self_eq_true]; rfl⟩) ?_)
      exact ⟨hE, rfl⟩
    refine ⟨.det (fun val => (.bool (false))), ⟨fun _ _ hv => rfl, fun _ _ _ _ _ => trivial⟩, fun val h_ W hx he => ⟨trivial, ?_⟩, ?_⟩
    · replace hx := (Upd.drew _ _).trans hx
      replace hp := hp.ext hx
      replace hc := hc.ext hx
      replace hb := hb.ext hx
      replace hp2 := hp2.ext hx
      replace hc2 := hc2.ext hx
      replace hb2 := hb2.ext hx
      replace hB1 := hB1.ext hx
      replace hB2 := hB2.ext hx
      replace hB3 := hB3.ext hx
      replace hPa := hPa.ext hx
      replace hB8 := hB8.ext hx
      replace hPb := hPb.ext hx
      replace hB11 := hB11.ext hx
      replace hB14 := hB14.ext hx
      replace hB17 := hB17.ext hx
      have hE := Upd.refl (fun _ => False) W
      refine id (X_pick (t := false) (v := (.bool (false))) rfl rfl ?_)
      exact ⟨hE, rfl⟩
    refine ⟨.det (fun val => (.bool (false))), ⟨fun _ _ hv => rfl, fun _ _ _ _ _ => trivial⟩, fun val h_ W hx he => ⟨trivial, ?_⟩, ?_⟩
    · replace hx := (Upd.drew _ _).trans hx
      replace hp := hp.ext hx
      replace hc := hc.ext hx
      replace hb := hb.ext hx
      replace hp2 := hp2.ext hx
      replace hc2 := hc2.ext hx
      replace hb2 := hb2.ext hx
      replace hB1 := hB1.ext hx
      replace hB2 := hB2.ext hx
      replace hB3 := hB3.ext hx
      replace hPa := hPa.ext hx
      replace hB8 := hB8.ext hx
      replace hPb := hPb.ext hx
      replace hB11 := hB11.ext hx
      replace hB14 := hB14.ext hx
      replace hB17 := hB17.ext hx
      have hE := Upd.refl (fun _ => False) W
      refine id (X_move (v := (.bool (false))) rfl ?_)
      exact ⟨hE, rfl⟩
    refine ⟨.det (fun val => (.agg ([pv, cv, bv, (.bool (off))]).toArray)), ⟨fun _ _ hv => rfl, fun _ _ _ _ _ => trivial⟩, fun val h_ W hx he => ⟨⟨85, rfl, rfl⟩, ?_⟩, ?_⟩
    · replace hx := (Upd.drew _ _).trans hx
      replace hp := hp.ext hx
      replace hc := hc.ext hx
      replace hb := hb.ext hx
      replace hp2 := hp2.ext hx
      replace hc2 := hc2.ext hx
      replace hb2 := hb2.ext hx
      replace hB1 := hB1.ext hx
      replace hB2 := hB2.ext hx
      replace hB3 := hB3.ext hx
      replace hPa := hPa.ext hx
      replace hB8 := hB8.ext hx
      replace hPb := hPb.ext hx
      replace hB11 := hB11.ext hx
      replace hB14 := hB14.ext hx
      replace hB17 := hB17.ext hx
      have hE := Upd.refl (fun _ => False) W
      refine id (X_loadA (p := (ptr b1 (0))) (xs := [pv, cv, bv, (.bool (off))]) A26 rfl hB1.atAll rfl ?_)
      exact ⟨hE, rfl⟩
    refine ⟨.abs (fun _ x_ W_ => ∃ u, NOwn LI W_ 3 5 s7 u x_ (waitsW cs)), ⟨fun _ _ _ => rfl, fun _ _ _ _ hu h => (by obtain ⟨u, h1⟩ := h; exact ⟨u, h1.ext hu⟩)⟩, fun val h_ W hx he => ⟨⟨85, rfl, rfl⟩, ?_⟩, ?_⟩
    · replace hx := (Upd.drew _ _).trans hx
      replace hp := hp.ext hx
      replace hc := hc.ext hx
      replace hb := hb.ext hx
      replace hp2 := hp2.ext hx
      replace hc2 := hc2.ext hx
      replace hb2 := hb2.ext hx
      replace hB1 := hB1.ext hx
      replace hB2 := hB2.ext hx
      replace hB3 := hB3.ext hx
      replace hPa := hPa.ext hx
      replace hB8 := hB8.ext hx
      replace hPb := hPb.ext hx
      replace hB11 := hB11.ext hx
      replace hB14 := hB14.ext hx
      replace hB17 := hB17.ext hx
      have hE := Upd.refl (fun _ => False) W
      have hxs := hx.size
      refine X_fn (vs := [.agg #[pv, cv, bv, .bool off]]) en14 rfl (CT.mono (c_waits pv cv bv ps cs bs off _ 0 n0 (by omega) hp hc hb (by omega)) ?_)
      rintro v9 w9 ⟨ds9, hN9, rfl, hu9⟩
      exact ⟨hu9, _, hN9.mono (by omega) (Nat.le_refl _)⟩
    refine ⟨.det (fun val => (.agg ([pv, cv, bv, (.bool (off))]).toArray)), ⟨fun _ _ hv => rfl, fun _ _ _ _ _ => trivial⟩, fun val h_ W hx he => ⟨⟨85, rfl, rfl⟩, ?_⟩, ?_⟩
    · replace hx := (Upd.drew _ _).trans hx
      replace hp := hp.ext hx
      replace hc := hc.ext hx
      replace hb := hb.ext hx
      replace hp2 := hp2.ext hx
      replace hc2 := hc2.ext hx
      replace hb2 := hb2.ext hx
      replace hB1 := hB1.ext hx
      replace hB2 := hB2.ext hx
      replace hB3 := hB3.ext hx
      replace hPa := hPa.ext hx
      replace hB8 := hB8.ext hx
      replace hPb := hPb.ext hx
      replace hB11 := hB11.ext hx
      replace hB14 := hB14.ext hx
      replace hB17 := hB17.ext hx
      have hE := Upd.refl (fun _ => False) W
      refine id (X_loadA (p := (ptr b1 (0))) (xs := [pv, cv, bv, (.bool (off))]) A26 rfl hB1.atAll rfl ?_)
      exact ⟨hE, rfl⟩
    intro val W19 hx19 he19
    replace hx19 := (Upd.drew _ _).trans hx19
    have hz19 := hx19.size
    replace hp := hp.ext hx19
    replace hc := hc.ext hx19
    replace hb := hb.ext hx19
    replace hp2 := hp2.ext hx19
    replace hc2 := hc2.ext hx19
    replace hb2 := hb2.ext hx19
    replace hU := hU.trans (Ext.upd hx19)
    replace hB1 := hB1.ext hx19
    replace hB2 := hB2.ext hx19
    replace hB3 := hB3.ext hx19
    replace hPa := hPa.ext hx19
    replace hB8 := hB8.ext hx19
    replace hPb := hPb.ext hx19
    replace hB11 := hB11.ext hx19
    replace hB14 := hB14.ext hx19
    replace hB17 := hB17.ext hx19
    obtain ⟨⟨u37, hN37⟩, he19⟩ := he19
    obtain ⟨s_w, hs_w⟩ : ∃ n, n = W19.heap.size := ⟨_, rfl⟩
    refine L_gy (dj := 85) rfl rfl rfl (X_fn (vs := [(.agg ([pv, cv, bv, (.bool (off))]).toArray)]) en25 rfl (CT.mono (c_waitsR pv cv bv ps cs bs off _ 0 n0 (by omega) hp hc hb (by omega)) ?_))
    rintro v39 w25 ⟨_, hN39, rfl, hu25⟩
    have hz25 := hu25.size
    replace hp := hp.ext hu25
    replace hc := hc.ext hu25
    replace hb := hb.ext hu25
    replace hp2 := hp2.ext hu25
    replace hc2 := hc2.ext hu25
    replace hb2 := hb2.ext hu25
    replace hU := hU.trans (Ext.upd hu25)
    replace hB1 := hB1.ext hu25
    replace hB2 := hB2.ext hu25
    replace hB3 := hB3.ext hu25
    replace hPa := hPa.ext hu25
    replace hB8 := hB8.ext hu25
    replace hPb := hPb.ext hu25
    replace hB11 := hB11.ext hu25
    replace hB14 := hB14.ext hu25
    replace hB17 := hB17.ext hu25
    replace hN37 := hN37.ext hu25
    obtain ⟨u39, hu39_⟩ : ∃ n, n = w25.heap.size := ⟨_, rfl⟩
    rw [← hs_w, ← hu39_] at hN39
    refine L_gy (dj := 85) rfl rfl rfl (X_fn (vs := [(val 37), v39]) en24 rfl (CT.mono (c_ints (val 37) v39 (waitsW cs) (waitsW cs) _ s7 u37 s_w u39 hN37.rd hN39.rd) ?_))
    rintro _ w26 ⟨⟨g26, rfl, hg26⟩, hu26⟩
    have hz26 := hu26.size
    replace hp := hp.ext hu26
    replace hc := hc.ext hu26
    replace hb := hb.ext hu26
    replace hp2 := hp2.ext hu26
    replace hc2 := hc2.ext hu26
    replace hb2 := hb2.ext hu26
    replace hU := hU.trans (Ext.upd hu26)
    replace hB1 := hB1.ext hu26
    replace hB2 := hB2.ext hu26
    replace hB3 := hB3.ext hu26
    replace hPa := hPa.ext hu26
    replace hB8 := hB8.ext hu26
    replace hPb := hPb.ext hu26
    replace hB11 := hB11.ext hu26
    replace hB14 := hB14.ext hu26
    replace hB17 := hB17.ext hu26
    replace hN37 := hN37.ext hu26
    replace hN39 := hN39.ext hu26
    obtain rfl : g26 = true := hg26.2 rfl
    refine L_gy (dj := 85) rfl rfl rfl (X_not (b := true) (r := false) rfl rfl ?_)
    refine L_op rfl (X_pick (t := false) (v := (.bool (false))) rfl rfl ?_)
    refine L_nil ?_
    refine T_n ?_
    refine W_cf rfl ?_
    refine W_skip ?_
    refine T_n ?_
    refine W_seq ?_
    refine W_reg ?_
    refine L_op rfl (X_loadA (p := (ptr b1 (0))) (xs := [pv, cv, bv, (.bool (off))]) A26 rfl hB1.atAll rfl ?_)
    refine L_op rfl (X_move (v := (.int .i64 (n))) rfl ?_)
    refine L_op rfl (X_loadA (p := (ptr b3 (0))) (xs := ((p.1).map byteV)) A28 rfl hB3.atAll (by rw [List.length_map]; exact p.2) ?_)
    obtain ⟨s_c, hs_c⟩ : ∃ n, n = w26.heap.size := ⟨_, rfl⟩
    refine L_op rfl (X_fn (vs := [(.agg ([pv, cv, bv, (.bool (off))]).toArray), (.int .i64 (n)), (.agg (((p.1).map byteV)).toArray)]) en12 rfl (CT.mono (c_write pv cv bv ps cs bs off n p _ 0 n0 (by omega) hp hc hb (by omega) (by omega) (by omega)) ?_))
    rintro _ w27 ⟨p_c, c_c, i_c, rfl, hPc, hCc, hIc, hu27⟩
    have hz27 := hu27.size
    replace hp := hp.ext hu27
    replace hc := hc.ext hu27
    replace hb := hb.ext hu27
    replace hp2 := hp2.ext hu27
    replace hc2 := hc2.ext hu27
    replace hb2 := hb2.ext hu27
    replace hU := hU.trans (Ext.upd hu27)
    replace hB1 := hB1.ext hu27
    replace hB2 := hB2.ext hu27
    replace hB3 := hB3.ext hu27
    replace hPa := hPa.ext hu27
    replace hB8 := hB8.ext hu27
    replace hPb := hPb.ext hu27
    replace hB11 := hB11.ext hu27
    replace hB14 := hB14.ext hu27
    replace hB17 := hB17.ext hu27
    obtain ⟨u_c, hu_c⟩ : ∃ n, n = w27.heap.size := ⟨_, rfl⟩
    rw [← hs_c, ← hu_c] at hPc hCc hIc
    refine L_op rfl (X_move (v := (.tuple #[(.agg #[p_c, c_c, i_c, (.bool (off))]), (.int .i64 ((wrE ps.length cs bs off n)))])) rfl ?_)
    refine L_op rfl (X_extract (l := [(.agg #[p_c, c_c, i_c, (.bool (off))]), (.int .i64 ((wrE ps.length cs bs off n)))]) (v := (.agg #[p_c, c_c, i_c, (.bool (off))])) rfl rfl ?_)
    refine L_op rfl (X_extract (l := [(.agg #[p_c, c_c, i_c, (.bool (off))]), (.int .i64 ((wrE ps.length cs bs off n)))]) (v := (.int .i64 ((wrE ps.length cs bs off n)))) rfl rfl ?_)
    refine L_op rfl (X_alloc (z := (.agg #[(.slice none 0 0), (.slice none 0 0), (.slice none 0 0), (.bool (false))])) (c := #[(.slice none 0 0), (.slice none 0 0), (.slice none 0 0), (.bool (false))]) Zv26 rfl ?_)
    intro b28 w28 hn28
    have hbn28 := hn28.num; have hbs28 := hn28.size
    replace hp := hp.ext hn28.ext
    replace hc := hc.ext hn28.ext
    replace hb := hb.ext hn28.ext
    replace hp2 := hp2.ext hn28.ext
    replace hc2 := hc2.ext hn28.ext
    replace hb2 := hb2.ext hn28.ext
    replace hU := hU.trans (Ext.upd hn28.ext)
    replace hB1 := hB1.ext hn28.ext
    replace hB2 := hB2.ext hn28.ext
    replace hB3 := hB3.ext hn28.ext
    replace hPa := hPa.ext hn28.ext
    replace hB8 := hB8.ext hn28.ext
    replace hPb := hPb.ext hn28.ext
    replace hB11 := hB11.ext hn28.ext
    replace hB14 := hB14.ext hn28.ext
    replace hB17 := hB17.ext hn28.ext
    replace hPc := hPc.ext hn28.ext
    replace hCc := hCc.ext hn28.ext
    replace hIc := hIc.ext hn28.ext
    have hB28 := hn28.blk
    refine L_op0 (X_storeW (b := b28) (ys := [p_c, c_c, i_c, (.bool (off))]) A26 rfl rfl (List.forall_mem_cons.2 ⟨(hPc.1.sv.one), (List.forall_mem_cons.2 ⟨(hCc.1.sv.one), (List.forall_mem_cons.2 ⟨(hIc.1.sv.one), (List.forall_mem_cons.2 ⟨rfl, (fun _ h => by cases h)⟩)⟩)⟩)⟩) rfl hB28 rfl ?_)
    intro w29 hu29 hb29
    have hz29 := hu29.size
    replace hp := hp.upd hu29 fun i h1 h2 h => by have h : i = b28 := h; omega
    replace hc := hc.upd hu29 fun i h1 h2 h => by have h : i = b28 := h; omega
    replace hb := hb.upd hu29 fun i h1 h2 h => by have h : i = b28 := h; omega
    replace hp2 := hp2.upd hu29 fun i h1 h2 h => by have h : i = b28 := h; omega
    replace hc2 := hc2.upd hu29 fun i h1 h2 h => by have h : i = b28 := h; omega
    replace hb2 := hb2.upd hu29 fun i h1 h2 h => by have h : i = b28 := h; omega
    replace hU := hU.trans (hu29.mono fun i _ h => by have h : i = b28 := h; show n0 ≤ i; omega)
    replace hB1 := hB1.upd hu29 fun h => by have h : b1 = b28 := h; omega
    replace hB2 := hB2.upd hu29 fun h => by have h : b2 = b28 := h; omega
    replace hB3 := hB3.upd hu29 fun h => by have h : b3 = b28 := h; omega
    replace hPa := hPa.upd hu29 fun i h1 h2 h => by have h : i = b28 := h; omega
    replace hB8 := hB8.upd hu29 fun h => by have h : b8 = b28 := h; omega
    replace hPb := hPb.upd hu29 fun i h1 h2 h => by have h : i = b28 := h; omega
    replace hB11 := hB11.upd hu29 fun h => by have h : b11 = b28 := h; omega
    replace hB14 := hB14.upd hu29 fun h => by have h : b14 = b28 := h; omega
    replace hB17 := hB17.upd hu29 fun h => by have h : b17 = b28 := h; omega
    replace hPc := hPc.upd hu29 fun i h1 h2 h => by have h : i = b28 := h; omega
    replace hCc := hCc.upd hu29 fun i h1 h2 h => by have h : i = b28 := h; omega
    replace hIc := hIc.upd hu29 fun i h1 h2 h => by have h : i = b28 := h; omega
    replace hB28 : Blk w29 b28 #[p_c, c_c, i_c, (.bool (off))] 26 := hb29
    refine L_op rfl (X_assign (v := (.int .i64 ((wrE ps.length cs bs off n)))) rfl ?_)
    refine L_nil ?_
    refine T_n ?_
    refine W_seq ?_
    refine W_reg ?_
    refine L_op rfl (X_loadA (p := (ptr b1 (0))) (xs := [pv, cv, bv, (.bool (off))]) A26 rfl hB1.atAll rfl ?_)
    refine L_op rfl (X_move (v := (.int .i64 (n))) rfl ?_)
    refine L_op rfl (X_loadA (p := (ptr b3 (0))) (xs := ((p.1).map byteV)) A28 rfl hB3.atAll (by rw [List.length_map]; exact p.2) ?_)
    obtain ⟨s_d, hs_d⟩ : ∃ n, n = w29.heap.size := ⟨_, rfl⟩
    refine L_op rfl (X_fn (vs := [(.agg ([pv, cv, bv, (.bool (off))]).toArray), (.int .i64 (n)), (.agg (((p.1).map byteV)).toArray)]) en26 rfl (CT.mono (c_writeR pv cv bv ps cs bs off n p _ 0 n0 (by omega) hp hc hb (by omega) (by omega) (by omega)) ?_))
    rintro _ w30 ⟨p_d, c_d, i_d, rfl, hPd, hCd, hId, hu30⟩
    have hz30 := hu30.size
    replace hp := hp.ext hu30
    replace hc := hc.ext hu30
    replace hb := hb.ext hu30
    replace hp2 := hp2.ext hu30
    replace hc2 := hc2.ext hu30
    replace hb2 := hb2.ext hu30
    replace hU := hU.trans (Ext.upd hu30)
    replace hB1 := hB1.ext hu30
    replace hB2 := hB2.ext hu30
    replace hB3 := hB3.ext hu30
    replace hPa := hPa.ext hu30
    replace hB8 := hB8.ext hu30
    replace hPb := hPb.ext hu30
    replace hB11 := hB11.ext hu30
    replace hB14 := hB14.ext hu30
    replace hB17 := hB17.ext hu30
    replace hPc := hPc.ext hu30
    replace hCc := hCc.ext hu30
    replace hIc := hIc.ext hu30
    replace hB28 := hB28.ext hu30
    obtain ⟨u_d, hu_d⟩ : ∃ n, n = w30.heap.size := ⟨_, rfl⟩
    rw [← hs_d, ← hu_d] at hPd hCd hId
    refine L_op rfl (X_move (v := (.tuple #[(.agg #[p_d, c_d, i_d, (.bool (off))]), (.int .i64 ((wrE ps.length cs bs off n)))])) rfl ?_)
    refine L_op rfl (X_extract (l := [(.agg #[p_d, c_d, i_d, (.bool (off))]), (.int .i64 ((wrE ps.length cs bs off n)))]) (v := (.agg #[p_d, c_d, i_d, (.bool (off))])) rfl rfl ?_)
    refine L_op rfl (X_extract (l := [(.agg #[p_d, c_d, i_d, (.bool (off))]), (.int .i64 ((wrE ps.length cs bs off n)))]) (v := (.int .i64 ((wrE ps.length cs bs off n)))) rfl rfl ?_)
    refine L_op rfl (X_alloc (z := (.agg #[(.slice none 0 0), (.slice none 0 0), (.slice none 0 0), (.bool (false))])) (c := #[(.slice none 0 0), (.slice none 0 0), (.slice none 0 0), (.bool (false))]) Zv26 rfl ?_)
    intro b31 w31 hn31
    have hbn31 := hn31.num; have hbs31 := hn31.size
    replace hp := hp.ext hn31.ext
    replace hc := hc.ext hn31.ext
    replace hb := hb.ext hn31.ext
    replace hp2 := hp2.ext hn31.ext
    replace hc2 := hc2.ext hn31.ext
    replace hb2 := hb2.ext hn31.ext
    replace hU := hU.trans (Ext.upd hn31.ext)
    replace hB1 := hB1.ext hn31.ext
    replace hB2 := hB2.ext hn31.ext
    replace hB3 := hB3.ext hn31.ext
    replace hPa := hPa.ext hn31.ext
    replace hB8 := hB8.ext hn31.ext
    replace hPb := hPb.ext hn31.ext
    replace hB11 := hB11.ext hn31.ext
    replace hB14 := hB14.ext hn31.ext
    replace hB17 := hB17.ext hn31.ext
    replace hPc := hPc.ext hn31.ext
    replace hCc := hCc.ext hn31.ext
    replace hIc := hIc.ext hn31.ext
    replace hB28 := hB28.ext hn31.ext
    replace hPd := hPd.ext hn31.ext
    replace hCd := hCd.ext hn31.ext
    replace hId := hId.ext hn31.ext
    have hB31 := hn31.blk
    refine L_op0 (X_storeW (b := b31) (ys := [p_d, c_d, i_d, (.bool (off))]) A26 rfl rfl (List.forall_mem_cons.2 ⟨(hPd.1.sv.one), (List.forall_mem_cons.2 ⟨(hCd.1.sv.one), (List.forall_mem_cons.2 ⟨(hId.1.sv.one), (List.forall_mem_cons.2 ⟨rfl, (fun _ h => by cases h)⟩)⟩)⟩)⟩) rfl hB31 rfl ?_)
    intro w32 hu32 hb32
    have hz32 := hu32.size
    replace hp := hp.upd hu32 fun i h1 h2 h => by have h : i = b31 := h; omega
    replace hc := hc.upd hu32 fun i h1 h2 h => by have h : i = b31 := h; omega
    replace hb := hb.upd hu32 fun i h1 h2 h => by have h : i = b31 := h; omega
    replace hp2 := hp2.upd hu32 fun i h1 h2 h => by have h : i = b31 := h; omega
    replace hc2 := hc2.upd hu32 fun i h1 h2 h => by have h : i = b31 := h; omega
    replace hb2 := hb2.upd hu32 fun i h1 h2 h => by have h : i = b31 := h; omega
    replace hU := hU.trans (hu32.mono fun i _ h => by have h : i = b31 := h; show n0 ≤ i; omega)
    replace hB1 := hB1.upd hu32 fun h => by have h : b1 = b31 := h; omega
    replace hB2 := hB2.upd hu32 fun h => by have h : b2 = b31 := h; omega
    replace hB3 := hB3.upd hu32 fun h => by have h : b3 = b31 := h; omega
    replace hPa := hPa.upd hu32 fun i h1 h2 h => by have h : i = b31 := h; omega
    replace hB8 := hB8.upd hu32 fun h => by have h : b8 = b31 := h; omega
    replace hPb := hPb.upd hu32 fun i h1 h2 h => by have h : i = b31 := h; omega
    replace hB11 := hB11.upd hu32 fun h => by have h : b11 = b31 := h; omega
    replace hB14 := hB14.upd hu32 fun h => by have h : b14 = b31 := h; omega
    replace hB17 := hB17.upd hu32 fun h => by have h : b17 = b31 := h; omega
    replace hPc := hPc.upd hu32 fun i h1 h2 h => by have h : i = b31 := h; omega
    replace hCc := hCc.upd hu32 fun i h1 h2 h => by have h : i = b31 := h; omega
    replace hIc := hIc.upd hu32 fun i h1 h2 h => by have h : i = b31 := h; omega
    replace hB28 := hB28.upd hu32 fun h => by have h : b28 = b31 := h; omega
    replace hPd := hPd.upd hu32 fun i h1 h2 h => by have h : i = b31 := h; omega
    replace hCd := hCd.upd hu32 fun i h1 h2 h => by have h : i = b31 := h; omega
    replace hId := hId.upd hu32 fun i h1 h2 h => by have h : i = b31 := h; omega
    replace hB31 : Blk w32 b31 #[p_d, c_d, i_d, (.bool (off))] 26 := hb32
    refine L_op rfl (X_assign (v := (.int .i64 ((wrE ps.length cs bs off n)))) rfl ?_)
    refine L_nil ?_
    refine T_n ?_
    refine W_seq ?_
    refine W_reg ?_
    refine L_op rfl (X_loadA (p := (ptr b1 (0))) (xs := [pv, cv, bv, (.bool (off))]) A26 rfl hB1.atAll rfl ?_)
    obtain ⟨s_f, hs_f⟩ : ∃ n, n = w32.heap.size := ⟨_, rfl⟩
    refine L_op rfl (X_fn (vs := [(.agg ([pv, cv, bv, (.bool (off))]).toArray)]) en13 rfl (CT.mono (c_flush pv cv bv ps cs bs off _ 0 n0 (by omega) hp hc hb (by omega) (by omega) (by omega)) ?_))
    rintro _ w33 ⟨p_f, c_f, i_f, q_f, d_f, a_f, rfl, hPf, hCf, hIf, hok_f, hno_f, hu33⟩
    have hz33 := hu33.size
    replace hp := hp.ext hu33
    replace hc := hc.ext hu33
    replace hb := hb.ext hu33
    replace hp2 := hp2.ext hu33
    replace hc2 := hc2.ext hu33
    replace hb2 := hb2.ext hu33
    replace hU := hU.trans (Ext.upd hu33)
    replace hB1 := hB1.ext hu33
    replace hB2 := hB2.ext hu33
    replace hB3 := hB3.ext hu33
    replace hPa := hPa.ext hu33
    replace hB8 := hB8.ext hu33
    replace hPb := hPb.ext hu33
    replace hB11 := hB11.ext hu33
    replace hB14 := hB14.ext hu33
    replace hB17 := hB17.ext hu33
    replace hPc := hPc.ext hu33
    replace hCc := hCc.ext hu33
    replace hIc := hIc.ext hu33
    replace hB28 := hB28.ext hu33
    replace hPd := hPd.ext hu33
    replace hCd := hCd.ext hu33
    replace hId := hId.ext hu33
    replace hB31 := hB31.ext hu33
    obtain ⟨u_f, hu_f⟩ : ∃ n, n = w33.heap.size := ⟨_, rfl⟩
    rw [← hs_f, ← hu_f] at hPf hCf hIf
    refine L_op rfl (X_move (v := (.tuple #[(.agg #[p_f, c_f, i_f, (.bool (off))]), (.int .i64 ((askE ps.length cs bs off 0)))])) rfl ?_)
    refine L_op rfl (X_extract (l := [(.agg #[p_f, c_f, i_f, (.bool (off))]), (.int .i64 ((askE ps.length cs bs off 0)))]) (v := (.agg #[p_f, c_f, i_f, (.bool (off))])) rfl rfl ?_)
    refine L_op rfl (X_extract (l := [(.agg #[p_f, c_f, i_f, (.bool (off))]), (.int .i64 ((askE ps.length cs bs off 0)))]) (v := (.int .i64 ((askE ps.length cs bs off 0)))) rfl rfl ?_)
    refine L_op rfl (X_alloc (z := (.agg #[(.slice none 0 0), (.slice none 0 0), (.slice none 0 0), (.bool (false))])) (c := #[(.slice none 0 0), (.slice none 0 0), (.slice none 0 0), (.bool (false))]) Zv26 rfl ?_)
    intro b34 w34 hn34
    have hbn34 := hn34.num; have hbs34 := hn34.size
    replace hp := hp.ext hn34.ext
    replace hc := hc.ext hn34.ext
    replace hb := hb.ext hn34.ext
    replace hp2 := hp2.ext hn34.ext
    replace hc2 := hc2.ext hn34.ext
    replace hb2 := hb2.ext hn34.ext
    replace hU := hU.trans (Ext.upd hn34.ext)
    replace hB1 := hB1.ext hn34.ext
    replace hB2 := hB2.ext hn34.ext
    replace hB3 := hB3.ext hn34.ext
    replace hPa := hPa.ext hn34.ext
    replace hB8 := hB8.ext hn34.ext
    replace hPb := hPb.ext hn34.ext
    replace hB11 := hB11.ext hn34.ext
    replace hB14 := hB14.ext hn34.ext
    replace hB17 := hB17.ext hn34.ext
    replace hPc := hPc.ext hn34.ext
    replace hCc := hCc.ext hn34.ext
    replace hIc := hIc.ext hn34.ext
    replace hB28 := hB28.ext hn34.ext
    replace hPd := hPd.ext hn34.ext
    replace hCd := hCd.ext hn34.ext
    replace hId := hId.ext hn34.ext
    replace hB31 := hB31.ext hn34.ext
    replace hPf := hPf.ext hn34.ext
    replace hCf := hCf.ext hn34.ext
    replace hIf := hIf.ext hn34.ext
    have hB34 := hn34.blk
    refine L_op0 (X_storeW (b := b34) (ys := [p_f, c_f, i_f, (.bool (off))]) A26 rfl rfl (List.forall_mem_cons.2 ⟨(hPf.1.sv.one), (List.forall_mem_cons.2 ⟨(hCf.1.sv.one), (List.forall_mem_cons.2 ⟨(hIf.1.sv.one), (List.forall_mem_cons.2 ⟨rfl, (fun _ h => by cases h)⟩)⟩)⟩)⟩) rfl hB34 rfl ?_)
    intro w35 hu35 hb35
    have hz35 := hu35.size
    replace hp := hp.upd hu35 fun i h1 h2 h => by have h : i = b34 := h; omega
    replace hc := hc.upd hu35 fun i h1 h2 h => by have h : i = b34 := h; omega
    replace hb := hb.upd hu35 fun i h1 h2 h => by have h : i = b34 := h; omega
    replace hp2 := hp2.upd hu35 fun i h1 h2 h => by have h : i = b34 := h; omega
    replace hc2 := hc2.upd hu35 fun i h1 h2 h => by have h : i = b34 := h; omega
    replace hb2 := hb2.upd hu35 fun i h1 h2 h => by have h : i = b34 := h; omega
    replace hU := hU.trans (hu35.mono fun i _ h => by have h : i = b34 := h; show n0 ≤ i; omega)
    replace hB1 := hB1.upd hu35 fun h => by have h : b1 = b34 := h; omega
    replace hB2 := hB2.upd hu35 fun h => by have h : b2 = b34 := h; omega
    replace hB3 := hB3.upd hu35 fun h => by have h : b3 = b34 := h; omega
    replace hPa := hPa.upd hu35 fun i h1 h2 h => by have h : i = b34 := h; omega
    replace hB8 := hB8.upd hu35 fun h => by have h : b8 = b34 := h; omega
    replace hPb := hPb.upd hu35 fun i h1 h2 h => by have h : i = b34 := h; omega
    replace hB11 := hB11.upd hu35 fun h => by have h : b11 = b34 := h; omega
    replace hB14 := hB14.upd hu35 fun h => by have h : b14 = b34 := h; omega
    replace hB17 := hB17.upd hu35 fun h => by have h : b17 = b34 := h; omega
    replace hPc := hPc.upd hu35 fun i h1 h2 h => by have h : i = b34 := h; omega
    replace hCc := hCc.upd hu35 fun i h1 h2 h => by have h : i = b34 := h; omega
    replace hIc := hIc.upd hu35 fun i h1 h2 h => by have h : i = b34 := h; omega
    replace hB28 := hB28.upd hu35 fun h => by have h : b28 = b34 := h; omega
    replace hPd := hPd.upd hu35 fun i h1 h2 h => by have h : i = b34 := h; omega
    replace hCd := hCd.upd hu35 fun i h1 h2 h => by have h : i = b34 := h; omega
    replace hId := hId.upd hu35 fun i h1 h2 h => by have h : i = b34 := h; omega
    replace hB31 := hB31.upd hu35 fun h => by have h : b31 = b34 := h; omega
    replace hPf := hPf.upd hu35 fun i h1 h2 h => by have h : i = b34 := h; omega
    replace hCf := hCf.upd hu35 fun i h1 h2 h => by have h : i = b34 := h; omega
    replace hIf := hIf.upd hu35 fun i h1 h2 h => by have h : i = b34 := h; omega
    replace hB34 : Blk w35 b34 #[p_f, c_f, i_f, (.bool (off))] 26 := hb35
    refine L_op rfl (X_assign (v := (.int .i64 ((askE ps.length cs bs off 0)))) rfl ?_)
    refine L_nil ?_
    refine T_n ?_
    refine W_seq ?_
    refine W_reg ?_
    refine L_op rfl (X_loadA (p := (ptr b1 (0))) (xs := [pv, cv, bv, (.bool (off))]) A26 rfl hB1.atAll rfl ?_)
    obtain ⟨s_g, hs_g⟩ : ∃ n, n = w35.heap.size := ⟨_, rfl⟩
    refine L_op rfl (X_fn (vs := [(.agg ([pv, cv, bv, (.bool (off))]).toArray)]) en27 rfl (CT.mono (c_flushR pv cv bv ps cs bs off _ 0 n0 (by omega) hp hc hb (by omega) (by omega) (by omega)) ?_))
    rintro _ w36 ⟨p_g, c_g, i_g, q_g, d_g, a_g, rfl, hPg, hCg, hIg, hok_g, hno_g, hu36⟩
    have hz36 := hu36.size
    replace hp := hp.ext hu36
    replace hc := hc.ext hu36
    replace hb := hb.ext hu36
    replace hp2 := hp2.ext hu36
    replace hc2 := hc2.ext hu36
    replace hb2 := hb2.ext hu36
    replace hU := hU.trans (Ext.upd hu36)
    replace hB1 := hB1.ext hu36
    replace hB2 := hB2.ext hu36
    replace hB3 := hB3.ext hu36
    replace hPa := hPa.ext hu36
    replace hB8 := hB8.ext hu36
    replace hPb := hPb.ext hu36
    replace hB11 := hB11.ext hu36
    replace hB14 := hB14.ext hu36
    replace hB17 := hB17.ext hu36
    replace hPc := hPc.ext hu36
    replace hCc := hCc.ext hu36
    replace hIc := hIc.ext hu36
    replace hB28 := hB28.ext hu36
    replace hPd := hPd.ext hu36
    replace hCd := hCd.ext hu36
    replace hId := hId.ext hu36
    replace hB31 := hB31.ext hu36
    replace hPf := hPf.ext hu36
    replace hCf := hCf.ext hu36
    replace hIf := hIf.ext hu36
    replace hB34 := hB34.ext hu36
    obtain ⟨u_g, hu_g⟩ : ∃ n, n = w36.heap.size := ⟨_, rfl⟩
    rw [← hs_g, ← hu_g] at hPg hCg hIg
    refine L_op rfl (X_move (v := (.tuple #[(.agg #[p_g, c_g, i_g, (.bool (off))]), (.int .i64 ((askE ps.length cs bs off 0)))])) rfl ?_)
    refine L_op rfl (X_extract (l := [(.agg #[p_g, c_g, i_g, (.bool (off))]), (.int .i64 ((askE ps.length cs bs off 0)))]) (v := (.agg #[p_g, c_g, i_g, (.bool (off))])) rfl rfl ?_)
    refine L_op rfl (X_extract (l := [(.agg #[p_g, c_g, i_g, (.bool (off))]), (.int .i64 ((askE ps.length cs bs off 0)))]) (v := (.int .i64 ((askE ps.length cs bs off 0)))) rfl rfl ?_)
    refine L_op rfl (X_alloc (z := (.agg #[(.slice none 0 0), (.slice none 0 0), (.slice none 0 0), (.bool (false))])) (c := #[(.slice none 0 0), (.slice none 0 0), (.slice none 0 0), (.bool (false))]) Zv26 rfl ?_)
    intro b37 w37 hn37
    have hbn37 := hn37.num; have hbs37 := hn37.size
    replace hp := hp.ext hn37.ext
    replace hc := hc.ext hn37.ext
    replace hb := hb.ext hn37.ext
    replace hp2 := hp2.ext hn37.ext
    replace hc2 := hc2.ext hn37.ext
    replace hb2 := hb2.ext hn37.ext
    replace hU := hU.trans (Ext.upd hn37.ext)
    replace hB1 := hB1.ext hn37.ext
    replace hB2 := hB2.ext hn37.ext
    replace hB3 := hB3.ext hn37.ext
    replace hPa := hPa.ext hn37.ext
    replace hB8 := hB8.ext hn37.ext
    replace hPb := hPb.ext hn37.ext
    replace hB11 := hB11.ext hn37.ext
    replace hB14 := hB14.ext hn37.ext
    replace hB17 := hB17.ext hn37.ext
    replace hPc := hPc.ext hn37.ext
    replace hCc := hCc.ext hn37.ext
    replace hIc := hIc.ext hn37.ext
    replace hB28 := hB28.ext hn37.ext
    replace hPd := hPd.ext hn37.ext
    replace hCd := hCd.ext hn37.ext
    replace hId := hId.ext hn37.ext
    replace hB31 := hB31.ext hn37.ext
    replace hPf := hPf.ext hn37.ext
    replace hCf := hCf.ext hn37.ext
    replace hIf := hIf.ext hn37.ext
    replace hB34 := hB34.ext hn37.ext
    replace hPg := hPg.ext hn37.ext
    replace hCg := hCg.ext hn37.ext
    replace hIg := hIg.ext hn37.ext
    have hB37 := hn37.blk
    refine L_op0 (X_storeW (b := b37) (ys := [p_g, c_g, i_g, (.bool (off))]) A26 rfl rfl (List.forall_mem_cons.2 ⟨(hPg.1.sv.one), (List.forall_mem_cons.2 ⟨(hCg.1.sv.one), (List.forall_mem_cons.2 ⟨(hIg.1.sv.one), (List.forall_mem_cons.2 ⟨rfl, (fun _ h => by cases h)⟩)⟩)⟩)⟩) rfl hB37 rfl ?_)
    intro w38 hu38 hb38
    have hz38 := hu38.size
    replace hp := hp.upd hu38 fun i h1 h2 h => by have h : i = b37 := h; omega
    replace hc := hc.upd hu38 fun i h1 h2 h => by have h : i = b37 := h; omega
    replace hb := hb.upd hu38 fun i h1 h2 h => by have h : i = b37 := h; omega
    replace hp2 := hp2.upd hu38 fun i h1 h2 h => by have h : i = b37 := h; omega
    replace hc2 := hc2.upd hu38 fun i h1 h2 h => by have h : i = b37 := h; omega
    replace hb2 := hb2.upd hu38 fun i h1 h2 h => by have h : i = b37 := h; omega
    replace hU := hU.trans (hu38.mono fun i _ h => by have h : i = b37 := h; show n0 ≤ i; omega)
    replace hB1 := hB1.upd hu38 fun h => by have h : b1 = b37 := h; omega
    replace hB2 := hB2.upd hu38 fun h => by have h : b2 = b37 := h; omega
    replace hB3 := hB3.upd hu38 fun h => by have h : b3 = b37 := h; omega
    replace hPa := hPa.upd hu38 fun i h1 h2 h => by have h : i = b37 := h; omega
    replace hB8 := hB8.upd hu38 fun h => by have h : b8 = b37 := h; omega
    replace hPb := hPb.upd hu38 fun i h1 h2 h => by have h : i = b37 := h; omega
    replace hB11 := hB11.upd hu38 fun h => by have h : b11 = b37 := h; omega
    replace hB14 := hB14.upd hu38 fun h => by have h : b14 = b37 := h; omega
    replace hB17 := hB17.upd hu38 fun h => by have h : b17 = b37 := h; omega
    replace hPc := hPc.upd hu38 fun i h1 h2 h => by have h : i = b37 := h; omega
    replace hCc := hCc.upd hu38 fun i h1 h2 h => by have h : i = b37 := h; omega
    replace hIc := hIc.upd hu38 fun i h1 h2 h => by have h : i = b37 := h; omega
    replace hB28 := hB28.upd hu38 fun h => by have h : b28 = b37 := h; omega
    replace hPd := hPd.upd hu38 fun i h1 h2 h => by have h : i = b37 := h; omega
    replace hCd := hCd.upd hu38 fun i h1 h2 h => by have h : i = b37 := h; omega
    replace hId := hId.upd hu38 fun i h1 h2 h => by have h : i = b37 := h; omega
    replace hB31 := hB31.upd hu38 fun h => by have h : b31 = b37 := h; omega
    replace hPf := hPf.upd hu38 fun i h1 h2 h => by have h : i = b37 := h; omega
    replace hCf := hCf.upd hu38 fun i h1 h2 h => by have h : i = b37 := h; omega
    replace hIf := hIf.upd hu38 fun i h1 h2 h => by have h : i = b37 := h; omega
    replace hB34 := hB34.upd hu38 fun h => by have h : b34 = b37 := h; omega
    replace hPg := hPg.upd hu38 fun i h1 h2 h => by have h : i = b37 := h; omega
    replace hCg := hCg.upd hu38 fun i h1 h2 h => by have h : i = b37 := h; omega
    replace hIg := hIg.upd hu38 fun i h1 h2 h => by have h : i = b37 := h; omega
    replace hB37 : Blk w38 b37 #[p_g, c_g, i_g, (.bool (off))] 26 := hb38
    refine L_op rfl (X_assign (v := (.int .i64 ((askE ps.length cs bs off 0)))) rfl ?_)
    refine L_nil ?_
    refine T_n ?_
    refine W_seq ?_
    obtain ⟨s8, hs8⟩ : ∃ n, n = w38.heap.size := ⟨_, rfl⟩
    have hfe : q_f = q_g ∧ d_f = d_g ∧ a_f = a_g := by
      by_cases h0 : askE ps.length cs bs off 0 = 0
      · obtain ⟨h1, h2, h3⟩ := hok_f h0
        obtain ⟨h4, h5, h6⟩ := hok_g h0
        exact ⟨h1.trans h4.symm, h2.trans h5.symm, h3.trans h6.symm⟩
      · obtain ⟨h1, h2, h3⟩ := hno_f h0
        obtain ⟨h4, h5, h6⟩ := hno_g h0
        exact ⟨h1.trans h4.symm, h2.trans h5.symm, h3.trans h6.symm⟩
    refine W_draw 22 [[], [], [0, 1], [0, 1, 2], [0, 1, 2, 3], [0, 1, 2, 3], [0, 1, 2, 3, 4, 5], [0, 1, 2, 3, 4, 5, 6], [0, 1, 2, 3, 4, 5, 6, 7], [0, 1, 2, 3, 4, 5, 6, 7, 8], [0, 1, 2, 3, 4, 5, 6, 7, 8], [0, 1, 2, 3, 4, 5, 6, 7, 8, 9, 10], [0, 1, 2, 3, 4, 5, 6, 7, 8, 9, 10, 11], [0, 1, 2, 3, 4, 5, 6, 7, 8, 9, 10, 11, 12], [0, 1, 2, 3, 4, 5, 6, 7, 8, 9, 10, 11, 12, 13], [0, 1, 2, 3, 4, 5, 6, 7, 8, 9, 10, 11, 12, 13], [0, 1, 2, 3, 4, 5, 6, 7, 8, 9, 10, 11, 12, 13, 14, 15], [0, 1, 2, 3, 4, 5, 6, 7, 8, 9, 10, 11, 12, 13, 14, 15, 16], [0, 1, 2, 3, 4, 5, 6, 7, 8, 9, 10, 11, 12, 13, 14, 15, 16, 17], [0, 1, 2, 3, 4, 5, 6, 7, 8, 9, 10, 11, 12, 13, 14, 15, 16, 17, 18], [0, 1, 2, 3, 4, 5, 6, 7, 8, 9, 10, 11, 12, 13, 14, 15, 16, 17, 18, 19], [0, 1, 2, 3, 4, 5, 6, 7, 8, 9, 10, 11, 12, 13, 14, 15, 16, 17, 18], [0, 1, 2, 3, 4, 5, 6, 7, 8, 9, 10, 11, 12, 13, 14, 15, 16, 17, 18, 19, 20, 21], [0, 1, 2, 3, 4, 5, 6, 7, 8, 9, 10, 11, 12, 13, 14, 15, 16, 17, 18, 19, 20, 21, 22], [0, 1, 2, 3, 4, 5, 6, 7, 8, 9, 10, 11, 12, 13, 14, 15, 16, 17, 18, 19, 20, 21, 22, 23], [0, 1, 2, 3, 4, 5, 6, 7, 8, 9, 10, 11, 12, 13, 14, 15, 16, 17, 18, 19, 20, 21, 22, 23, 24], [0, 1, 2, 3, 4, 5, 6, 7, 8, 9, 10, 11, 12, 13, 14, 15, 16, 17, 18, 19, 20, 21, 22, 23, 24, 25], [0, 1, 2, 3, 4, 5, 6, 7, 8, 9, 10, 11, 12, 13, 14, 15, 16, 17, 18, 19, 20, 21, 22, 23, 24, 25, 26]] mixed (by kernel_rfl) ?_
    refine ⟨.det (fun val => (.agg ([p_c, c_c, i_c, (.bool (off))]).toArray)), ⟨fun _ _ hv => rfl, fun _ _ _ _ _ => trivial⟩, fun val h_ W hx he => ⟨trivial, ?_⟩, ?_⟩
    · replace hx := (Upd.drew _ _).trans hx
      replace hp := hp.ext hx
      replace hc := hc.ext hx
      replace hb := hb.ext hx
      replace hp2 := hp2.ext hx
      replace hc2 := hc2.ext hx
      replace hb2 := hb2.ext hx
      replace hB1 := hB1.ext hx
      replace hB2 := hB2.ext hx
      replace hB3 := hB3.ext hx
      replace hPa := hPa.ext hx
      replace hB8 := hB8.ext hx
      replace hPb := hPb.ext hx
      replace hB11 := hB11.ext hx
      replace hB14 := hB14.ext hx
      replace hB17 := hB17.ext hx
      replace hPc := hPc.ext hx
      replace hCc := hCc.ext hx
      replace hIc := hIc.ext hx
      replace hB28 := hB28.ext hx
      replace hPd := hPd.ext hx
      replace hCd := hCd.ext hx
      replace hId := hId.ext hx
      replace hB31 := hB31.ext hx
      replace hPf := hPf.ext hx
      replace hCf := hCf.ext hx
      replace hIf := hIf.ext hx
      replace hB34 := hB34.ext hx
      replace hPg := hPg.ext hx
      replace hCg := hCg.ext hx
      replace hIg := hIg.ext hx
      replace hB37 := hB37.ext hx
      have hE := Upd.refl (fun _ => False) W
      refine id (X_loadA (p := (ptr b28 (0))) (xs := [p_c, c_c, i_c, (.bool (off))]) A26 rfl hB28.atAll rfl ?_)
      exact ⟨hE, rfl⟩
    refine ⟨.det (fun val => (.agg ([p_d, c_d, i_d, (.bool (off))]).toArray)), ⟨fun _ _ hv => rfl, fun _ _ _ _ _ => trivial⟩, fun val h_ W hx he => ⟨trivial, ?_⟩, ?_⟩
    · replace hx := (Upd.drew _ _).trans hx
      replace hp := hp.ext hx
      replace hc := hc.ext hx
      replace hb := hb.ext hx
      replace hp2 := hp2.ext hx
      replace hc2 := hc2.ext hx
      replace hb2 := hb2.ext hx
      replace hB1 := hB1.ext hx
      replace hB2 := hB2.ext hx
      replace hB3 := hB3.ext hx
      replace hPa := hPa.ext hx
      replace hB8 := hB8.ext hx
      replace hPb := hPb.ext hx
      replace hB11 := hB11.ext hx
      replace hB14 := hB14.ext hx
      replace hB17 := hB17.ext hx
      replace hPc := hPc.ext hx
      replace hCc := hCc.ext hx
      replace hIc := hIc.ext hx
      replace hB28 := hB28.ext hx
      replace hPd := hPd.ext hx
      replace hCd := hCd.ext hx
      replace hId := hId.ext hx
      replace hB31 := hB31.ext hx
      replace hPf := hPf.ext hx
      replace hCf := hCf.ext hx
      replace hIf := hIf.ext hx
      replace hB34 := hB34.ext hx
      replace hPg := hPg.ext hx
      replace hCg := hCg.ext hx
      replace hIg := hIg.ext hx
      replace hB37 := hB37.ext hx
      have hE := Upd.refl (fun _ => False) W
      refine id (X_loadA (p := (ptr b31 (0))) (xs := [p_d, c_d, i_d, (.bool (off))]) A26 rfl hB31.atAll rfl ?_)
      exact ⟨hE, rfl⟩
    refine ⟨.det (fun val => (.bool (true))), ⟨fun _ _ hv => rfl, fun _ _ _ _ _ => trivial⟩, fun val h_ W hx he => ⟨trivial, ?_⟩, ?_⟩
    · replace hx := (Upd.drew _ _).trans hx
      replace hp := hp.ext hx
      replace hc := hc.ext hx
      replace hb := hb.ext hx
      replace hp2 := hp2.ext hx
      replace hc2 := hc2.ext hx
      replace hb2 := hb2.ext hx
      replace hB1 := hB1.ext hx
      replace hB2 := hB2.ext hx
      replace hB3 := hB3.ext hx
      replace hPa := hPa.ext hx
      replace hB8 := hB8.ext hx
      replace hPb := hPb.ext hx
      replace hB11 := hB11.ext hx
      replace hB14 := hB14.ext hx
      replace hB17 := hB17.ext hx
      replace hPc := hPc.ext hx
      replace hCc := hCc.ext hx
      replace hIc := hIc.ext hx
      replace hB28 := hB28.ext hx
      replace hPd := hPd.ext hx
      replace hCd := hCd.ext hx
      replace hId := hId.ext hx
      replace hB31 := hB31.ext hx
      replace hPf := hPf.ext hx
      replace hCf := hCf.ext hx
      replace hIf := hIf.ext hx
      replace hB34 := hB34.ext hx
      replace hPg := hPg.ext hx
      replace hCg := hCg.ext hx
      replace hIg := hIg.ext hx
      replace hB37 := hB37.ext hx
      have hE := Upd.refl (fun _ => False) W
      refine id (X_fn (vs := [(.agg ([p_c, c_c, i_c, (.bool (off))]).toArray), (.agg ([p_d, c_d, i_d, (.bool (off))]).toArray)]) en18 rfl (CT.mono (c_same p_c c_c i_c ps (writeC ps.length cs bs off n p) bs off p_d c_d i_d ps (writeC ps.length cs bs off n p) bs off _ s_c u_c s_d u_d hPc.rd hCc.rd hIc.rd hPd.rd hCd.rd hId.rd) ?_))
      rintro _ w40 ⟨⟨g40, rfl, hg40⟩, hu40⟩
      have hz40 := hu40.size
      replace hp := hp.ext hu40
      replace hc := hc.ext hu40
      replace hb := hb.ext hu40
      replace hp2 := hp2.ext hu40
      replace hc2 := hc2.ext hu40
      replace hb2 := hb2.ext hu40
      replace hB1 := hB1.ext hu40
      replace hB2 := hB2.ext hu40
      replace hB3 := hB3.ext hu40
      replace hPa := hPa.ext hu40
      replace hB8 := hB8.ext hu40
      replace hPb := hPb.ext hu40
      replace hB11 := hB11.ext hu40
      replace hB14 := hB14.ext hu40
      replace hB17 := hB17.ext hu40
      replace hPc := hPc.ext hu40
      replace hCc := hCc.ext hu40
      replace hIc := hIc.ext hu40
      replace hB28 := hB28.ext hu40
      replace hPd := hPd.ext hu40
      replace hCd := hCd.ext hu40
      replace hId := hId.ext hu40
      replace hB31 := hB31.ext hu40
      replace hPf := hPf.ext hu40
      replace hCf := hCf.ext hu40
      replace hIf := hIf.ext hu40
      replace hB34 := hB34.ext hu40
      replace hPg := hPg.ext hu40
      replace hCg := hCg.ext hu40
      replace hIg := hIg.ext hu40
      replace hB37 := hB37.ext hu40
      replace hE := hE.trans (Ext.upd hu40)
      obtain rfl : g40 = true := hg40.2 ⟨rfl, rfl, rfl, rfl⟩
      exact ⟨hE, rfl⟩
    refine ⟨.det (fun val => (.bool (true))), ⟨fun _ _ hv => rfl, fun _ _ _ _ _ => trivial⟩, fun val h_ W hx he => ⟨trivial, ?_⟩, ?_⟩
    · replace hx := (Upd.drew _ _).trans hx
      replace hp := hp.ext hx
      replace hc := hc.ext hx
      replace hb := hb.ext hx
      replace hp2 := hp2.ext hx
      replace hc2 := hc2.ext hx
      replace hb2 := hb2.ext hx
      replace hB1 := hB1.ext hx
      replace hB2 := hB2.ext hx
      replace hB3 := hB3.ext hx
      replace hPa := hPa.ext hx
      replace hB8 := hB8.ext hx
      replace hPb := hPb.ext hx
      replace hB11 := hB11.ext hx
      replace hB14 := hB14.ext hx
      replace hB17 := hB17.ext hx
      replace hPc := hPc.ext hx
      replace hCc := hCc.ext hx
      replace hIc := hIc.ext hx
      replace hB28 := hB28.ext hx
      replace hPd := hPd.ext hx
      replace hCd := hCd.ext hx
      replace hId := hId.ext hx
      replace hB31 := hB31.ext hx
      replace hPf := hPf.ext hx
      replace hCf := hCf.ext hx
      replace hIf := hIf.ext hx
      replace hB34 := hB34.ext hx
      replace hPg := hPg.ext hx
      replace hCg := hCg.ext hx
      replace hIg := hIg.ext hx
      replace hB37 := hB37.ext hx
      have hE := Upd.refl (fun _ => False) W
      refine id (X_move (v := (.bool (true))) rfl ?_)
      exact ⟨hE, rfl⟩
    refine ⟨.det (fun val => (.int .i64 ((wrE ps.length cs bs off n)))), ⟨fun _ _ hv => rfl, fun _ _ _ _ _ => trivial⟩, fun val h_ W hx he => ⟨⟨120, rfl, rfl⟩, ?_⟩, ?_⟩
    · replace hx := (Upd.drew _ _).trans hx
      replace hp := hp.ext hx
      replace hc := hc.ext hx
      replace hb := hb.ext hx
      replace hp2 := hp2.ext hx
      replace hc2 := hc2.ext hx
      replace hb2 := hb2.ext hx
      replace hB1 := hB1.ext hx
      replace hB2 := hB2.ext hx
      replace hB3 := hB3.ext hx
      replace hPa := hPa.ext hx
      replace hB8 := hB8.ext hx
      replace hPb := hPb.ext hx
      replace hB11 := hB11.ext hx
      replace hB14 := hB14.ext hx
      replace hB17 := hB17.ext hx
      replace hPc := hPc.ext hx
      replace hCc := hCc.ext hx
      replace hIc := hIc.ext hx
      replace hB28 := hB28.ext hx
      replace hPd := hPd.ext hx
      replace hCd := hCd.ext hx
      replace hId := hId.ext hx
      replace hB31 := hB31.ext hx
      replace hPf := hPf.ext hx
      replace hCf := hCf.ext hx
      replace hIf := hIf.ext hx
      replace hB34 := hB34.ext hx
      replace hPg := hPg.ext hx
      replace hCg := hCg.ext hx
      replace hIg := hIg.ext hx
      replace hB37 := hB37.ext hx
      have hE := Upd.refl (fun _ => False) W
      refine id (X_move (v := (.int .i64 ((wrE ps.length cs bs off n)))) rfl ?_)
      exact ⟨hE, rfl⟩
    refine ⟨.det (fun val => (.int .i64 ((wrE ps.length cs bs off n)))), ⟨fun _ _ hv => rfl, fun _ _ _ _ _ => trivial⟩, fun val h_ W hx he => ⟨⟨120, rfl, rfl⟩, ?_⟩, ?_⟩
    · replace hx := (Upd.drew _ _).trans hx
      replace hp := hp.ext hx
      replace hc := hc.ext hx
      replace hb := hb.ext hx
      replace hp2 := hp2.ext hx
      replace hc2 := hc2.ext hx
      replace hb2 := hb2.ext hx
      replace hB1 := hB1.ext hx
      replace hB2 := hB2.ext hx
      replace hB3 := hB3.ext hx
      replace hPa := hPa.ext hx
      replace hB8 := hB8.ext hx
      replace hPb := hPb.ext hx
      replace hB11 := hB11.ext hx
      replace hB14 := hB14.ext hx
      replace hB17 := hB17.ext hx
      replace hPc := hPc.ext hx
      replace hCc := hCc.ext hx
      replace hIc := hIc.ext hx
      replace hB28 := hB28.ext hx
      replace hPd := hPd.ext hx
      replace hCd := hCd.ext hx
      replace hId := hId.ext hx
      replace hB31 := hB31.ext hx
      replace hPf := hPf.ext hx
      replace hCf := hCf.ext hx
      replace hIf := hIf.ext hx
      replace hB34 := hB34.ext hx
      replace hPg := hPg.ext hx
      replace hCg := hCg.ext hx
      replace hIg := hIg.ext hx
      replace hB37 := hB37.ext hx
      have hE := Upd.refl (fun _ => False) W
      refine id (X_move (v := (.int .i64 ((wrE ps.length cs bs off n)))) rfl ?_)
      exact ⟨hE, rfl⟩
    refine ⟨.det (fun val => (.bool (true))), ⟨fun _ _ hv => rfl, fun _ _ _ _ _ => trivial⟩, fun val h_ W hx he => ⟨⟨120, rfl, rfl⟩, ?_⟩, ?_⟩
    · replace hx := (Upd.drew _ _).trans hx
      replace hp := hp.ext hx
      replace hc := hc.ext hx
      replace hb := hb.ext hx
      replace hp2 := hp2.ext hx
      replace hc2 := hc2.ext hx
      replace hb2 := hb2.ext hx
      replace hB1 := hB1.ext hx
      replace hB2 := hB2.ext hx
      replace hB3 := hB3.ext hx
      replace hPa := hPa.ext hx
      replace hB8 := hB8.ext hx
      replace hPb := hPb.ext hx
      replace hB11 := hB11.ext hx
      replace hB14 := hB14.ext hx
      replace hB17 := hB17.ext hx
      replace hPc := hPc.ext hx
      replace hCc := hCc.ext hx
      replace hIc := hIc.ext hx
      replace hB28 := hB28.ext hx
      replace hPd := hPd.ext hx
      replace hCd := hCd.ext hx
      replace hId := hId.ext hx
      replace hB31 := hB31.ext hx
      replace hPf := hPf.ext hx
      replace hCf := hCf.ext hx
      replace hIf := hIf.ext hx
      replace hB34 := hB34.ext hx
      replace hPg := hPg.ext hx
      replace hCg := hCg.ext hx
      replace hIg := hIg.ext hx
      replace hB37 := hB37.ext hx
      have hE := Upd.refl (fun _ => False) W
      refine id (X_cmp (k := .i64) (a := (wrE ps.length cs bs off n)) (b := (wrE ps.length cs bs off n)) (r := true) rfl rfl rfl (decide_eq_true (p := (((wrE ps.length cs bs off n)) : Int) = (((wrE ps.length cs bs off n)) : Int)) (by omega)) ?_)
      exact ⟨hE, rfl⟩
    refine ⟨.det (fun val => (.bool (true))), ⟨fun _ _ hv => rfl, fun _ _ _ _ _ => trivial⟩, fun val h_ W hx he => ⟨trivial, ?_⟩, ?_⟩
    · replace hx := (Upd.drew _ _).trans hx
      replace hp := hp.ext hx
      replace hc := hc.ext hx
      replace hb := hb.ext hx
      replace hp2 := hp2.ext hx
      replace hc2 := hc2.ext hx
      replace hb2 := hb2.ext hx
      replace hB1 := hB1.ext hx
      replace hB2 := hB2.ext hx
      replace hB3 := hB3.ext hx
      replace hPa := hPa.ext hx
      replace hB8 := hB8.ext hx
      replace hPb := hPb.ext hx
      replace hB11 := hB11.ext hx
      replace hB14 := hB14.ext hx
      replace hB17 := hB17.ext hx
      replace hPc := hPc.ext hx
      replace hCc := hCc.ext hx
      replace hIc := hIc.ext hx
      replace hB28 := hB28.ext hx
      replace hPd := hPd.ext hx
      replace hCd := hCd.ext hx
      replace hId := hId.ext hx
      replace hB31 := hB31.ext hx
      replace hPf := hPf.ext hx
      replace hCf := hCf.ext hx
      replace hIf := hIf.ext hx
      replace hB34 := hB34.ext hx
      replace hPg := hPg.ext hx
      replace hCg := hCg.ext hx
      replace hIg := hIg.ext hx
      replace hB37 := hB37.ext hx
      have hE := Upd.refl (fun _ => False) W
      refine id (X_pick (t := true) (v := (.bool (true))) rfl rfl ?_)
      exact ⟨hE, rfl⟩
    refine ⟨.det (fun val => (.bool (true))), ⟨fun _ _ hv => rfl, fun _ _ _ _ _ => trivial⟩, fun val h_ W hx he => ⟨trivial, ?_⟩, ?_⟩
    · replace hx := (Upd.drew _ _).trans hx
      replace hp := hp.ext hx
      replace hc := hc.ext hx
      replace hb := hb.ext hx
      replace hp2 := hp2.ext hx
      replace hc2 := hc2.ext hx
      replace hb2 := hb2.ext hx
      replace hB1 := hB1.ext hx
      replace hB2 := hB2.ext hx
      replace hB3 := hB3.ext hx
      replace hPa := hPa.ext hx
      replace hB8 := hB8.ext hx
      replace hPb := hPb.ext hx
      replace hB11 := hB11.ext hx
      replace hB14 := hB14.ext hx
      replace hB17 := hB17.ext hx
      replace hPc := hPc.ext hx
      replace hCc := hCc.ext hx
      replace hIc := hIc.ext hx
      replace hB28 := hB28.ext hx
      replace hPd := hPd.ext hx
      replace hCd := hCd.ext hx
      replace hId := hId.ext hx
      replace hB31 := hB31.ext hx
      replace hPf := hPf.ext hx
      replace hCf := hCf.ext hx
      replace hIf := hIf.ext hx
      replace hB34 := hB34.ext hx
      replace hPg := hPg.ext hx
      replace hCg := hCg.ext hx
      replace hIg := hIg.ext hx
      replace hB37 := hB37.ext hx
      have hE := Upd.refl (fun _ => False) W
      refine id (X_move (v := (.bool (true))) rfl ?_)
      exact ⟨hE, rfl⟩
    refine ⟨.det (fun val => (.agg ([p_f, c_f, i_f, (.bool (off))]).toArray)), ⟨fun _ _ hv => rfl, fun _ _ _ _ _ => trivial⟩, fun val h_ W hx he => ⟨⟨125, rfl, rfl⟩, ?_⟩, ?_⟩
    · replace hx := (Upd.drew _ _).trans hx
      replace hp := hp.ext hx
      replace hc := hc.ext hx
      replace hb := hb.ext hx
      replace hp2 := hp2.ext hx
      replace hc2 := hc2.ext hx
      replace hb2 := hb2.ext hx
      replace hB1 := hB1.ext hx
      replace hB2 := hB2.ext hx
      replace hB3 := hB3.ext hx
      replace hPa := hPa.ext hx
      replace hB8 := hB8.ext hx
      replace hPb := hPb.ext hx
      replace hB11 := hB11.ext hx
      replace hB14 := hB14.ext hx
      replace hB17 := hB17.ext hx
      replace hPc := hPc.ext hx
      replace hCc := hCc.ext hx
      replace hIc := hIc.ext hx
      replace hB28 := hB28.ext hx
      replace hPd := hPd.ext hx
      replace hCd := hCd.ext hx
      replace hId := hId.ext hx
      replace hB31 := hB31.ext hx
      replace hPf := hPf.ext hx
      replace hCf := hCf.ext hx
      replace hIf := hIf.ext hx
      replace hB34 := hB34.ext hx
      replace hPg := hPg.ext hx
      replace hCg := hCg.ext hx
      replace hIg := hIg.ext hx
      replace hB37 := hB37.ext hx
      have hE := Upd.refl (fun _ => False) W
      refine id (X_loadA (p := (ptr b34 (0))) (xs := [p_f, c_f, i_f, (.bool (off))]) A26 rfl hB34.atAll rfl ?_)
      exact ⟨hE, rfl⟩
    refine ⟨.det (fun val => (.agg ([p_g, c_g, i_g, (.bool (off))]).toArray)), ⟨fun _ _ hv => rfl, fun _ _ _ _ _ => trivial⟩, fun val h_ W hx he => ⟨⟨125, rfl, rfl⟩, ?_⟩, ?_⟩
    · replace hx := (Upd.drew _ _).trans hx
      replace hp := hp.ext hx
      replace hc := hc.ext hx
      replace hb := hb.ext hx
      replace hp2 := hp2.ext hx
      replace hc2 := hc2.ext hx
      replace hb2 := hb2.ext hx
      replace hB1 := hB1.ext hx
      replace hB2 := hB2.ext hx
      replace hB3 := hB3.ext hx
      replace hPa := hPa.ext hx
      replace hB8 := hB8.ext hx
      replace hPb := hPb.ext hx
      replace hB11 := hB11.ext hx
      replace hB14 := hB14.ext hx
      replace hB17 := hB17.ext hx
      replace hPc := hPc.ext hx
      replace hCc := hCc.ext hx
      replace hIc := hIc.ext hx
      replace hB28 := hB28.ext hx
      replace hPd := hPd.ext hx
      replace hCd := hCd.ext hx
      replace hId := hId.ext hx
      replace hB31 := hB31.ext hx
      replace hPf := hPf.ext hx
      replace hCf := hCf.ext hx
      replace hIf := hIf.ext hx
      replace hB34 := hB34.ext hx
      replace hPg := hPg.ext hx
      replace hCg := hCg.ext hx
      replace hIg := hIg.ext hx
      replace hB37 := hB37.ext hx
      have hE := Upd.refl (fun _ => False) W
      refine id (X_loadA (p := (ptr b37 (0))) (xs := [p_g, c_g, i_g, (.bool (off))]) A26 rfl hB37.atAll rfl ?_)
      exact ⟨hE, rfl⟩
    refine ⟨.det (fun val => (.bool (true))), ⟨fun _ _ hv => rfl, fun _ _ _ _ _ => trivial⟩, fun val h_ W hx he => ⟨⟨125, rfl, rfl⟩, ?_⟩, ?_⟩
    · replace hx := (Upd.drew _ _).trans hx
      replace hp := hp.ext hx
      replace hc := hc.ext hx
      replace hb := hb.ext hx
      replace hp2 := hp2.ext hx
      replace hc2 := hc2.ext hx
      replace hb2 := hb2.ext hx
      replace hB1 := hB1.ext hx
      replace hB2 := hB2.ext hx
      replace hB3 := hB3.ext hx
      replace hPa := hPa.ext hx
      replace hB8 := hB8.ext hx
      replace hPb := hPb.ext hx
      replace hB11 := hB11.ext hx
      replace hB14 := hB14.ext hx
      replace hB17 := hB17.ext hx
      replace hPc := hPc.ext hx
      replace hCc := hCc.ext hx
      replace hIc := hIc.ext hx
      replace hB28 := hB28.ext hx
      replace hPd := hPd.ext hx
      replace hCd := hCd.ext hx
      replace hId := hId.ext hx
      replace hB31 := hB31.ext hx
      replace hPf := hPf.ext hx
      replace hCf := hCf.ext hx
      replace hIf := hIf.ext hx
      replace hB34 := hB34.ext hx
      replace hPg := hPg.ext hx
      replace hCg := hCg.ext hx
      replace hIg := hIg.ext hx
      replace hB37 := hB37.ext hx
      have hE := Upd.refl (fun _ => False) W
      refine id (X_fn (vs := [(.agg ([p_f, c_f, i_f, (.bool (off))]).toArray), (.agg ([p_g, c_g, i_g, (.bool (off))]).toArray)]) en18 rfl (CT.mono (c_same p_f c_f i_f q_f d_f a_f off p_g c_g i_g q_g d_g a_g off _ s_f u_f s_g u_g hPf.rd hCf.rd hIf.rd hPg.rd hCg.rd hIg.rd) ?_))
      rintro _ w41 ⟨⟨g41, rfl, hg41⟩, hu41⟩
      have hz41 := hu41.size
      replace hp := hp.ext hu41
      replace hc := hc.ext hu41
      replace hb := hb.ext hu41
      replace hp2 := hp2.ext hu41
      replace hc2 := hc2.ext hu41
      replace hb2 := hb2.ext hu41
      replace hB1 := hB1.ext hu41
      replace hB2 := hB2.ext hu41
      replace hB3 := hB3.ext hu41
      replace hPa := hPa.ext hu41
      replace hB8 := hB8.ext hu41
      replace hPb := hPb.ext hu41
      replace hB11 := hB11.ext hu41
      replace hB14 := hB14.ext hu41
      replace hB17 := hB17.ext hu41
      replace hPc := hPc.ext hu41
      replace hCc := hCc.ext hu41
      replace hIc := hIc.ext hu41
      replace hB28 := hB28.ext hu41
      replace hPd := hPd.ext hu41
      replace hCd := hCd.ext hu41
      replace hId := hId.ext hu41
      replace hB31 := hB31.ext hu41
      replace hPf := hPf.ext hu41
      replace hCf := hCf.ext hu41
      replace hIf := hIf.ext hu41
      replace hB34 := hB34.ext hu41
      replace hPg := hPg.ext hu41
      replace hCg := hCg.ext hu41
      replace hIg := hIg.ext hu41
      replace hB37 := hB37.ext hu41
      replace hE := hE.trans (Ext.upd hu41)
      obtain rfl : g41 = true := hg41.2 ⟨hfe.1, hfe.2.1, hfe.2.2, rfl⟩
      exact ⟨hE, rfl⟩
    refine ⟨.det (fun val => (.bool (true))), ⟨fun _ _ hv => rfl, fun _ _ _ _ _ => trivial⟩, fun val h_ W hx he => ⟨trivial, ?_⟩, ?_⟩
    · replace hx := (Upd.drew _ _).trans hx
      replace hp := hp.ext hx
      replace hc := hc.ext hx
      replace hb := hb.ext hx
      replace hp2 := hp2.ext hx
      replace hc2 := hc2.ext hx
      replace hb2 := hb2.ext hx
      replace hB1 := hB1.ext hx
      replace hB2 := hB2.ext hx
      replace hB3 := hB3.ext hx
      replace hPa := hPa.ext hx
      replace hB8 := hB8.ext hx
      replace hPb := hPb.ext hx
      replace hB11 := hB11.ext hx
      replace hB14 := hB14.ext hx
      replace hB17 := hB17.ext hx
      replace hPc := hPc.ext hx
      replace hCc := hCc.ext hx
      replace hIc := hIc.ext hx
      replace hB28 := hB28.ext hx
      replace hPd := hPd.ext hx
      replace hCd := hCd.ext hx
      replace hId := hId.ext hx
      replace hB31 := hB31.ext hx
      replace hPf := hPf.ext hx
      replace hCf := hCf.ext hx
      replace hIf := hIf.ext hx
      replace hB34 := hB34.ext hx
      replace hPg := hPg.ext hx
      replace hCg := hCg.ext hx
      replace hIg := hIg.ext hx
      replace hB37 := hB37.ext hx
      have hE := Upd.refl (fun _ => False) W
      refine id (X_pick (t := true) (v := (.bool (true))) rfl rfl ?_)
      exact ⟨hE, rfl⟩
    refine ⟨.det (fun val => (.bool (true))), ⟨fun _ _ hv => rfl, fun _ _ _ _ _ => trivial⟩, fun val h_ W hx he => ⟨trivial, ?_⟩, ?_⟩
    · replace hx := (Upd.drew _ _).trans hx
      replace hp := hp.ext hx
      replace hc := hc.ext hx
      replace hb := hb.ext hx
      replace hp2 := hp2.ext hx
      replace hc2 := hc2.ext hx
      replace hb2 := hb2.ext hx
      replace hB1 := hB1.ext hx
      replace hB2 := hB2.ext hx
      replace hB3 := hB3.ext hx
      replace hPa := hPa.ext hx
      replace hB8 := hB8.ext hx
      replace hPb := hPb.ext hx
      replace hB11 := hB11.ext hx
      replace hB14 := hB14.ext hx
      replace hB17 := hB17.ext hx
      replace hPc := hPc.ext hx
      replace hCc := hCc.ext hx
      replace hIc := hIc.ext hx
      replace hB28 := hB28.ext hx
      replace hPd := hPd.ext hx
      replace hCd := hCd.ext hx
      replace hId := hId.ext hx
      replace hB31 := hB31.ext hx
      replace hPf := hPf.ext hx
      replace hCf := hCf.ext hx
      replace hIf := hIf.ext hx
      replace hB34 := hB34.ext hx
      replace hPg := hPg.ext hx
      replace hCg := hCg.ext hx
      replace hIg := hIg.ext hx
      replace hB37 := hB37.ext hx
      have hE := Upd.refl (fun _ => False) W
      refine id (X_move (v := (.bool (true))) rfl ?_)
      exact ⟨hE, rfl⟩
    refine ⟨.det (fun val => (.int .i64 ((askE ps.length cs bs off 0)))), ⟨fun _ _ hv => rfl, fun _ _ _ _ _ => trivial⟩, fun val h_ W hx he => ⟨⟨130, rfl, rfl⟩, ?_⟩, ?_⟩
    · replace hx := (Upd.drew _ _).trans hx
      replace hp := hp.ext hx
      replace hc := hc.ext hx
      replace hb := hb.ext hx
      replace hp2 := hp2.ext hx
      replace hc2 := hc2.ext hx
      replace hb2 := hb2.ext hx
      replace hB1 := hB1.ext hx
      replace hB2 := hB2.ext hx
      replace hB3 := hB3.ext hx
      replace hPa := hPa.ext hx
      replace hB8 := hB8.ext hx
      replace hPb := hPb.ext hx
      replace hB11 := hB11.ext hx
      replace hB14 := hB14.ext hx
      replace hB17 := hB17.ext hx
      replace hPc := hPc.ext hx
      replace hCc := hCc.ext hx
      replace hIc := hIc.ext hx
      replace hB28 := hB28.ext hx
      replace hPd := hPd.ext hx
      replace hCd := hCd.ext hx
      replace hId := hId.ext hx
      replace hB31 := hB31.ext hx
      replace hPf := hPf.ext hx
      replace hCf := hCf.ext hx
      replace hIf := hIf.ext hx
      replace hB34 := hB34.ext hx
      replace hPg := hPg.ext hx
      replace hCg := hCg.ext hx
      replace hIg := hIg.ext hx
      replace hB37 := hB37.ext hx
      have hE := Upd.refl (fun _ => False) W
      refine id (X_move (v := (.int .i64 ((askE ps.length cs bs off 0)))) rfl ?_)
      exact ⟨hE, rfl⟩
    refine ⟨.det (fun val => (.int .i64 ((askE ps.length cs bs off 0)))), ⟨fun _ _ hv => rfl, fun _ _ _ _ _ => trivial⟩, fun val h_ W hx he => ⟨⟨130, rfl, rfl⟩, ?_⟩, ?_⟩
    · replace hx := (Upd.drew _ _).trans hx
      replace hp := hp.ext hx
      replace hc := hc.ext hx
      replace hb := hb.ext hx
      replace hp2 := hp2.ext hx
      replace hc2 := hc2.ext hx
      replace hb2 := hb2.ext hx
      replace hB1 := hB1.ext hx
      replace hB2 := hB2.ext hx
      replace hB3 := hB3.ext hx
      replace hPa := hPa.ext hx
      replace hB8 := hB8.ext hx
      replace hPb := hPb.ext hx
      replace hB11 := hB11.ext hx
      replace hB14 := hB14.ext hx
      replace hB17 := hB17.ext hx
      replace hPc := hPc.ext hx
      replace hCc := hCc.ext hx
      replace hIc := hIc.ext hx
      replace hB28 := hB28.ext hx
      replace hPd := hPd.ext hx
      replace hCd := hCd.ext hx
      replace hId := hId.ext hx
      replace hB31 := hB31.ext hx
      replace hPf := hPf.ext hx
      replace hCf := hCf.ext hx
      replace hIf := hIf.ext hx
      replace hB34 := hB34.ext hx
      replace hPg := hPg.ext hx
      replace hCg := hCg.ext hx
      replace hIg := hIg.ext hx
      replace hB37 := hB37.ext hx
      have hE := Upd.refl (fun _ => False) W
      refine id (X_move (v := (.int .i64 ((askE ps.length cs bs off 0)))) rfl ?_)
      exact ⟨hE, rfl⟩
    refine ⟨.det (fun val => (.bool (true))), ⟨fun _ _ hv => rfl, fun _ _ _ _ _ => trivial⟩, fun val h_ W hx he => ⟨⟨130, rfl, rfl⟩, ?_⟩, ?_⟩
    · replace hx := (Upd.drew _ _).trans hx
      replace hp := hp.ext hx
      replace hc := hc.ext hx
      replace hb := hb.ext hx
      replace hp2 := hp2.ext hx
      replace hc2 := hc2.ext hx
      replace hb2 := hb2.ext hx
      replace hB1 := hB1.ext hx
      replace hB2 := hB2.ext hx
      replace hB3 := hB3.ext hx
      replace hPa := hPa.ext hx
      replace hB8 := hB8.ext hx
      replace hPb := hPb.ext hx
      replace hB11 := hB11.ext hx
      replace hB14 := hB14.ext hx
      replace hB17 := hB17.ext hx
      replace hPc := hPc.ext hx
      replace hCc := hCc.ext hx
      replace hIc := hIc.ext hx
      replace hB28 := hB28.ext hx
      replace hPd := hPd.ext hx
      replace hCd := hCd.ext hx
      replace hId := hId.ext hx
      replace hB31 := hB31.ext hx
      replace hPf := hPf.ext hx
      replace hCf := hCf.ext hx
      replace hIf := hIf.ext hx
      replace hB34 := hB34.ext hx
      replace hPg := hPg.ext hx
      replace hCg := hCg.ext hx
      replace hIg := hIg.ext hx
      replace hB37 := hB37.ext hx
      have hE := Upd.refl (fun _ => False) W
      refine id (X_cmp (k := .i64) (a := (askE ps.length cs bs off 0)) (b := (askE ps.length cs bs off 0)) (r := true) rfl rfl rfl (decide_eq_true (p := (((askE ps.length cs bs off 0)) : Int) = (((askE ps.length cs bs off 0)) : Int)) (by omega)) ?_)
      exact ⟨hE, rfl⟩
    refine ⟨.det (fun val => (.bool (true))), ⟨fun _ _ hv => rfl, fun _ _ _ _ _ => trivial⟩, fun val h_ W hx he => ⟨trivial, ?_⟩, ?_⟩
    · replace hx := (Upd.drew _ _).trans hx
      replace hp := hp.ext hx
      replace hc := hc.ext hx
      replace hb := hb.ext hx
      replace hp2 := hp2.ext hx
      replace hc2 := hc2.ext hx
      replace hb2 := hb2.ext hx
      replace hB1 := hB1.ext hx
      replace hB2 := hB2.ext hx
      replace hB3 := hB3.ext hx
      replace hPa := hPa.ext hx
      replace hB8 := hB8.ext hx
      replace hPb := hPb.ext hx
      replace hB11 := hB11.ext hx
      replace hB14 := hB14.ext hx
      replace hB17 := hB17.ext hx
      replace hPc := hPc.ext hx
      replace hCc := hCc.ext hx
      replace hIc := hIc.ext hx
      replace hB28 := hB28.ext hx
      replace hPd := hPd.ext hx
      replace hCd := hCd.ext hx
      replace hId := hId.ext hx
      replace hB31 := hB31.ext hx
      replace hPf := hPf.ext hx
      replace hCf := hCf.ext hx
      replace hIf := hIf.ext hx
      replace hB34 := hB34.ext hx
      replace hPg := hPg.ext hx
      replace hCg := hCg.ext hx
      replace hIg := hIg.ext hx
      replace hB37 := hB37.ext hx
      have hE := Upd.refl (fun _ => False) W
      refine id (X_pick (t := true) (v := (.bool (true))) rfl rfl ?_)
      exact ⟨hE, rfl⟩
    refine ⟨.det (fun val => (.bool (true))), ⟨fun _ _ hv => rfl, fun _ _ _ _ _ => trivial⟩, fun val h_ W hx he => ⟨trivial, ?_⟩, ?_⟩
    · replace hx := (Upd.drew _ _).trans hx
      replace hp := hp.ext hx
      replace hc := hc.ext hx
      replace hb := hb.ext hx
      replace hp2 := hp2.ext hx
      replace hc2 := hc2.ext hx
      replace hb2 := hb2.ext hx
      replace hB1 := hB1.ext hx
      replace hB2 := hB2.ext hx
      replace hB3 := hB3.ext hx
      replace hPa := hPa.ext hx
      replace hB8 := hB8.ext hx
      replace hPb := hPb.ext hx
      replace hB11 := hB11.ext hx
      replace hB14 := hB14.ext hx
      replace hB17 := hB17.ext hx
      replace hPc := hPc.ext hx
      replace hCc := hCc.ext hx
      replace hIc := hIc.ext hx
      replace hB28 := hB28.ext hx
      replace hPd := hPd.ext hx
      replace hCd := hCd.ext hx
      replace hId := hId.ext hx
      replace hB31 := hB31.ext hx
      replace hPf := hPf.ext hx
      replace hCf := hCf.ext hx
      replace hIf := hIf.ext hx
      replace hB34 := hB34.ext hx
      replace hPg := hPg.ext hx
      replace hCg := hCg.ext hx
      replace hIg := hIg.ext hx
      replace hB37 := hB37.ext hx
      have hE := Upd.refl (fun _ => False) W
      refine id (X_move (v := (.bool (true))) rfl ?_)
      exact ⟨hE, rfl⟩
    refine ⟨.det (fun val => (.agg ([pv, cv, bv, (.bool (off))]).toArray)), ⟨fun _ _ hv => rfl, fun _ _ _ _ _ => trivial⟩, fun val h_ W hx he => ⟨⟨135, rfl, rfl⟩, ?_⟩, ?_⟩
    · replace hx := (Upd.drew _ _).trans hx
      replace hp := hp.ext hx
      replace hc := hc.ext hx
      replace hb := hb.ext hx
      replace hp2 := hp2.ext hx
      replace hc2 := hc2.ext hx
      replace hb2 := hb2.ext hx
      replace hB1 := hB1.ext hx
      replace hB2 := hB2.ext hx
      replace hB3 := hB3.ext hx
      replace hPa := hPa.ext hx
      replace hB8 := hB8.ext hx
      replace hPb := hPb.ext hx
      replace hB11 := hB11.ext hx
      replace hB14 := hB14.ext hx
      replace hB17 := hB17.ext hx
      replace hPc := hPc.ext hx
      replace hCc := hCc.ext hx
      replace hIc := hIc.ext hx
      replace hB28 := hB28.ext hx
      replace hPd := hPd.ext hx
      replace hCd := hCd.ext hx
      replace hId := hId.ext hx
      replace hB31 := hB31.ext hx
      replace hPf := hPf.ext hx
      replace hCf := hCf.ext hx
      replace hIf := hIf.ext hx
      replace hB34 := hB34.ext hx
      replace hPg := hPg.ext hx
      replace hCg := hCg.ext hx
      replace hIg := hIg.ext hx
      replace hB37 := hB37.ext hx
      have hE := Upd.refl (fun _ => False) W
      refine id (X_loadA (p := (ptr b1 (0))) (xs := [pv, cv, bv, (.bool (off))]) A26 rfl hB1.atAll rfl ?_)
      exact ⟨hE, rfl⟩
    refine ⟨.abs (fun _ x_ W_ => ∃ p2 c2 b2 u, x_ = .agg #[p2, c2, b2, .bool off] ∧ NOwn LP W_ 28 5 s8 u p2 ps ∧ NOwn LW W_ 43 5 s8 u c2 cs ∧ NOwn LI W_ 3 5 s8 u b2 bs), ⟨fun _ _ _ => rfl, fun _ _ _ _ hu h => (by obtain ⟨a1, a2, a3, u, e1, e2, e3, e4⟩ := h; exact ⟨a1, a2, a3, u, e1, e2.ext hu, e3.ext hu, e4.ext hu⟩)⟩, fun val h_ W hx he => ⟨⟨135, rfl, rfl⟩, ?_⟩, ?_⟩
    · replace hx := (Upd.drew _ _).trans hx
      replace hp := hp.ext hx
      replace hc := hc.ext hx
      replace hb := hb.ext hx
      replace hp2 := hp2.ext hx
      replace hc2 := hc2.ext hx
      replace hb2 := hb2.ext hx
      replace hB1 := hB1.ext hx
      replace hB2 := hB2.ext hx
      replace hB3 := hB3.ext hx
      replace hPa := hPa.ext hx
      replace hB8 := hB8.ext hx
      replace hPb := hPb.ext hx
      replace hB11 := hB11.ext hx
      replace hB14 := hB14.ext hx
      replace hB17 := hB17.ext hx
      replace hPc := hPc.ext hx
      replace hCc := hCc.ext hx
      replace hIc := hIc.ext hx
      replace hB28 := hB28.ext hx
      replace hPd := hPd.ext hx
      replace hCd := hCd.ext hx
      replace hId := hId.ext hx
      replace hB31 := hB31.ext hx
      replace hPf := hPf.ext hx
      replace hCf := hCf.ext hx
      replace hIf := hIf.ext hx
      replace hB34 := hB34.ext hx
      replace hPg := hPg.ext hx
      replace hCg := hCg.ext hx
      replace hIg := hIg.ext hx
      replace hB37 := hB37.ext hx
      have hE := Upd.refl (fun _ => False) W
      have hxs := hx.size
      refine X_fn (vs := [.agg #[pv, cv, bv, .bool off]]) en17 rfl (CT.mono (c_copy pv cv bv ps cs bs off _ 0 n0 (by omega) hp hc hb (by omega) (by omega) (by omega)) ?_)
      rintro v9 w9 ⟨p9, c9, b9, rfl, h1, h2, h3, hu9⟩
      exact ⟨hu9, p9, c9, b9, _, rfl, h1.mono (by omega) (Nat.le_refl _), h2.mono (by omega) (Nat.le_refl _), h3.mono (by omega) (Nat.le_refl _)⟩
    refine ⟨.det (fun val => (.agg ([pv, cv, bv, (.bool (off))]).toArray)), ⟨fun _ _ hv => rfl, fun _ _ _ _ _ => trivial⟩, fun val h_ W hx he => ⟨⟨135, rfl, rfl⟩, ?_⟩, ?_⟩
    · replace hx := (Upd.drew _ _).trans hx
      replace hp := hp.ext hx
      replace hc := hc.ext hx
      replace hb := hb.ext hx
      replace hp2 := hp2.ext hx
      replace hc2 := hc2.ext hx
      replace hb2 := hb2.ext hx
      replace hB1 := hB1.ext hx
      replace hB2 := hB2.ext hx
      replace hB3 := hB3.ext hx
      replace hPa := hPa.ext hx
      replace hB8 := hB8.ext hx
      replace hPb := hPb.ext hx
      replace hB11 := hB11.ext hx
      replace hB14 := hB14.ext hx
      replace hB17 := hB17.ext hx
      replace hPc := hPc.ext hx
      replace hCc := hCc.ext hx
      replace hIc := hIc.ext hx
      replace hB28 := hB28.ext hx
      replace hPd := hPd.ext hx
      replace hCd := hCd.ext hx
      replace hId := hId.ext hx
      replace hB31 := hB31.ext hx
      replace hPf := hPf.ext hx
      replace hCf := hCf.ext hx
      replace hIf := hIf.ext hx
      replace hB34 := hB34.ext hx
      replace hPg := hPg.ext hx
      replace hCg := hCg.ext hx
      replace hIg := hIg.ext hx
      replace hB37 := hB37.ext hx
      have hE := Upd.refl (fun _ => False) W
      refine id (X_loadA (p := (ptr b1 (0))) (xs := [pv, cv, bv, (.bool (off))]) A26 rfl hB1.atAll rfl ?_)
      exact ⟨hE, rfl⟩
    intro val W39 hx39 he39
    replace hx39 := (Upd.drew _ _).trans hx39
    have hz39 := hx39.size
    replace hp := hp.ext hx39
    replace hc := hc.ext hx39
    replace hb := hb.ext hx39
    replace hp2 := hp2.ext hx39
    replace hc2 := hc2.ext hx39
    replace hb2 := hb2.ext hx39
    replace hU := hU.trans (Ext.upd hx39)
    replace hB1 := hB1.ext hx39
    replace hB2 := hB2.ext hx39
    replace hB3 := hB3.ext hx39
    replace hPa := hPa.ext hx39
    replace hB8 := hB8.ext hx39
    replace hPb := hPb.ext hx39
    replace hB11 := hB11.ext hx39
    replace hB14 := hB14.ext hx39
    replace hB17 := hB17.ext hx39
    replace hPc := hPc.ext hx39
    replace hCc := hCc.ext hx39
    replace hIc := hIc.ext hx39
    replace hB28 := hB28.ext hx39
    replace hPd := hPd.ext hx39
    replace hCd := hCd.ext hx39
    replace hId := hId.ext hx39
    replace hB31 := hB31.ext hx39
    replace hPf := hPf.ext hx39
    replace hCf := hCf.ext hx39
    replace hIf := hIf.ext hx39
    replace hB34 := hB34.ext hx39
    replace hPg := hPg.ext hx39
    replace hCg := hCg.ext hx39
    replace hIg := hIg.ext hx39
    replace hB37 := hB37.ext hx39
    obtain ⟨⟨p9, c9, b9, u9, he9, hP9, hC9, hI9⟩, he39⟩ := he39
    refine L_gy (dj := 135) rfl rfl rfl (X_fn (vs := [.agg #[p9, c9, b9, .bool off], .agg #[pv, cv, bv, .bool off]]) en18 (congrArg (fun z => [z, Value.agg #[pv, cv, bv, .bool off]]) he9) (CT.mono (c_same p9 c9 b9 ps cs bs off pv cv bv ps cs bs off _ s8 u9 0 n0 hP9.rd hC9.rd hI9.rd hp hc hb) ?_))
    rintro _ w42 ⟨⟨g42, rfl, hg42⟩, hu42⟩
    have hz42 := hu42.size
    replace hp := hp.ext hu42
    replace hc := hc.ext hu42
    replace hb := hb.ext hu42
    replace hp2 := hp2.ext hu42
    replace hc2 := hc2.ext hu42
    replace hb2 := hb2.ext hu42
    replace hU := hU.trans (Ext.upd hu42)
    replace hB1 := hB1.ext hu42
    replace hB2 := hB2.ext hu42
    replace hB3 := hB3.ext hu42
    replace hPa := hPa.ext hu42
    replace hB8 := hB8.ext hu42
    replace hPb := hPb.ext hu42
    replace hB11 := hB11.ext hu42
    replace hB14 := hB14.ext hu42
    replace hB17 := hB17.ext hu42
    replace hPc := hPc.ext hu42
    replace hCc := hCc.ext hu42
    replace hIc := hIc.ext hu42
    replace hB28 := hB28.ext hu42
    replace hPd := hPd.ext hu42
    replace hCd := hCd.ext hu42
    replace hId := hId.ext hu42
    replace hB31 := hB31.ext hu42
    replace hPf := hPf.ext hu42
    replace hCf := hCf.ext hu42
    replace hIf := hIf.ext hu42
    replace hB34 := hB34.ext hu42
    replace hPg := hPg.ext hu42
    replace hCg := hCg.ext hu42
    replace hIg := hIg.ext hu42
    replace hB37 := hB37.ext hu42
    replace hP9 := hP9.ext hu42
    replace hC9 := hC9.ext hu42
    replace hI9 := hI9.ext hu42
    obtain rfl : g42 = true := hg42.2 ⟨rfl, rfl, rfl, rfl⟩
    refine L_op rfl (X_pick (t := true) (v := (.bool (true))) rfl rfl ?_)
    refine L_op rfl (X_move (v := (.bool (true))) rfl ?_)
    refine L_gy (dj := 141) rfl rfl rfl (X_fn (vs := []) en10 rfl (CT.mono (c_wakes _) ?_))
    rintro vb43 w43 ⟨hvb43, hu43⟩
    have hz43 := hu43.size
    replace hp := hp.ext hu43
    replace hc := hc.ext hu43
    replace hb := hb.ext hu43
    replace hp2 := hp2.ext hu43
    replace hc2 := hc2.ext hu43
    replace hb2 := hb2.ext hu43
    replace hU := hU.trans (Ext.upd hu43)
    replace hB1 := hB1.ext hu43
    replace hB2 := hB2.ext hu43
    replace hB3 := hB3.ext hu43
    replace hPa := hPa.ext hu43
    replace hB8 := hB8.ext hu43
    replace hPb := hPb.ext hu43
    replace hB11 := hB11.ext hu43
    replace hB14 := hB14.ext hu43
    replace hB17 := hB17.ext hu43
    replace hPc := hPc.ext hu43
    replace hCc := hCc.ext hu43
    replace hIc := hIc.ext hu43
    replace hB28 := hB28.ext hu43
    replace hPd := hPd.ext hu43
    replace hCd := hCd.ext hu43
    replace hId := hId.ext hu43
    replace hB31 := hB31.ext hu43
    replace hPf := hPf.ext hu43
    replace hCf := hCf.ext hu43
    replace hIf := hIf.ext hu43
    replace hB34 := hB34.ext hu43
    replace hPg := hPg.ext hu43
    replace hCg := hCg.ext hu43
    replace hIg := hIg.ext hu43
    replace hB37 := hB37.ext hu43
    replace hP9 := hP9.ext hu43
    replace hC9 := hC9.ext hu43
    replace hI9 := hI9.ext hu43
    subst hvb43
    refine L_op rfl (X_pick (t := true) (v := (.bool (true))) rfl rfl ?_)
    refine L_op rfl (X_assign (v := (.bool (true))) rfl ?_)
    refine L_nil ?_
    refine T_n ?_
    refine W_ret ?_
    exact BQ_r (End_1 Try.results6 (v := .bool true) rfl ⟨rfl, hU.own hn0⟩)
end Go.Proofs.Ythongcaijgfojaa
