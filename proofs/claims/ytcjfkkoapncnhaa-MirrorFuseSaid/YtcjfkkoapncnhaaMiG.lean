/-
 The contracts of chapter 10: copies, writing. (Printed by wip/gen/t10g.py of this repo.)
-/
import Derived.Test.YtcjfkkoapncnhaaMiF
import Derived.Test.YtcjfkkoapncnhaaBaseV
namespace Go.Proofs.Ytcjfkkoapncnhaa
open Go Go.SL Go.Proofs
set_option linter.unusedVariables false

theorem drop_at {α : Type} {l : List α} {k : Nat} {x : α} (h : l[k]? = some x) : l.drop k = x :: l.drop (k + 1) := by
 obtain ⟨hk, rfl⟩ := List.getElem?_eq_some_iff.1 h
 exact List.drop_eq_getElem_cons hk
theorem run_off {pg : Pg} {p : PD} {d a : Int} {r : List (Int × Int)} (h : (p.dk d.toNat).off = true) : runL pg p ((d, a) :: r) = runL pg p r := if_pos h
theorem run_ok {pg : Pg} {p : PD} {d a : Int} {r : List (Int × Int)} (h : (p.dk d.toNat).off = false) (h0 : (putD p d.toNat a pg).2 = 0) : runL pg p ((d, a) :: r) = runL pg (putD p d.toNat a pg).1 r := (if_neg (by rw [h]; decide)).trans (if_pos h0)
theorem run_er {pg : Pg} {p : PD} {d a : Int} {r : List (Int × Int)} (h : (p.dk d.toNat).off = false) (h0 : (putD p d.toNat a pg).2 ≠ 0) : runL pg p ((d, a) :: r) = putD p d.toNat a pg := (if_neg (by rw [h]; decide)).trans (if_neg h0)
theorem burn_le (p : PD) : (burnD p).1.fz ≤ p.fz := by
 unfold burnD
 split
 ·exact Int.le_refl _
 ·split
  ·exact Int.le_refl _
  ·split
   ·show p.fz - 1 ≤ p.fz; omega
   ·exact Int.le_refl _
theorem setD_fz (p : PD) (i : Nat) (d : DD) : (p.setD i d).fz = p.fz := by cases i <;> rfl
theorem does_le (p : PD) (i : Nat) (g : DD → DD × Int) : (doesD p i g).1.fz ≤ p.fz := by
 unfold doesD
 split
 ·exact burn_le p
 ·split
  ·show ((burnD p).1.setD i _).fz ≤ p.fz; rw [setD_fz]; exact burn_le p
  ·exact burn_le p
theorem does_sz {p : PD} {i : Nat} {g : DD → DD × Int} {m k : Nat} (ha : Sz p.a m) (hb : Sz p.b m) (hk : m ≤ k) (hg : Sz (g (p.dk i)).1 k) : Sz (doesD p i g).1.a k ∧ Sz (doesD p i g).1.b k := by
 have h1 : Sz (burnD p).1.a k ∧ Sz (burnD p).1.b k := by rw [burn_a, burn_b]; exact ⟨ha.mono hk, hb.mono hk⟩
 unfold doesD
 split
 ·exact h1
 ·split
  ·cases i with
   | zero => exact ⟨hg, h1.2⟩
   | succ j => exact ⟨h1.1, hg⟩
  ·exact h1
theorem put_sz {p : PD} {i : Nat} {n : Int} {pg : Pg} {m : Nat} (ha : Sz p.a m) (hb : Sz p.b m) : Sz (putD p i n pg).1.a (m + 1) ∧ Sz (putD p i n pg).1.b (m + 1) :=
 does_sz ha hb (Nat.le_succ m) (by cases i with | zero => exact wrD_sz ha n pg | succ j => exact wrD_sz hb n pg)
theorem flush_sz {p : PD} {i : Nat} {m : Nat} (ha : Sz p.a m) (hb : Sz p.b m) : Sz (doesD p i flD).1.a m ∧ Sz (doesD p i flD).1.b m :=
 does_sz ha hb (Nat.le_refl m) (by cases i with | zero => exact flD_sz ha | succ j => exact flD_sz hb)
theorem copL_len (q : Pt) : (copL q).length ≤ 4 := by unfold copL; split <;> simp

theorem c_copiesM (q : Pt) (w : World) (hq : PtOk q) : CT Try.prog 20 #[(.agg (ptC q).toArray)] w fun v w' => NRd LC w' w.heap.size w'.heap.size v (copL q) ∧ Ext w w' := by
 obtain ⟨n0, hn0⟩ : ∃ n, n = w.heap.size := ⟨_, rfl⟩
 have hU : Upd (fun i => n0 ≤ i) w w := Upd.refl _ _
 refine CT_of Try.func20 rfl rfl rfl ?_
 refine W_seq ?_
 refine W_reg ?_
 refine L_op rfl (X_box (v := (.agg (ptC q).toArray)) (c := ((ptC q)).toArray) rfl rfl ?_)
 intro b1 w1 hn1
 have hbn1 := hn1.num; have hbs1 := hn1.size
 replace hU := hU.trans (Ext.upd hn1.ext)
 have hB1 := hn1.blk
 refine L_op rfl (X_alloc (z := (.slice none 0 0)) (c := #[(.slice none 0 0)]) Zv45 rfl ?_)
 intro b2 w2 hn2
 have hbn2 := hn2.num; have hbs2 := hn2.size
 replace hU := hU.trans (Ext.upd hn2.ext)
 replace hB1 := hB1.ext hn2.ext
 have hB2 := hn2.blk
 refine L_nil ?_
 refine T_n ?_
 refine W_seq ?_
 refine W_seq ?_
 refine W_reg ?_
 refine L_op rfl (X_loadA (p := (ptr b1 (0))) (xs := ptC q) A35 rfl hB1.atAll rfl ?_)
 obtain ⟨nb, hnb⟩ : ∃ n, n = w2.heap.size := ⟨_, rfl⟩
 refine L_op rfl (X_fn (vs := [(.agg (ptC q).toArray)]) en27 rfl (CT.mono (c_copies q _) ?_))
 rintro _ w3 ⟨rfl, hK, hu3, hz3⟩
 rw [← hnb] at hK ⊢
 replace hU := hU.trans (Ext.upd hu3)
 replace hB1 := hB1.ext hu3
 replace hB2 := hB2.ext hu3
 refine L_nil ?_
 refine T_n ?_
 refine W_block ?_
 obtain ⟨nL, hnL⟩ : ∃ n, n = w3.heap.size := ⟨_, rfl⟩
 refine W_range (lb := [ptr nb 0]) (xs := (copX q)) rfl en40 (c_copies1 q nb _ hq hK) (Upd.refl _ _) rfl (fun x hx => by unfold copX at hx; obtain ⟨y, _, rfl⟩ := List.mem_map.1 hx; rfl) (fun b => b = b2 ∨ nL + 2 ≤ b) (fun b hb_ => ⟨fun h => by have h : b = nb := h; rcases hb_ with h0 | h0 <;> omega, by rcases hb_ with h0 | h0 <;> omega, by rcases hb_ with h0 | h0 <;> omega⟩) (fun b hb_ h => by have h : b = nb := h; omega) (fun b h => h.elim) (fun k W => ∃ v : Value, Blk W b2 #[v] 45 ∧ Own W (nL + 2) 47 2 v k (((copL q).take k).flatMap LC.cel) ∧ Upd (fun i => n0 ≤ i) w W) (fun k e W => False) (fun k W W2 hI hu => by obtain ⟨v, hB2, hO, hU⟩ := hI; exact ⟨v, hB2.upd hu fun h => by { rcases h with h | h; (· exact h); (· omega) }, hO.upd hu fun i hi h => by { have := hO.lt hi; rcases h with h | h; (· exact h); (· omega) }, hU.trans (hu.mono fun i _ h => by { rcases h with h | h; (· exact h.elim); (· show n0 ≤ i; omega) })⟩) (fun _ _ _ _ h _ => h) ?_ ?_ ?_ ?_
 ·intro W hx_ hs_
  exact ⟨_, hB2.ext hx_, Own.nil _ _ _ _, hU.trans (Ext.upd hx_)⟩
 ·intro k x W hk_ hI_ hsz_ hlp_
  obtain ⟨v, hB2, hO, hU⟩ := hI_
  obtain ⟨di, a, hat, rfl, hdi, ha0, ha1⟩ := copX_at hq hk_
  have hkl := (List.getElem?_eq_some_iff.1 hat).1
  have hcl4 := copL_len q
  have hD := Upd.refl (fun b => b = b2 ∨ nL + 2 ≤ b) W
  refine W_seq ?_
  refine W_reg ?_
  refine L_op rfl (X_assign (v := (.int .i64 (di))) rfl ?_)
  refine L_nil ?_
  refine T_n ?_
  refine W_reg ?_
  refine L_op rfl (X_assign (v := (.int .i64 (a))) rfl ?_)
  refine L_nil ?_
  refine T_n ⟨hD, fun W2 hu2_ hlp2_ => ?_⟩
  have hsz2_ := hu2_.size
  replace hB2 := hB2.upd hu2_ fun h => by have h : b2 = nL + 1 := (by rw [hnL]; exact h); omega
  replace hO := hO.upd hu2_ fun i hi h => by have hi := hO.lt hi; have h : i = nL + 1 := (by rw [hnL]; exact h); omega
  replace hU := hU.trans (hu2_.mono fun i _ h => by have h : i = nL + 1 := (by rw [hnL]; exact h); show n0 ≤ i; omega)
  have hD := Upd.refl (fun b => b = b2 ∨ nL + 2 ≤ b) W2
  refine W_block ?_
  refine W_reg ?_
  refine L_op rfl (X_load (p := (ptr b2 (0))) (v := v) T45 rfl (hB2.at1 rfl) ?_)
  refine L_op rfl (X_move (v := (.int .i64 (di))) rfl ?_)
  refine L_op rfl (X_move (v := (.int .i64 (a))) rfl ?_)
  refine L_op rfl (X_build (built47 (di) (a)) ?_)
  refine L_op rfl (X_buildSliceL (vs := [(.agg #[(.int .i64 (di)), (.int .i64 (a))])]) (c := [(.int .i64 (di)), (.int .i64 (a))]) S45 (by decide) rfl rfl (List.forall_mem_cons.2 ⟨rfl, (fun _ h => by cases h)⟩) rfl ?_)
  intro b4 w4 hn4
  have hbn4 := hn4.num; have hbs4 := hn4.size
  replace hB2 := hB2.ext hn4.ext
  replace hO := hO.ext hn4.ext
  replace hU := hU.trans (Ext.upd hn4.ext)
  replace hD := hD.trans (Ext.upd hn4.ext)
  have hB4 := hn4.blk
  refine L_op rfl (X_append (B := nL + 2) (n := k) (s := v) (x := (.slice (some ⟨b4, 0, none⟩) 1 1)) S45 ⟨_, Try.underlying45⟩ rfl rfl hO (m := 1) (ys := LC.cel (di, a)) (hB4.rd (o := 0) (n := 1) (c := 1) (sz := 2) (by decide) (by decide) rfl (fun j u hj => by rw [Nat.zero_add]; simpa [LC] using hj)) (LC.one (di, a) (fun _ h => by cases h)) (by unfold maxLen; omega) (by omega) (by omega) ?_)
  intro v5 w5 hO5 hu5 _
  have hz5 := hu5.size
  replace hO5 : Own w5 (nL + 2) 47 2 v5 (k + 1) (((copL q).take (k + 1)).flatMap LC.cel) := hO5.eq rfl (by rw [List.take_add_one, hat, List.flatMap_append]; rfl)
  replace hB2 := hB2.upd hu5 fun h => by have h := hO.lt h; omega
  replace hU := hU.trans (hu5.mono fun i _ h => by have h := hO.lt h; show n0 ≤ i; omega)
  replace hD := hD.trans (hu5.mono fun i _ h => by have h := hO.lt h; show i = b2 ∨ nL + 2 ≤ i; omega)
  refine L_op0 (X_store (b := b2) (o := 0) T45 rfl rfl (hO5.sv.one) hB2 (by show (0 : Nat) < 1; decide) ?_)
  intro w6 hu6 hb6
  have hz6 := hu6.size
  replace hU := hU.trans (hu6.mono fun i _ h => by have h : i = b2 := h; show n0 ≤ i; omega)
  replace hD := hD.trans (hu6.mono fun i _ h => by have h : i = b2 := h; show i = b2 ∨ nL + 2 ≤ i; omega)
  replace hO5 := hO5.upd hu6 fun i hi h => by have hi := hO5.lt hi; have h : i = b2 := h; omega
  replace hB2 : Blk w6 b2 #[v5] 45 := hb6
  refine L_nil ?_
  refine B_n ?_
  exact RQ_n hD ⟨v5, hB2, hO5, hU⟩
 ·intro W hI_ hd_
  obtain ⟨v, hB2, hO, hU⟩ := hI_
  rw [copX_len, List.take_length] at hO
  have hd : Dfd W nL := by rw [hnL]; exact hd_
  refine B_n ?_
  refine T_n ?_
  refine W_seq ?_
  refine W_reg ?_
  refine L_op rfl (X_load (p := (ptr b2 (0))) (v := v) T45 rfl (hB2.at1 rfl) ?_)
  refine L_op0 (X_store (b := b2) (o := 0) T45 rfl rfl (hO.sv.one) hB2 (by show (0 : Nat) < 1; decide) ?_)
  intro w7 hu7 hb7
  have hz7 := hu7.size
  replace hU := hU.trans (hu7.mono fun i _ h => by have h : i = b2 := h; show n0 ≤ i; omega)
  replace hd := hd.upd hu7 fun h => by have h : nL = b2 := h; omega
  replace hO := hO.upd hu7 fun i hi h => by have hi := hO.lt hi; have h : i = b2 := h; omega
  replace hB2 : Blk w7 b2 #[v] 45 := hb7
  refine L_nil ?_
  refine T_n ?_
  refine W_ret ?_
  refine BQ_r (End_m (hnL ▸ hd) fun w9 hu9 => ?_)
  have hB9 := hB2.upd hu9 fun h => by have h : b2 = nL := (by rw [hnL]; exact h); omega
  have hO9 := hO.upd hu9 fun i hi h => by have h : i = nL := (by rw [hnL]; exact h); have := hO.lt hi; omega
  exact End_1 Try.results20 (v := v) (RV_1 T45 rfl (hB9.at1 rfl)) ⟨NRd.of (fun _ => rfl) hO9.rd fun b hb => by have := hO9.lt (hO9.rbk_obk hb); omega, (hU.trans (hu9.mono fun i _ h => by have h : i = nL := (by rw [hnL]; exact h); show n0 ≤ i; omega)).own hn0⟩
 ·intro k e W hk_ hI_ hd_ he_
  exact hI_.elim

set_option maxRecDepth 10000 in
set_option maxHeartbeats 1000000 in
theorem c_writeM (q : Pt) (pg : Pg) (p : Pr) (w : World) (hfz : p.fz ≤ 1000000) (lo0 up0 lo1 up1 : Nat) (hup0 : up0 ≤ w.heap.size) (hup1 : up1 ≤ w.heap.size) (h0 : p.d0.Rd w lo0 up0) (h1 : p.d1.Rd w lo1 up1) (hq : PtOk q) (hz0 : Sz p.da.a 1000000) (hz1 : Sz p.da.b 1000000) : CT Try.prog 10 #[(.agg #[p.d0.pv, p.d0.cv, p.d0.bv, (.bool (p.d0.off)), p.d1.pv, p.d1.cv, p.d1.bv, (.bool (p.d1.off)), (.int .i64 (p.fz)), (.bool (p.dn))]), (.agg (ptC q).toArray), (pageV pg)] w fun v w' => ∃ (p2 : Pr) (l0 u0 l1 u1 : Nat), v = .tuple #[.agg #[p2.d0.pv, p2.d0.cv, p2.d0.bv, .bool p2.d0.off, p2.d1.pv, p2.d1.cv, p2.d1.bv, .bool p2.d1.off, .int .i64 p2.fz, .bool p2.dn], .int .i64 (writeD p.da q pg).2] ∧ p2.d0.Rd w' l0 u0 ∧ p2.d1.Rd w' l1 u1 ∧ (l0 = lo0 ∧ u0 = up0 ∨ w.heap.size ≤ l0 ∧ u0 ≤ w'.heap.size) ∧ (l1 = lo1 ∧ u1 = up1 ∨ w.heap.size ≤ l1 ∧ u1 ≤ w'.heap.size) ∧ p2.da = (writeD p.da q pg).1 ∧ Ext w w' := by
 obtain ⟨n0, hn0⟩ : ∃ n, n = w.heap.size := ⟨_, rfl⟩
 have hU : Upd (fun i => n0 ≤ i) w w := Upd.refl _ _
 rw [← hn0] at hup0 hup1
 refine CT_of Try.func10 rfl rfl rfl ?_
 refine W_seq ?_
 refine W_reg ?_
 refine L_op rfl (X_box (v := (.agg #[p.d0.pv, p.d0.cv, p.d0.bv, (.bool (p.d0.off)), p.d1.pv, p.d1.cv, p.d1.bv, (.bool (p.d1.off)), (.int .i64 (p.fz)), (.bool (p.dn))])) (c := ([p.d0.pv, p.d0.cv, p.d0.bv, (.bool (p.d0.off)), p.d1.pv, p.d1.cv, p.d1.bv, (.bool (p.d1.off)), (.int .i64 (p.fz)), (.bool (p.dn))]).toArray) rfl rfl ?_)
 intro b1 w1 hn1
 have hbn1 := hn1.num; have hbs1 := hn1.size
 replace h0 := h0.ext hn1.ext
 replace h1 := h1.ext hn1.ext
 replace hU := hU.trans (Ext.upd hn1.ext)
 have hB1 := hn1.blk
 refine L_op rfl (X_box (v := (.agg (ptC q).toArray)) (c := ((ptC q)).toArray) rfl rfl ?_)
 intro b2 w2 hn2
 have hbn2 := hn2.num; have hbs2 := hn2.size
 replace h0 := h0.ext hn2.ext
 replace h1 := h1.ext hn2.ext
 replace hU := hU.trans (Ext.upd hn2.ext)
 replace hB1 := hB1.ext hn2.ext
 have hB2 := hn2.blk
 refine L_op rfl (X_box (v := (pageV pg)) (c := ((pg.1).map byteV).toArray) rfl rfl ?_)
 intro b3 w3 hn3
 have hbn3 := hn3.num; have hbs3 := hn3.size
 replace h0 := h0.ext hn3.ext
 replace h1 := h1.ext hn3.ext
 replace hU := hU.trans (Ext.upd hn3.ext)
 replace hB1 := hB1.ext hn3.ext
 replace hB2 := hB2.ext hn3.ext
 have hB3 := hn3.blk
 refine L_op rfl (X_alloc (z := (.agg #[(.slice none 0 0), (.slice none 0 0), (.slice none 0 0), (.bool (false)), (.slice none 0 0), (.slice none 0 0), (.slice none 0 0), (.bool (false)), (.int .i64 (0)), (.bool (false))])) (c := #[(.slice none 0 0), (.slice none 0 0), (.slice none 0 0), (.bool (false)), (.slice none 0 0), (.slice none 0 0), (.slice none 0 0), (.bool (false)), (.int .i64 (0)), (.bool (false))]) Zv29 rfl ?_)
 intro b4 w4 hn4
 have hbn4 := hn4.num; have hbs4 := hn4.size
 replace h0 := h0.ext hn4.ext
 replace h1 := h1.ext hn4.ext
 replace hU := hU.trans (Ext.upd hn4.ext)
 replace hB1 := hB1.ext hn4.ext
 replace hB2 := hB2.ext hn4.ext
 replace hB3 := hB3.ext hn4.ext
 have hB4 := hn4.blk
 refine L_op rfl (X_alloc (z := (.int .i64 (0))) (c := #[(.int .i64 (0))]) Zv41 rfl ?_)
 intro b5 w5 hn5
 have hbn5 := hn5.num; have hbs5 := hn5.size
 replace h0 := h0.ext hn5.ext
 replace h1 := h1.ext hn5.ext
 replace hU := hU.trans (Ext.upd hn5.ext)
 replace hB1 := hB1.ext hn5.ext
 replace hB2 := hB2.ext hn5.ext
 replace hB3 := hB3.ext hn5.ext
 replace hB4 := hB4.ext hn5.ext
 have hB5 := hn5.blk
 refine L_nil ?_
 refine T_n ?_
 refine W_scopeQ ?_
 refine W_seq ?_
 refine W_reg ?_
 refine L_op rfl (X_loadA (p := (ptr b1 (0))) (xs := [p.d0.pv, p.d0.cv, p.d0.bv, (.bool (p.d0.off)), p.d1.pv, p.d1.cv, p.d1.bv, (.bool (p.d1.off)), (.int .i64 (p.fz)), (.bool (p.dn))]) A29 rfl hB1.atAll rfl ?_)
 refine L_op0 (X_storeW (b := b4) (ys := [p.d0.pv, p.d0.cv, p.d0.bv, (.bool (p.d0.off)), p.d1.pv, p.d1.cv, p.d1.bv, (.bool (p.d1.off)), (.int .i64 (p.fz)), (.bool (p.dn))]) A29 rfl rfl (List.forall_mem_cons.2 ⟨(h0.1.sv.one), (List.forall_mem_cons.2 ⟨(h0.2.1.sv.one), (List.forall_mem_cons.2 ⟨(h0.2.2.sv.one), (List.forall_mem_cons.2 ⟨rfl, (List.forall_mem_cons.2 ⟨(h1.1.sv.one), (List.forall_mem_cons.2 ⟨(h1.2.1.sv.one), (List.forall_mem_cons.2 ⟨(h1.2.2.sv.one), (List.forall_mem_cons.2 ⟨rfl, (List.forall_mem_cons.2 ⟨rfl, (List.forall_mem_cons.2 ⟨rfl, (fun _ h => by cases h)⟩)⟩)⟩)⟩)⟩)⟩)⟩)⟩)⟩)⟩) rfl hB4 rfl ?_)
 intro w6 hu6 hb6
 have hz6 := hu6.size
 replace h0 := h0.upd hu6 fun i h1 h2 h => by have h : i = b4 := h; omega
 replace h1 := h1.upd hu6 fun i h1 h2 h => by have h : i = b4 := h; omega
 replace hU := hU.trans (hu6.mono fun i _ h => by have h : i = b4 := h; show n0 ≤ i; omega)
 replace hB1 := hB1.upd hu6 fun h => by have h : b1 = b4 := h; omega
 replace hB2 := hB2.upd hu6 fun h => by have h : b2 = b4 := h; omega
 replace hB3 := hB3.upd hu6 fun h => by have h : b3 = b4 := h; omega
 replace hB5 := hB5.upd hu6 fun h => by have h : b5 = b4 := h; omega
 replace hB4 : Blk w6 b4 #[p.d0.pv, p.d0.cv, p.d0.bv, (.bool (p.d0.off)), p.d1.pv, p.d1.cv, p.d1.bv, (.bool (p.d1.off)), (.int .i64 (p.fz)), (.bool (p.dn))] 29 := hb6
 refine L_nil ?_
 refine T_n ?_
 refine W_seq ?_
 refine W_seq ?_
 refine W_reg ?_
 refine L_op rfl (X_loadA (p := (ptr b1 (0))) (xs := [p.d0.pv, p.d0.cv, p.d0.bv, (.bool (p.d0.off)), p.d1.pv, p.d1.cv, p.d1.bv, (.bool (p.d1.off)), (.int .i64 (p.fz)), (.bool (p.dn))]) A29 rfl hB1.atAll rfl ?_)
 have hcr_ := c_ready p w6 lo0 up0 lo1 up1 (by omega) (by omega) h0 h1
 refine L_op rfl (X_fn (vs := [(.agg ([p.d0.pv, p.d0.cv, p.d0.bv, (.bool (p.d0.off)), p.d1.pv, p.d1.cv, p.d1.bv, (.bool (p.d1.off)), (.int .i64 (p.fz)), (.bool (p.dn))]).toArray)]) en26 rfl ?_)
 refine CT.mono hcr_ ?_
 clear hcr_
 rintro _ w7 ⟨rfl, hu7⟩
 have hz7 := hu7.size
 replace h0 := h0.ext hu7
 replace h1 := h1.ext hu7
 replace hU := hU.trans (Ext.upd hu7)
 replace hB1 := hB1.ext hu7
 replace hB2 := hB2.ext hu7
 replace hB3 := hB3.ext hu7
 replace hB5 := hB5.ext hu7
 replace hB4 := hB4.ext hu7
 refine L_op0 (X_store (b := b5) (o := 0) T41 rfl rfl rfl hB5 (by show (0 : Nat) < 1; decide) ?_)
 intro w8 hu8 hb8
 have hz8 := hu8.size
 replace h0 := h0.upd hu8 fun i h1 h2 h => by have h : i = b5 := h; omega
 replace h1 := h1.upd hu8 fun i h1 h2 h => by have h : i = b5 := h; omega
 replace hU := hU.trans (hu8.mono fun i _ h => by have h : i = b5 := h; show n0 ≤ i; omega)
 replace hB1 := hB1.upd hu8 fun h => by have h : b1 = b5 := h; omega
 replace hB2 := hB2.upd hu8 fun h => by have h : b2 = b5 := h; omega
 replace hB3 := hB3.upd hu8 fun h => by have h : b3 = b5 := h; omega
 replace hB4 := hB4.upd hu8 fun h => by have h : b4 = b5 := h; omega
 replace hB5 : Blk w8 b5 #[(.int .i64 (readyD p.da))] 41 := hb8
 refine L_nil ?_
 refine T_n ?_
 refine W_seq ?_
 refine W_reg ?_
 refine L_op rfl (X_load (p := (ptr b5 (0))) (v := (.int .i64 (readyD p.da))) T41 rfl (hB5.at1 rfl) ?_)
 by_cases hc9 : (readyD p.da : Int) ≠ (0)
 ·refine L_op rfl (X_cmp (k := .i64) (a := readyD p.da) (b := 0) (r := true) rfl rfl rfl (decide_eq_true (p := ((readyD p.da) : Int) ≠ ((0) : Int)) (by omega)) ?_)
  refine L_nil ?_
  refine T_n ?_
  refine W_ct rfl ?_
  refine W_seq ?_
  refine W_draw 3 [[], [], [0], [0, 1, 2]] mixed (by kernel_rfl) ?_
  refine ⟨.det (fun val => (.agg ([p.d0.pv, p.d0.cv, p.d0.bv, (.bool (p.d0.off)), p.d1.pv, p.d1.cv, p.d1.bv, (.bool (p.d1.off)), (.int .i64 (p.fz)), (.bool (p.dn))]).toArray)), ⟨fun _ _ hv => rfl, fun _ _ _ _ _ => trivial⟩, fun val h_ W hx he => ⟨trivial, ?_⟩, ?_⟩
  ·replace hx := (Upd.drew _ _).trans hx
   replace hB4 := hB4.ext hx
   refine id (X_loadA (p := (ptr b4 (0))) (xs := [p.d0.pv, p.d0.cv, p.d0.bv, (.bool (p.d0.off)), p.d1.pv, p.d1.cv, p.d1.bv, (.bool (p.d1.off)), (.int .i64 (p.fz)), (.bool (p.dn))]) A29 rfl hB4.atAll rfl ?_)
   exact ⟨Upd.refl _ _, rfl⟩
  refine ⟨.det (fun val => (.int .i64 (readyD p.da))), ⟨fun _ _ hv => rfl, fun _ _ _ _ _ => trivial⟩, fun val h_ W hx he => ⟨trivial, ?_⟩, ?_⟩
  ·replace hx := (Upd.drew _ _).trans hx
   replace hB5 := hB5.ext hx
   refine id (X_load (p := (ptr b5 (0))) (v := (.int .i64 (readyD p.da))) T41 rfl (hB5.at1 rfl) ?_)
   exact ⟨Upd.refl _ _, rfl⟩
  refine ⟨.det (fun val => undef), ⟨fun _ _ hv => rfl, fun _ _ _ _ _ => trivial⟩, fun val h_ W hx he => ⟨trivial, ?_⟩, ?_⟩
  ·replace hx := (Upd.drew _ _).trans hx
   replace h0 := h0.ext hx
   replace h1 := h1.ext hx
   replace hB4 := hB4.ext hx
   refine id (X_storeSameW (ys := [p.d0.pv, p.d0.cv, p.d0.bv, (.bool (p.d0.off)), p.d1.pv, p.d1.cv, p.d1.bv, (.bool (p.d1.off)), (.int .i64 (p.fz)), (.bool (p.dn))]) A29 rfl rfl (List.forall_mem_cons.2 ⟨(h0.1.sv.one), (List.forall_mem_cons.2 ⟨(h0.2.1.sv.one), (List.forall_mem_cons.2 ⟨(h0.2.2.sv.one), (List.forall_mem_cons.2 ⟨rfl, (List.forall_mem_cons.2 ⟨(h1.1.sv.one), (List.forall_mem_cons.2 ⟨(h1.2.1.sv.one), (List.forall_mem_cons.2 ⟨(h1.2.2.sv.one), (List.forall_mem_cons.2 ⟨rfl, (List.forall_mem_cons.2 ⟨rfl, (List.forall_mem_cons.2 ⟨rfl, (fun _ h => by cases h)⟩)⟩)⟩)⟩)⟩)⟩)⟩)⟩)⟩)⟩) rfl hB4 ?_)
   exact ⟨Upd.refl _ _, rfl⟩
  intro val W10 hx10 he10
  replace hx10 := (Upd.drew _ _).trans hx10
  have hz10 := hx10.size
  replace h0 := h0.ext hx10
  replace h1 := h1.ext hx10
  replace hU := hU.trans (Ext.upd hx10)
  replace hB1 := hB1.ext hx10
  replace hB2 := hB2.ext hx10
  replace hB3 := hB3.ext hx10
  replace hB4 := hB4.ext hx10
  replace hB5 := hB5.ext hx10
  refine L_op0 (X_store (b := b5) (o := 0) T41 rfl rfl rfl hB5 (by show (0 : Nat) < 1; decide) ?_)
  intro w11 hu11 hb11
  have hz11 := hu11.size
  replace h0 := h0.upd hu11 fun i h1 h2 h => by have h : i = b5 := h; omega
  replace h1 := h1.upd hu11 fun i h1 h2 h => by have h : i = b5 := h; omega
  replace hU := hU.trans (hu11.mono fun i _ h => by have h : i = b5 := h; show n0 ≤ i; omega)
  replace hB1 := hB1.upd hu11 fun h => by have h : b1 = b5 := h; omega
  replace hB2 := hB2.upd hu11 fun h => by have h : b2 = b5 := h; omega
  replace hB3 := hB3.upd hu11 fun h => by have h : b3 = b5 := h; omega
  replace hB4 := hB4.upd hu11 fun h => by have h : b4 = b5 := h; omega
  replace hB5 : Blk w11 b5 #[(.int .i64 (readyD p.da))] 41 := hb11
  refine L_nil ?_
  refine T_n ?_
  refine W_ret ?_
  refine T_r ?_
  refine S_r ?_
  have hw_ : writeD p.da q pg = (p.da, readyD p.da) := if_neg (by omega)
  exact BQ_r (End_2 Try.results10 (v2 := .int .i64 (readyD p.da)) (RV_A A29 rfl hB4.atAll rfl) (RV_1 T41 rfl (hB5.at1 rfl)) ⟨p, lo0, up0, lo1, up1, by rw [hw_] <;> rfl, h0, h1, .inl ⟨rfl, rfl⟩, .inl ⟨rfl, rfl⟩, by rw [hw_], hU.own hn0⟩)
 ·refine L_op rfl (X_cmp (k := .i64) (a := readyD p.da) (b := 0) (r := false) rfl rfl rfl (decide_eq_false (p := ((readyD p.da) : Int) ≠ ((0) : Int)) (by omega)) ?_)
  refine L_nil ?_
  refine T_n ?_
  refine W_cf rfl ?_
  refine W_skip ?_
  refine T_n ?_
  refine W_seq ?_
  refine W_label ?_
  refine T_n ?_
  refine W_seq ?_
  refine W_seq ?_
  refine W_reg ?_
  refine L_op rfl (X_loadA (p := (ptr b2 (0))) (xs := ptC q) A35 rfl hB2.atAll rfl ?_)
  obtain ⟨nb, hnb⟩ : ∃ n, n = w8.heap.size := ⟨_, rfl⟩
  refine L_op rfl (X_fn (vs := [(.agg (ptC q).toArray)]) en27 rfl (CT.mono (c_copies q _) ?_))
  rintro _ w12 ⟨rfl, hK, hu12, hz12⟩
  rw [← hnb] at hK ⊢
  replace h0 := h0.ext hu12
  replace h1 := h1.ext hu12
  replace hU := hU.trans (Ext.upd hu12)
  replace hB1 := hB1.ext hu12
  replace hB2 := hB2.ext hu12
  replace hB3 := hB3.ext hu12
  replace hB4 := hB4.ext hu12
  replace hB5 := hB5.ext hu12
  refine L_nil ?_
  refine T_n ?_
  refine W_block ?_
  obtain ⟨nL, hnL⟩ : ∃ n, n = w12.heap.size := ⟨_, rfl⟩
  refine W_range (lb := [ptr nb 0]) (xs := (copX q)) rfl en40 (c_copies1 q nb _ hq hK) (Upd.refl _ _) rfl (fun x hx => by unfold copX at hx; obtain ⟨y, _, rfl⟩ := List.mem_map.1 hx; rfl) (fun b => b = b4 ∨ b = b5 ∨ nL + 2 ≤ b) (fun b hb_ => ⟨fun h => by have h : b = nb := h; rcases hb_ with h0 | h0 | h0 <;> omega, by rcases hb_ with h0 | h0 | h0 <;> omega, by rcases hb_ with h0 | h0 | h0 <;> omega⟩) (fun b hb_ h => by have h : b = nb := h; omega) (fun b h => h.elim) (fun k W => ∃ (p2 : Pr) (l0 u0 l1 u1 : Nat), Blk W b4 #[p2.d0.pv, p2.d0.cv, p2.d0.bv, .bool p2.d0.off, p2.d1.pv, p2.d1.cv, p2.d1.bv, .bool p2.d1.off, .int .i64 p2.fz, .bool p2.dn] 29 ∧ Blk W b5 #[.int .i64 0] 41 ∧ Blk W b3 (pg.1.map byteV).toArray 37 ∧ p2.d0.Rd W l0 u0 ∧ p2.d1.Rd W l1 u1 ∧ (l0 = lo0 ∧ u0 = up0 ∨ nL + 2 ≤ l0 ∧ u0 ≤ W.heap.size) ∧ (l1 = lo1 ∧ u1 = up1 ∨ nL + 2 ≤ l1 ∧ u1 ≤ W.heap.size) ∧ runL pg p.da (copL q) = runL pg p2.da ((copL q).drop k) ∧ Sz p2.da.a (1000000 + k) ∧ Sz p2.da.b (1000000 + k) ∧ p2.fz ≤ 1000000 ∧ Upd (fun i => n0 ≤ i) w W) (fun k e W => e = .exit 0 ∧ ∃ (p2 : Pr) (l0 u0 l1 u1 : Nat) (er : Int), Blk W b4 #[p2.d0.pv, p2.d0.cv, p2.d0.bv, .bool p2.d0.off, p2.d1.pv, p2.d1.cv, p2.d1.bv, .bool p2.d1.off, .int .i64 p2.fz, .bool p2.dn] 29 ∧ Blk W b5 #[.int .i64 er] 41 ∧ p2.d0.Rd W l0 u0 ∧ p2.d1.Rd W l1 u1 ∧ (l0 = lo0 ∧ u0 = up0 ∨ nL + 2 ≤ l0 ∧ u0 ≤ W.heap.size) ∧ (l1 = lo1 ∧ u1 = up1 ∨ nL + 2 ≤ l1 ∧ u1 ≤ W.heap.size) ∧ runL pg p.da (copL q) = (p2.da, er) ∧ Upd (fun i => n0 ≤ i) w W) (fun k W W2 hI hu => by obtain ⟨p2, l0, u0, l1, u1, hB4, hB5, hB3, hr0, hr1, hi0, hi1, hrun, hS0, hS1, hf2, hU⟩ := hI; have hzu := hu.size; exact ⟨p2, l0, u0, l1, u1, hB4.upd hu fun h => by { rcases h with h | h; (· exact h); (· omega) }, hB5.upd hu fun h => by { rcases h with h | h; (· exact h); (· omega) }, hB3.upd hu fun h => by { rcases h with h | h; (· exact h); (· omega) }, hr0.upd hu fun i h1 h2 h => by { rcases h with h | h; (· exact h); (· omega) }, hr1.upd hu fun i h1 h2 h => by { rcases h with h | h; (· exact h); (· omega) }, by omega, by omega, hrun, hS0, hS1, hf2, hU.trans (hu.mono fun i _ h => by { rcases h with h | h; (· exact h.elim); (· show n0 ≤ i; omega) })⟩) (fun k e W W2 hI hu => by obtain ⟨he, p2, l0, u0, l1, u1, er, hB4, hB5, hr0, hr1, hi0, hi1, hrun, hU⟩ := hI; have hzu := hu.size; exact ⟨he, p2, l0, u0, l1, u1, er, hB4.upd hu fun h => by { rcases h with h | h; (· exact h); (· omega) }, hB5.upd hu fun h => by { rcases h with h | h; (· exact h); (· omega) }, hr0.upd hu fun i h1 h2 h => by { rcases h with h | h; (· exact h); (· omega) }, hr1.upd hu fun i h1 h2 h => by { rcases h with h | h; (· exact h); (· omega) }, by omega, by omega, hrun, hU.trans (hu.mono fun i _ h => by { rcases h with h | h; (· exact h.elim); (· show n0 ≤ i; omega) })⟩) ?_ ?_ ?_ ?_
  ·intro W hx_ hs_
   exact ⟨p, lo0, up0, lo1, up1, hB4.ext hx_, (show Blk _ b5 #[.int .i64 0] 41 from (by rw [show readyD p.da = 0 by omega] at hB5; exact hB5)).ext hx_, hB3.ext hx_, h0.ext hx_, h1.ext hx_, .inl ⟨rfl, rfl⟩, .inl ⟨rfl, rfl⟩, rfl, hz0, hz1, hfz, hU.trans (Ext.upd hx_)⟩
  ·intro k x W hk_ hI_ hsz_ hlp_
   obtain ⟨p2, l0, u0, l1, u1, hB4, hB5, hB3, hr0, hr1, hi0, hi1, hrun, hS0, hS1, hf2, hU⟩ := hI_
   obtain ⟨di, a, hat, rfl, hdi, ha0, ha1⟩ := copX_at hq hk_
   have hkl := (List.getElem?_eq_some_iff.1 hat).1
   have hcl4 := copL_len q
   rw [drop_at hat] at hrun
   have hD := Upd.refl (fun b => b = b4 ∨ b = b5 ∨ nL + 2 ≤ b) W
   refine W_seq ?_
   refine W_reg ?_
   rcases hdi with rfl | rfl
   ·refine L_op rfl (X_assign (v := (.int .i64 (0))) rfl ?_)
    refine L_nil ?_
    refine T_n ?_
    refine W_reg ?_
    refine L_op rfl (X_assign (v := (.int .i64 (a))) rfl ?_)
    refine L_nil ?_
    refine T_n ⟨hD, fun W2 hu2_ hlp2_ => ?_⟩
    have hsz2_ := hu2_.size
    replace hB4 := hB4.upd hu2_ fun h => by have h : b4 = nL + 1 := (by rw [hnL]; exact h); omega
    replace hB5 := hB5.upd hu2_ fun h => by have h : b5 = nL + 1 := (by rw [hnL]; exact h); omega
    replace hB3 := hB3.upd hu2_ fun h => by have h : b3 = nL + 1 := (by rw [hnL]; exact h); omega
    replace hr0 := hr0.upd hu2_ fun i h1 h2 h => by have h : i = nL + 1 := (by rw [hnL]; exact h); omega
    replace hr1 := hr1.upd hu2_ fun i h1 h2 h => by have h : i = nL + 1 := (by rw [hnL]; exact h); omega
    replace hU := hU.trans (hu2_.mono fun i _ h => by have h : i = nL + 1 := (by rw [hnL]; exact h); show n0 ≤ i; omega)
    have hD := Upd.refl (fun b => b = b4 ∨ b = b5 ∨ nL + 2 ≤ b) W2
    refine W_block ?_
    refine W_seq ?_
    refine W_seq ?_
    refine W_reg ?_
    refine L_op rfl (X_move (v := (.int .i64 (0))) rfl ?_)
    refine L_op rfl (X_fldP (b := b4) (o := 0) (r := 0) Fd29_0 rfl rfl ?_)
    refine L_op rfl (X_idxAP (len := 2) (sz := 4) (b := b4) (o := 0) (k := .i64) (i := 0) (r := 0) Try.underlying27 Z26 rfl rfl (by omega) (by omega) rfl ?_)
    refine L_op rfl (X_fldP (b := b4) (o := 0) (r := 3) Fd26_3 rfl rfl ?_)
    rcases Bool.eq_false_or_eq_true (p2.d0.off) with hs13 | hs13
    ·refine L_op rfl (X_load (p := (ptr b4 (3))) (v := .bool true) T4 rfl (hB4.at1 (by rw [hs13]; rfl)) ?_)
     refine L_nil ?_
     refine T_n ?_
     refine W_ct rfl ?_
     refine W_exit ?_
     refine T_e ?_
     refine B_x ?_
     exact RQ_n hD ⟨p2, l0, u0, l1, u1, hB4, hB5, hB3, hr0, hr1, by omega, by omega, hrun.trans (run_off (show (PD.dk p2.da (Int.toNat 0)).off = true from hs13)), hS0.mono (by omega), hS1.mono (by omega), hf2, hU⟩
    ·refine L_op rfl (X_load (p := (ptr b4 (3))) (v := .bool false) T4 rfl (hB4.at1 (by rw [hs13]; rfl)) ?_)
     refine L_nil ?_
     refine T_n ?_
     refine W_cf rfl ?_
     refine W_skip ?_
     refine T_n ?_
     refine W_seq ?_
     refine W_reg ?_
     refine L_op rfl (X_loadA (p := (ptr b4 (0))) (xs := [p2.d0.pv, p2.d0.cv, p2.d0.bv, (.bool (p2.d0.off)), p2.d1.pv, p2.d1.cv, p2.d1.bv, (.bool (p2.d1.off)), (.int .i64 (p2.fz)), (.bool (p2.dn))]) A29 rfl hB4.atAll rfl ?_)
     refine L_op rfl (X_move (v := (.int .i64 (0))) rfl ?_)
     refine L_op rfl (X_move (v := (.int .i64 (a))) rfl ?_)
     refine L_op rfl (X_loadA (p := (ptr b3 (0))) (xs := ((pg.1).map byteV)) A37 rfl hB3.atAll (by rw [List.length_map]; exact pg.2) ?_)
     obtain ⟨sq, hsq⟩ : ∃ n, n = W2.heap.size := ⟨_, rfl⟩
     have hcr_ := c_putA0 p2 a pg W2 hf2 l0 u0 l1 u1 (by omega) (by omega) hr0 hr1 (hS0.mono (by omega))
     refine L_op rfl (X_fn (vs := [(.agg ([p2.d0.pv, p2.d0.cv, p2.d0.bv, (.bool (p2.d0.off)), p2.d1.pv, p2.d1.cv, p2.d1.bv, (.bool (p2.d1.off)), (.int .i64 (p2.fz)), (.bool (p2.dn))]).toArray), (.int .i64 (0)), (.int .i64 (a)), (.agg (((pg.1).map byteV)).toArray)]) en21 rfl ?_)
     refine CT.mono hcr_ ?_
     clear hcr_
     rintro _ w14 ⟨pq, l0q, u0q, l1q, u1q, rfl, hq0, hq1, hiq0, hiq1, _, _, hdaq, hu14⟩
     have hz14 := hu14.size
     obtain ⟨eq, heq⟩ : ∃ z, z = (putD p2.da 0 a pg).2 := ⟨_, rfl⟩
     rw [← heq]
     obtain ⟨uq, huq⟩ : ∃ n, n = w14.heap.size := ⟨_, rfl⟩
     rw [← hsq, ← huq] at hiq0 hiq1
     replace hB4 := hB4.ext hu14
     replace hB5 := hB5.ext hu14
     replace hB3 := hB3.ext hu14
     replace hr0 := hr0.ext hu14
     replace hr1 := hr1.ext hu14
     replace hU := hU.trans (Ext.upd hu14)
     replace hD := hD.trans (Ext.upd hu14)
     refine L_op rfl (X_move (v := (.tuple #[(.agg #[pq.d0.pv, pq.d0.cv, pq.d0.bv, (.bool (pq.d0.off)), pq.d1.pv, pq.d1.cv, pq.d1.bv, (.bool (pq.d1.off)), (.int .i64 (pq.fz)), (.bool (pq.dn))]), (.int .i64 (eq))])) rfl ?_)
     refine L_op rfl (X_extract (l := [(.agg #[pq.d0.pv, pq.d0.cv, pq.d0.bv, (.bool (pq.d0.off)), pq.d1.pv, pq.d1.cv, pq.d1.bv, (.bool (pq.d1.off)), (.int .i64 (pq.fz)), (.bool (pq.dn))]), (.int .i64 (eq))]) (v := (.agg #[pq.d0.pv, pq.d0.cv, pq.d0.bv, (.bool (pq.d0.off)), pq.d1.pv, pq.d1.cv, pq.d1.bv, (.bool (pq.d1.off)), (.int .i64 (pq.fz)), (.bool (pq.dn))])) rfl rfl ?_)
     refine L_op rfl (X_extract (l := [(.agg #[pq.d0.pv, pq.d0.cv, pq.d0.bv, (.bool (pq.d0.off)), pq.d1.pv, pq.d1.cv, pq.d1.bv, (.bool (pq.d1.off)), (.int .i64 (pq.fz)), (.bool (pq.dn))]), (.int .i64 (eq))]) (v := (.int .i64 (eq))) rfl rfl ?_)
     refine L_op0 (X_storeW (b := b4) (ys := [pq.d0.pv, pq.d0.cv, pq.d0.bv, (.bool (pq.d0.off)), pq.d1.pv, pq.d1.cv, pq.d1.bv, (.bool (pq.d1.off)), (.int .i64 (pq.fz)), (.bool (pq.dn))]) A29 rfl rfl (List.forall_mem_cons.2 ⟨(hq0.1.sv.one), (List.forall_mem_cons.2 ⟨(hq0.2.1.sv.one), (List.forall_mem_cons.2 ⟨(hq0.2.2.sv.one), (List.forall_mem_cons.2 ⟨rfl, (List.forall_mem_cons.2 ⟨(hq1.1.sv.one), (List.forall_mem_cons.2 ⟨(hq1.2.1.sv.one), (List.forall_mem_cons.2 ⟨(hq1.2.2.sv.one), (List.forall_mem_cons.2 ⟨rfl, (List.forall_mem_cons.2 ⟨rfl, (List.forall_mem_cons.2 ⟨rfl, (fun _ h => by cases h)⟩)⟩)⟩)⟩)⟩)⟩)⟩)⟩)⟩)⟩) rfl hB4 rfl ?_)
     intro w15 hu15 hb15
     have hz15 := hu15.size
     replace hB5 := hB5.upd hu15 fun h => by have h : b5 = b4 := h; omega
     replace hB3 := hB3.upd hu15 fun h => by have h : b3 = b4 := h; omega
     replace hr0 := hr0.upd hu15 fun i h1 h2 h => by have h : i = b4 := h; omega
     replace hr1 := hr1.upd hu15 fun i h1 h2 h => by have h : i = b4 := h; omega
     replace hU := hU.trans (hu15.mono fun i _ h => by have h : i = b4 := h; show n0 ≤ i; omega)
     replace hD := hD.trans (hu15.mono fun i _ h => by have h : i = b4 := h; show i = b4 ∨ i = b5 ∨ nL + 2 ≤ i; omega)
     replace hq0 := hq0.upd hu15 fun i h1 h2 h => by have h : i = b4 := h; omega
     replace hq1 := hq1.upd hu15 fun i h1 h2 h => by have h : i = b4 := h; omega
     replace hB4 : Blk w15 b4 #[pq.d0.pv, pq.d0.cv, pq.d0.bv, (.bool (pq.d0.off)), pq.d1.pv, pq.d1.cv, pq.d1.bv, (.bool (pq.d1.off)), (.int .i64 (pq.fz)), (.bool (pq.dn))] 29 := hb15
     refine L_op0 (X_store (b := b5) (o := 0) T41 rfl rfl rfl hB5 (by show (0 : Nat) < 1; decide) ?_)
     intro w16 hu16 hb16
     have hz16 := hu16.size
     replace hB3 := hB3.upd hu16 fun h => by have h : b3 = b5 := h; omega
     replace hr0 := hr0.upd hu16 fun i h1 h2 h => by have h : i = b5 := h; omega
     replace hr1 := hr1.upd hu16 fun i h1 h2 h => by have h : i = b5 := h; omega
     replace hU := hU.trans (hu16.mono fun i _ h => by have h : i = b5 := h; show n0 ≤ i; omega)
     replace hD := hD.trans (hu16.mono fun i _ h => by have h : i = b5 := h; show i = b4 ∨ i = b5 ∨ nL + 2 ≤ i; omega)
     replace hq0 := hq0.upd hu16 fun i h1 h2 h => by have h : i = b5 := h; omega
     replace hq1 := hq1.upd hu16 fun i h1 h2 h => by have h : i = b5 := h; omega
     replace hB4 := hB4.upd hu16 fun h => by have h : b4 = b5 := h; omega
     replace hB5 : Blk w16 b5 #[(.int .i64 (eq))] 41 := hb16
     refine L_nil ?_
     refine T_n ?_
     refine W_seq ?_
     refine W_reg ?_
     refine L_op rfl (X_load (p := (ptr b5 (0))) (v := (.int .i64 (eq))) T41 rfl (hB5.at1 rfl) ?_)
     by_cases hc17 : (eq : Int) ≠ (0)
     ·refine L_op rfl (X_cmp (k := .i64) (a := eq) (b := 0) (r := true) rfl rfl rfl (decide_eq_true (p := ((eq) : Int) ≠ ((0) : Int)) (by omega)) ?_)
      refine L_nil ?_
      refine T_n ?_
      refine W_ct rfl ?_
      refine W_exit ?_
      refine B_e rfl ?_
      exact RQ_e hD ⟨rfl, pq, l0q, u0q, l1q, u1q, eq, hB4, hB5, hq0, hq1, by omega, by omega, by rw [hrun, run_er (show (PD.dk p2.da (Int.toNat 0)).off = false from hs13) (by show (putD p2.da 0 a pg).2 ≠ 0; omega), hdaq, heq]; rfl, hU⟩
     ·refine L_op rfl (X_cmp (k := .i64) (a := eq) (b := 0) (r := false) rfl rfl rfl (decide_eq_false (p := ((eq) : Int) ≠ ((0) : Int)) (by omega)) ?_)
      refine L_nil ?_
      refine T_n ?_
      refine W_cf rfl ?_
      refine W_skip ?_
      refine B_n ?_
      have he0_ : eq = 0 := by omega
      have hsz_q := put_sz (i := 0) (n := a) (pg := pg) hS0 hS1
      have hle_q : pq.fz ≤ p2.fz := by have h_ := does_le p2.da 0 (fun d => wrD d a pg); have h2_ : pq.fz = (putD p2.da 0 a pg).1.fz := congrArg PD.fz hdaq; rw [h2_]; exact h_
      rw [he0_] at hB5
      rw [← hdaq] at hsz_q
      exact RQ_n hD ⟨pq, l0q, u0q, l1q, u1q, hB4, hB5, hB3, hq0, hq1, by omega, by omega, by rw [hrun, run_ok (show (PD.dk p2.da (Int.toNat 0)).off = false from hs13) (by show (putD p2.da 0 a pg).2 = 0; omega)]; show runL pg (putD p2.da 0 a pg).1 _ = _; rw [← hdaq], hsz_q.1, hsz_q.2, by omega, hU⟩
   ·refine L_op rfl (X_assign (v := (.int .i64 (1))) rfl ?_)
    refine L_nil ?_
    refine T_n ?_
    refine W_reg ?_
    refine L_op rfl (X_assign (v := (.int .i64 (a))) rfl ?_)
    refine L_nil ?_
    refine T_n ⟨hD, fun W2 hu2_ hlp2_ => ?_⟩
    have hsz2_ := hu2_.size
    replace hB4 := hB4.upd hu2_ fun h => by have h : b4 = nL + 1 := (by rw [hnL]; exact h); omega
    replace hB5 := hB5.upd hu2_ fun h => by have h : b5 = nL + 1 := (by rw [hnL]; exact h); omega
    replace hB3 := hB3.upd hu2_ fun h => by have h : b3 = nL + 1 := (by rw [hnL]; exact h); omega
    replace hr0 := hr0.upd hu2_ fun i h1 h2 h => by have h : i = nL + 1 := (by rw [hnL]; exact h); omega
    replace hr1 := hr1.upd hu2_ fun i h1 h2 h => by have h : i = nL + 1 := (by rw [hnL]; exact h); omega
    replace hU := hU.trans (hu2_.mono fun i _ h => by have h : i = nL + 1 := (by rw [hnL]; exact h); show n0 ≤ i; omega)
    have hD := Upd.refl (fun b => b = b4 ∨ b = b5 ∨ nL + 2 ≤ b) W2
    refine W_block ?_
    refine W_seq ?_
    refine W_seq ?_
    refine W_reg ?_
    refine L_op rfl (X_move (v := (.int .i64 (1))) rfl ?_)
    refine L_op rfl (X_fldP (b := b4) (o := 0) (r := 0) Fd29_0 rfl rfl ?_)
    refine L_op rfl (X_idxAP (len := 2) (sz := 4) (b := b4) (o := 0) (k := .i64) (i := 1) (r := 4) Try.underlying27 Z26 rfl rfl (by omega) (by omega) rfl ?_)
    refine L_op rfl (X_fldP (b := b4) (o := 4) (r := 7) Fd26_3 rfl rfl ?_)
    rcases Bool.eq_false_or_eq_true (p2.d1.off) with hs18 | hs18
    ·refine L_op rfl (X_load (p := (ptr b4 (7))) (v := .bool true) T4 rfl (hB4.at1 (by rw [hs18]; rfl)) ?_)
     refine L_nil ?_
     refine T_n ?_
     refine W_ct rfl ?_
     refine W_exit ?_
     refine T_e ?_
     refine B_x ?_
     exact RQ_n hD ⟨p2, l0, u0, l1, u1, hB4, hB5, hB3, hr0, hr1, by omega, by omega, hrun.trans (run_off (show (PD.dk p2.da (Int.toNat 1)).off = true from hs18)), hS0.mono (by omega), hS1.mono (by omega), hf2, hU⟩
    ·refine L_op rfl (X_load (p := (ptr b4 (7))) (v := .bool false) T4 rfl (hB4.at1 (by rw [hs18]; rfl)) ?_)
     refine L_nil ?_
     refine T_n ?_
     refine W_cf rfl ?_
     refine W_skip ?_
     refine T_n ?_
     refine W_seq ?_
     refine W_reg ?_
     refine L_op rfl (X_loadA (p := (ptr b4 (0))) (xs := [p2.d0.pv, p2.d0.cv, p2.d0.bv, (.bool (p2.d0.off)), p2.d1.pv, p2.d1.cv, p2.d1.bv, (.bool (p2.d1.off)), (.int .i64 (p2.fz)), (.bool (p2.dn))]) A29 rfl hB4.atAll rfl ?_)
     refine L_op rfl (X_move (v := (.int .i64 (1))) rfl ?_)
     refine L_op rfl (X_move (v := (.int .i64 (a))) rfl ?_)
     refine L_op rfl (X_loadA (p := (ptr b3 (0))) (xs := ((pg.1).map byteV)) A37 rfl hB3.atAll (by rw [List.length_map]; exact pg.2) ?_)
     obtain ⟨sq, hsq⟩ : ∃ n, n = W2.heap.size := ⟨_, rfl⟩
     have hcr_ := c_putA1 p2 a pg W2 hf2 l0 u0 l1 u1 (by omega) (by omega) hr0 hr1 (hS1.mono (by omega))
     refine L_op rfl (X_fn (vs := [(.agg ([p2.d0.pv, p2.d0.cv, p2.d0.bv, (.bool (p2.d0.off)), p2.d1.pv, p2.d1.cv, p2.d1.bv, (.bool (p2.d1.off)), (.int .i64 (p2.fz)), (.bool (p2.dn))]).toArray), (.int .i64 (1)), (.int .i64 (a)), (.agg (((pg.1).map byteV)).toArray)]) en21 rfl ?_)
     refine CT.mono hcr_ ?_
     clear hcr_
     rintro _ w19 ⟨pq, l0q, u0q, l1q, u1q, rfl, hq0, hq1, hiq0, hiq1, _, _, hdaq, hu19⟩
     have hz19 := hu19.size
     obtain ⟨eq, heq⟩ : ∃ z, z = (putD p2.da 1 a pg).2 := ⟨_, rfl⟩
     rw [← heq]
     obtain ⟨uq, huq⟩ : ∃ n, n = w19.heap.size := ⟨_, rfl⟩
     rw [← hsq, ← huq] at hiq0 hiq1
     replace hB4 := hB4.ext hu19
     replace hB5 := hB5.ext hu19
     replace hB3 := hB3.ext hu19
     replace hr0 := hr0.ext hu19
     replace hr1 := hr1.ext hu19
     replace hU := hU.trans (Ext.upd hu19)
     replace hD := hD.trans (Ext.upd hu19)
     refine L_op rfl (X_move (v := (.tuple #[(.agg #[pq.d0.pv, pq.d0.cv, pq.d0.bv, (.bool (pq.d0.off)), pq.d1.pv, pq.d1.cv, pq.d1.bv, (.bool (pq.d1.off)), (.int .i64 (pq.fz)), (.bool (pq.dn))]), (.int .i64 (eq))])) rfl ?_)
     refine L_op rfl (X_extract (l := [(.agg #[pq.d0.pv, pq.d0.cv, pq.d0.bv, (.bool (pq.d0.off)), pq.d1.pv, pq.d1.cv, pq.d1.bv, (.bool (pq.d1.off)), (.int .i64 (pq.fz)), (.bool (pq.dn))]), (.int .i64 (eq))]) (v := (.agg #[pq.d0.pv, pq.d0.cv, pq.d0.bv, (.bool (pq.d0.off)), pq.d1.pv, pq.d1.cv, pq.d1.bv, (.bool (pq.d1.off)), (.int .i64 (pq.fz)), (.bool (pq.dn))])) rfl rfl ?_)
     refine L_op rfl (X_extract (l := [(.agg #[pq.d0.pv, pq.d0.cv, pq.d0.bv, (.bool (pq.d0.off)), pq.d1.pv, pq.d1.cv, pq.d1.bv, (.bool (pq.d1.off)), (.int .i64 (pq.fz)), (.bool (pq.dn))]), (.int .i64 (eq))]) (v := (.int .i64 (eq))) rfl rfl ?_)
     refine L_op0 (X_storeW (b := b4) (ys := [pq.d0.pv, pq.d0.cv, pq.d0.bv, (.bool (pq.d0.off)), pq.d1.pv, pq.d1.cv, pq.d1.bv, (.bool (pq.d1.off)), (.int .i64 (pq.fz)), (.bool (pq.dn))]) A29 rfl rfl (List.forall_mem_cons.2 ⟨(hq0.1.sv.one), (List.forall_mem_cons.2 ⟨(hq0.2.1.sv.one), (List.forall_mem_cons.2 ⟨(hq0.2.2.sv.one), (List.forall_mem_cons.2 ⟨rfl, (List.forall_mem_cons.2 ⟨(hq1.1.sv.one), (List.forall_mem_cons.2 ⟨(hq1.2.1.sv.one), (List.forall_mem_cons.2 ⟨(hq1.2.2.sv.one), (List.forall_mem_cons.2 ⟨rfl, (List.forall_mem_cons.2 ⟨rfl, (List.forall_mem_cons.2 ⟨rfl, (fun _ h => by cases h)⟩)⟩)⟩)⟩)⟩)⟩)⟩)⟩)⟩)⟩) rfl hB4 rfl ?_)
     intro w20 hu20 hb20
     have hz20 := hu20.size
     replace hB5 := hB5.upd hu20 fun h => by have h : b5 = b4 := h; omega
     replace hB3 := hB3.upd hu20 fun h => by have h : b3 = b4 := h; omega
     replace hr0 := hr0.upd hu20 fun i h1 h2 h => by have h : i = b4 := h; omega
     replace hr1 := hr1.upd hu20 fun i h1 h2 h => by have h : i = b4 := h; omega
     replace hU := hU.trans (hu20.mono fun i _ h => by have h : i = b4 := h; show n0 ≤ i; omega)
     replace hD := hD.trans (hu20.mono fun i _ h => by have h : i = b4 := h; show i = b4 ∨ i = b5 ∨ nL + 2 ≤ i; omega)
     replace hq0 := hq0.upd hu20 fun i h1 h2 h => by have h : i = b4 := h; omega
     replace hq1 := hq1.upd hu20 fun i h1 h2 h => by have h : i = b4 := h; omega
     replace hB4 : Blk w20 b4 #[pq.d0.pv, pq.d0.cv, pq.d0.bv, (.bool (pq.d0.off)), pq.d1.pv, pq.d1.cv, pq.d1.bv, (.bool (pq.d1.off)), (.int .i64 (pq.fz)), (.bool (pq.dn))] 29 := hb20
     refine L_op0 (X_store (b := b5) (o := 0) T41 rfl rfl rfl hB5 (by show (0 : Nat) < 1; decide) ?_)
     intro w21 hu21 hb21
     have hz21 := hu21.size
     replace hB3 := hB3.upd hu21 fun h => by have h : b3 = b5 := h; omega
     replace hr0 := hr0.upd hu21 fun i h1 h2 h => by have h : i = b5 := h; omega
     replace hr1 := hr1.upd hu21 fun i h1 h2 h => by have h : i = b5 := h; omega
     replace hU := hU.trans (hu21.mono fun i _ h => by have h : i = b5 := h; show n0 ≤ i; omega)
     replace hD := hD.trans (hu21.mono fun i _ h => by have h : i = b5 := h; show i = b4 ∨ i = b5 ∨ nL + 2 ≤ i; omega)
     replace hq0 := hq0.upd hu21 fun i h1 h2 h => by have h : i = b5 := h; omega
     replace hq1 := hq1.upd hu21 fun i h1 h2 h => by have h : i = b5 := h; omega
     replace hB4 := hB4.upd hu21 fun h => by have h : b4 = b5 := h; omega
     replace hB5 : Blk w21 b5 #[(.int .i64 (eq))] 41 := hb21
     refine L_nil ?_
     refine T_n ?_
     refine W_seq ?_
     refine W_reg ?_
     refine L_op rfl (X_load (p := (ptr b5 (0))) (v := (.int .i64 (eq))) T41 rfl (hB5.at1 rfl) ?_)
     by_cases hc22 : (eq : Int) ≠ (0)
     ·refine L_op rfl (X_cmp (k := .i64) (a := eq) (b := 0) (r := true) rfl rfl rfl (decide_eq_true (p := ((eq) : Int) ≠ ((0) : Int)) (by omega)) ?_)
      refine L_nil ?_
      refine T_n ?_
      refine W_ct rfl ?_
      refine W_exit ?_
      refine B_e rfl ?_
      exact RQ_e hD ⟨rfl, pq, l0q, u0q, l1q, u1q, eq, hB4, hB5, hq0, hq1, by omega, by omega, by rw [hrun, run_er (show (PD.dk p2.da (Int.toNat 1)).off = false from hs18) (by show (putD p2.da 1 a pg).2 ≠ 0; omega), hdaq, heq]; rfl, hU⟩
     ·refine L_op rfl (X_cmp (k := .i64) (a := eq) (b := 0) (r := false) rfl rfl rfl (decide_eq_false (p := ((eq) : Int) ≠ ((0) : Int)) (by omega)) ?_)
      refine L_nil ?_
      refine T_n ?_
      refine W_cf rfl ?_
      refine W_skip ?_
      refine B_n ?_
      have he0_ : eq = 0 := by omega
      have hsz_q := put_sz (i := 1) (n := a) (pg := pg) hS0 hS1
      have hle_q : pq.fz ≤ p2.fz := by have h_ := does_le p2.da 1 (fun d => wrD d a pg); have h2_ : pq.fz = (putD p2.da 1 a pg).1.fz := congrArg PD.fz hdaq; rw [h2_]; exact h_
      rw [he0_] at hB5
      rw [← hdaq] at hsz_q
      exact RQ_n hD ⟨pq, l0q, u0q, l1q, u1q, hB4, hB5, hB3, hq0, hq1, by omega, by omega, by rw [hrun, run_ok (show (PD.dk p2.da (Int.toNat 1)).off = false from hs18) (by show (putD p2.da 1 a pg).2 = 0; omega)]; show runL pg (putD p2.da 1 a pg).1 _ = _; rw [← hdaq], hsz_q.1, hsz_q.2, by omega, hU⟩
  ·intro W hI_ hd_
   obtain ⟨p2, l0, u0, l1, u1, hB4, hB5, hB3, hr0, hr1, hi0, hi1, hrun, hS0, hS1, hf2, hU⟩ := hI_
   rw [copX_len, List.drop_length] at hrun
   replace hrun : runL pg p.da (copL q) = (p2.da, 0) := hrun
   have hd : Dfd W nL := by rw [hnL]; exact hd_
   refine B_n ?_
   refine T_n ?_
   refine W_seq ?_
   refine W_draw 3 [[], [], [0], [0, 1, 2]] mixed (by kernel_rfl) ?_
   refine ⟨.det (fun val => (.agg ([p2.d0.pv, p2.d0.cv, p2.d0.bv, (.bool (p2.d0.off)), p2.d1.pv, p2.d1.cv, p2.d1.bv, (.bool (p2.d1.off)), (.int .i64 (p2.fz)), (.bool (p2.dn))]).toArray)), ⟨fun _ _ hv => rfl, fun _ _ _ _ _ => trivial⟩, fun val h_ W hx he => ⟨trivial, ?_⟩, ?_⟩
   ·replace hx := (Upd.drew _ _).trans hx
    replace hB4 := hB4.ext hx
    refine id (X_loadA (p := (ptr b4 (0))) (xs := [p2.d0.pv, p2.d0.cv, p2.d0.bv, (.bool (p2.d0.off)), p2.d1.pv, p2.d1.cv, p2.d1.bv, (.bool (p2.d1.off)), (.int .i64 (p2.fz)), (.bool (p2.dn))]) A29 rfl hB4.atAll rfl ?_)
    exact ⟨Upd.refl _ _, rfl⟩
   refine ⟨.det (fun val => (.int .i64 (0))), ⟨fun _ _ hv => rfl, fun _ _ _ _ _ => trivial⟩, fun val h_ W hx he => ⟨trivial, ?_⟩, ?_⟩
   ·replace hx := (Upd.drew _ _).trans hx
    replace hB5 := hB5.ext hx
    refine id (X_load (p := (ptr b5 (0))) (v := (.int .i64 (0))) T41 rfl (hB5.at1 rfl) ?_)
    exact ⟨Upd.refl _ _, rfl⟩
   refine ⟨.det (fun val => undef), ⟨fun _ _ hv => rfl, fun _ _ _ _ _ => trivial⟩, fun val h_ W hx he => ⟨trivial, ?_⟩, ?_⟩
   ·replace hx := (Upd.drew _ _).trans hx
    replace hB4 := hB4.ext hx
    replace hr0 := hr0.ext hx
    replace hr1 := hr1.ext hx
    refine id (X_storeSameW (ys := [p2.d0.pv, p2.d0.cv, p2.d0.bv, (.bool (p2.d0.off)), p2.d1.pv, p2.d1.cv, p2.d1.bv, (.bool (p2.d1.off)), (.int .i64 (p2.fz)), (.bool (p2.dn))]) A29 rfl rfl (List.forall_mem_cons.2 ⟨(hr0.1.sv.one), (List.forall_mem_cons.2 ⟨(hr0.2.1.sv.one), (List.forall_mem_cons.2 ⟨(hr0.2.2.sv.one), (List.forall_mem_cons.2 ⟨rfl, (List.forall_mem_cons.2 ⟨(hr1.1.sv.one), (List.forall_mem_cons.2 ⟨(hr1.2.1.sv.one), (List.forall_mem_cons.2 ⟨(hr1.2.2.sv.one), (List.forall_mem_cons.2 ⟨rfl, (List.forall_mem_cons.2 ⟨rfl, (List.forall_mem_cons.2 ⟨rfl, (fun _ h => by cases h)⟩)⟩)⟩)⟩)⟩)⟩)⟩)⟩)⟩)⟩) rfl hB4 ?_)
    exact ⟨Upd.refl _ _, rfl⟩
   intro val W23 hx23 he23
   replace hx23 := (Upd.drew _ _).trans hx23
   have hz23 := hx23.size
   replace hU := hU.trans (Ext.upd hx23)
   replace hd := hd.ext hx23
   replace hB4 := hB4.ext hx23
   replace hB5 := hB5.ext hx23
   replace hr0 := hr0.ext hx23
   replace hr1 := hr1.ext hx23
   refine L_op0 (X_store (b := b5) (o := 0) T41 rfl rfl rfl hB5 (by show (0 : Nat) < 1; decide) ?_)
   intro w24 hu24 hb24
   have hz24 := hu24.size
   replace hU := hU.trans (hu24.mono fun i _ h => by have h : i = b5 := h; show n0 ≤ i; omega)
   replace hd := hd.upd hu24 fun h => by have h : nL = b5 := h; omega
   replace hB4 := hB4.upd hu24 fun h => by have h : b4 = b5 := h; omega
   replace hr0 := hr0.upd hu24 fun i h1 h2 h => by have h : i = b5 := h; omega
   replace hr1 := hr1.upd hu24 fun i h1 h2 h => by have h : i = b5 := h; omega
   replace hB5 : Blk w24 b5 #[(.int .i64 (0))] 41 := hb24
   refine L_nil ?_
   refine T_n ?_
   refine W_ret ?_
   refine S_r ?_
   have hw_ : writeD p.da q pg = (p2.da, 0) := (if_pos (by omega)).trans hrun
   refine BQ_r (End_m (hnL ▸ hd) fun w9 hu9 => ?_)
   have hz9 := hu9.size
   exact End_2 Try.results10 (v2 := .int .i64 0) (RV_A A29 rfl (hB4.upd hu9 fun h => by have h : b4 = nL := (by rw [hnL]; exact h); omega).atAll rfl) (RV_1 T41 rfl ((hB5.upd hu9 fun h => by have h : b5 = nL := (by rw [hnL]; exact h); omega).at1 rfl)) ⟨p2, l0, u0, l1, u1, by rw [hw_] <;> rfl, hr0.upd hu9 fun i h1 h2 h => by have h : i = nL := (by rw [hnL]; exact h); omega, hr1.upd hu9 fun i h1 h2 h => by have h : i = nL := (by rw [hnL]; exact h); omega, by omega, by omega, by rw [hw_], (hU.trans (hu9.mono fun i _ h => by have h : i = nL := (by rw [hnL]; exact h); show n0 ≤ i; omega)).own hn0⟩
  ·intro k e W hk_ hI_ hd_ he_
   obtain ⟨rfl, p2, l0, u0, l1, u1, er, hB4, hB5, hr0, hr1, hi0, hi1, hrun, hU⟩ := hI_
   have hd : Dfd W nL := by rw [hnL]; exact hd_
   refine B_x ?_
   refine T_n ?_
   refine W_seq ?_
   refine W_draw 3 [[], [], [0], [0, 1, 2]] mixed (by kernel_rfl) ?_
   refine ⟨.det (fun val => (.agg ([p2.d0.pv, p2.d0.cv, p2.d0.bv, (.bool (p2.d0.off)), p2.d1.pv, p2.d1.cv, p2.d1.bv, (.bool (p2.d1.off)), (.int .i64 (p2.fz)), (.bool (p2.dn))]).toArray)), ⟨fun _ _ hv => rfl, fun _ _ _ _ _ => trivial⟩, fun val h_ W hx he => ⟨trivial, ?_⟩, ?_⟩
   ·replace hx := (Upd.drew _ _).trans hx
    replace hB4 := hB4.ext hx
    refine id (X_loadA (p := (ptr b4 (0))) (xs := [p2.d0.pv, p2.d0.cv, p2.d0.bv, (.bool (p2.d0.off)), p2.d1.pv, p2.d1.cv, p2.d1.bv, (.bool (p2.d1.off)), (.int .i64 (p2.fz)), (.bool (p2.dn))]) A29 rfl hB4.atAll rfl ?_)
    exact ⟨Upd.refl _ _, rfl⟩
   refine ⟨.det (fun val => (.int .i64 (er))), ⟨fun _ _ hv => rfl, fun _ _ _ _ _ => trivial⟩, fun val h_ W hx he => ⟨trivial, ?_⟩, ?_⟩
   ·replace hx := (Upd.drew _ _).trans hx
    replace hB5 := hB5.ext hx
    refine id (X_load (p := (ptr b5 (0))) (v := (.int .i64 (er))) T41 rfl (hB5.at1 rfl) ?_)
    exact ⟨Upd.refl _ _, rfl⟩
   refine ⟨.det (fun val => undef), ⟨fun _ _ hv => rfl, fun _ _ _ _ _ => trivial⟩, fun val h_ W hx he => ⟨trivial, ?_⟩, ?_⟩
   ·replace hx := (Upd.drew _ _).trans hx
    replace hB4 := hB4.ext hx
    replace hr0 := hr0.ext hx
    replace hr1 := hr1.ext hx
    refine id (X_storeSameW (ys := [p2.d0.pv, p2.d0.cv, p2.d0.bv, (.bool (p2.d0.off)), p2.d1.pv, p2.d1.cv, p2.d1.bv, (.bool (p2.d1.off)), (.int .i64 (p2.fz)), (.bool (p2.dn))]) A29 rfl rfl (List.forall_mem_cons.2 ⟨(hr0.1.sv.one), (List.forall_mem_cons.2 ⟨(hr0.2.1.sv.one), (List.forall_mem_cons.2 ⟨(hr0.2.2.sv.one), (List.forall_mem_cons.2 ⟨rfl, (List.forall_mem_cons.2 ⟨(hr1.1.sv.one), (List.forall_mem_cons.2 ⟨(hr1.2.1.sv.one), (List.forall_mem_cons.2 ⟨(hr1.2.2.sv.one), (List.forall_mem_cons.2 ⟨rfl, (List.forall_mem_cons.2 ⟨rfl, (List.forall_mem_cons.2 ⟨rfl, (fun _ h => by cases h)⟩)⟩)⟩)⟩)⟩)⟩)⟩)⟩)⟩)⟩) rfl hB4 ?_)
    exact ⟨Upd.refl _ _, rfl⟩
   intro val W25 hx25 he25
   replace hx25 := (Upd.drew _ _).trans hx25
   have hz25 := hx25.size
   replace hU := hU.trans (Ext.upd hx25)
   replace hd := hd.ext hx25
   replace hB4 := hB4.ext hx25
   replace hB5 := hB5.ext hx25
   replace hr0 := hr0.ext hx25
   replace hr1 := hr1.ext hx25
   refine L_op0 (X_store (b := b5) (o := 0) T41 rfl rfl rfl hB5 (by show (0 : Nat) < 1; decide) ?_)
   intro w26 hu26 hb26
   have hz26 := hu26.size
   replace hU := hU.trans (hu26.mono fun i _ h => by have h : i = b5 := h; show n0 ≤ i; omega)
   replace hd := hd.upd hu26 fun h => by have h : nL = b5 := h; omega
   replace hB4 := hB4.upd hu26 fun h => by have h : b4 = b5 := h; omega
   replace hr0 := hr0.upd hu26 fun i h1 h2 h => by have h : i = b5 := h; omega
   replace hr1 := hr1.upd hu26 fun i h1 h2 h => by have h : i = b5 := h; omega
   replace hB5 : Blk w26 b5 #[(.int .i64 (er))] 41 := hb26
   refine L_nil ?_
   refine T_n ?_
   refine W_ret ?_
   refine S_r ?_
   have hw_ : writeD p.da q pg = (p2.da, er) := (if_pos (by omega)).trans hrun
   refine BQ_r (End_m (hnL ▸ hd) fun w9 hu9 => ?_)
   have hz9 := hu9.size
   exact End_2 Try.results10 (v2 := .int .i64 er) (RV_A A29 rfl (hB4.upd hu9 fun h => by have h : b4 = nL := (by rw [hnL]; exact h); omega).atAll rfl) (RV_1 T41 rfl ((hB5.upd hu9 fun h => by have h : b5 = nL := (by rw [hnL]; exact h); omega).at1 rfl)) ⟨p2, l0, u0, l1, u1, by rw [hw_] <;> rfl, hr0.upd hu9 fun i h1 h2 h => by have h : i = nL := (by rw [hnL]; exact h); omega, hr1.upd hu9 fun i h1 h2 h => by have h : i = nL := (by rw [hnL]; exact h); omega, by omega, by omega, by rw [hw_], (hU.trans (hu9.mono fun i _ h => by have h : i = nL := (by rw [hnL]; exact h); show n0 ≤ i; omega)).own hn0⟩
end Go.Proofs.Ytcjfkkoapncnhaa
