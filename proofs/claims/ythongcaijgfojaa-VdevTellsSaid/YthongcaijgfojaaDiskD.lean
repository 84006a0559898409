/-
  More contracts of chapter 03: reading. (Printed by wip/gen/t03d.py of this repo.)
-/
import Derived.Test.YthongcaijgfojaaDiskC
namespace Go.Proofs.Ythongcaijgfojaa
open Go Go.SL Go.Proofs
set_option linter.unusedVariables false

def readD (ps : List Pg) (cs : List Wr) (bs : List Int) (n : Int) : Pg × Int :=
  match hitsW cs n with
  | p :: _ => (p, 0)
  | [] => if n ∈ bs then (default, 31) else (ps.getD n.toNat default, 0)
open Classical in
noncomputable def readE (ps : List Pg) (cs : List Wr) (bs : List Int) (off : Bool) (n : Int) : Pg × Int := if askE ps.length cs bs off n = 0 then readD ps cs bs n else (default, askE ps.length cs bs off n)
theorem readE_bad {ps : List Pg} {cs : List Wr} {bs : List Int} {off : Bool} {n : Int} (h : askE ps.length cs bs off n ≠ 0) : readE ps cs bs off n = (default, askE ps.length cs bs off n) := if_neg h
theorem readE_ok {ps : List Pg} {cs : List Wr} {bs : List Int} {off : Bool} {n : Int} (h : askE ps.length cs bs off n = 0) : readE ps cs bs off n = readD ps cs bs n := if_pos h
theorem readD_hit {ps : List Pg} {cs : List Wr} {bs : List Int} {n : Int} {p : Pg} (h : (hitsW cs n)[0]? = some p) : readD ps cs bs n = (p, 0) := by
  unfold readD
  cases hh : hitsW cs n with
  | nil => rw [hh] at h; cases h
  | cons a r => rw [hh] at h; cases h; rfl
theorem readD_bad {ps : List Pg} {cs : List Wr} {bs : List Int} {n : Int} (h : hitsW cs n = []) (hb : n ∈ bs) : readD ps cs bs n = (default, 31) := by unfold readD; rw [h]; exact if_pos hb
theorem readD_page {ps : List Pg} {cs : List Wr} {bs : List Int} {n : Int} {p : Pg} (h : hitsW cs n = []) (hb : n ∉ bs) (hp : ps[n.toNat]? = some p) : readD ps cs bs n = (p, 0) := by
  unfold readD
  rw [h]
  refine (if_neg hb).trans ?_
  rw [List.getD_eq_getElem?_getD, hp]; rfl
theorem hitsX_at {cs : List Wr} {n : Int} {k : Nat} {x : List Value} (h : (hitsX cs n)[k]? = some x) : ∃ p : Pg, (hitsW cs n)[k]? = some p ∧ x = [pageV p] := by
  unfold hitsX at h
  rw [List.getElem?_map] at h
  cases hp : (hitsW cs n)[k]? with
  | none => rw [hp] at h; cases h
  | some p => rw [hp] at h; cases h; exact ⟨p, rfl, rfl⟩

theorem c_read (pv cv bv : Value) (ps : List Pg) (cs : List Wr) (bs : List Int) (off : Bool) (n : Int) (w : World) (lo up : Nat) (hup : up ≤ w.heap.size) (hp : NRd LP w lo up pv ps) (hc : NRd LW w lo up cv cs) (hb : NRd LI w lo up bv bs) : CT Try.prog 11 #[(.agg #[pv, cv, bv, (.bool (off))]), (.int .i64 (n))] w fun v w' => v = .tuple #[pageV (readE ps cs bs off n).1, .int .i64 (readE ps cs bs off n).2] ∧ Ext w w' := by
  obtain ⟨n0, hn0⟩ : ∃ n, n = w.heap.size := ⟨_, rfl⟩
  have hU : Upd (fun i => n0 ≤ i) w w := Upd.refl _ _
  have hpl := hp.sv.len
  have hcl := hc.sv.len
  have hbl := hb.sv.len
  rw [← hn0] at hup
  have hp0 := hp
  have hc0 := hc
  have hb0 := hb
  refine CT_of Try.func11 rfl rfl rfl ?_
  refine W_seq ?_
  refine W_reg ?_
  refine L_op rfl (X_box (v := (.agg #[pv, cv, bv, (.bool (off))])) (c := ([pv, cv, bv, (.bool (off))]).toArray) rfl rfl ?_)
  intro b1 w1 hn1
  have hbn1 := hn1.num; have hbs1 := hn1.size
  replace hp := hp.ext hn1.ext
  replace hc := hc.ext hn1.ext
  replace hb := hb.ext hn1.ext
  replace hU := hU.trans (Ext.upd hn1.ext)
  have hB1 := hn1.blk
  refine L_op rfl (X_alloc (z := zv28) (c := zc28.toArray) Zv28 rfl ?_)
  intro b2 w2 hn2
  have hbn2 := hn2.num; have hbs2 := hn2.size
  replace hp := hp.ext hn2.ext
  replace hc := hc.ext hn2.ext
  replace hb := hb.ext hn2.ext
  replace hU := hU.trans (Ext.upd hn2.ext)
  replace hB1 := hB1.ext hn2.ext
  have hB2 := hn2.blk
  rw [zc28_eq] at hB2
  refine L_op rfl (X_alloc (z := (.int .i64 (0))) (c := #[(.int .i64 (0))]) Zv32 rfl ?_)
  intro b3 w3 hn3
  have hbn3 := hn3.num; have hbs3 := hn3.size
  replace hp := hp.ext hn3.ext
  replace hc := hc.ext hn3.ext
  replace hb := hb.ext hn3.ext
  replace hU := hU.trans (Ext.upd hn3.ext)
  replace hB1 := hB1.ext hn3.ext
  replace hB2 := hB2.ext hn3.ext
  have hB3 := hn3.blk
  refine L_nil ?_
  refine T_n ?_
  refine W_seq ?_
  refine W_seq ?_
  refine W_reg ?_
  refine L_op rfl (X_loadA (p := (ptr b1 (0))) (xs := [pv, cv, bv, (.bool (off))]) A26 rfl hB1.atAll rfl ?_)
  refine L_op rfl (X_move (v := (.int .i64 (n))) rfl ?_)
  refine L_op rfl (X_fn (vs := [(.agg ([pv, cv, bv, (.bool (off))]).toArray), (.int .i64 (n))]) en28 rfl (CT.mono (c_asked pv cv bv ps cs bs off n _ lo up (by omega) hp hc hb) ?_))
  rintro _ w4 ⟨rfl, hu4⟩
  have hz4 := hu4.size
  replace hp := hp.ext hu4
  replace hc := hc.ext hu4
  replace hb := hb.ext hu4
  replace hU := hU.trans (Ext.upd hu4)
  replace hB1 := hB1.ext hu4
  replace hB2 := hB2.ext hu4
  replace hB3 := hB3.ext hu4
  refine L_op rfl (X_assign (v := (.int .i64 ((askE ps.length cs bs off n)))) rfl ?_)
  refine L_nil ?_
  refine T_n ?_
  refine W_seq ?_
  refine W_reg ?_
  refine L_op rfl (X_move (v := (.int .i64 ((askE ps.length cs bs off n)))) rfl ?_)
  by_cases hc5 : ((askE ps.length cs bs off n) : Int) ≠ (0)
  · refine L_op rfl (X_cmp (k := .i64) (a := (askE ps.length cs bs off n)) (b := 0) (r := true) rfl rfl rfl (decide_eq_true (p := (((askE ps.length cs bs off n)) : Int) ≠ ((0) : Int)) (by omega)) ?_)
    refine L_nil ?_
    refine T_n ?_
    refine W_ct rfl ?_
    refine W_seq ?_
    refine W_reg ?_
    refine L_op rfl (X_build built28 ?_)
    refine L_op rfl (X_move (v := (.int .i64 ((askE ps.length cs bs off n)))) rfl ?_)
    refine L_op0 (X_storeW (b := b2) (ys := (((List.replicate 256 (0 : UInt8))).map byteV)) A28 rfl rfl (byteV_one _) (by rw [List.length_map]; exact List.length_replicate) hB2 (by rw [List.size_toArray]; exact (by rw [List.length_map]; exact List.length_replicate)) ?_)
    intro w6 hu6 hb6
    have hz6 := hu6.size
    replace hp := hp.upd hu6 fun i h1 h2 h => by have h : i = b2 := h; omega
    replace hc := hc.upd hu6 fun i h1 h2 h => by have h : i = b2 := h; omega
    replace hb := hb.upd hu6 fun i h1 h2 h => by have h : i = b2 := h; omega
    replace hU := hU.trans (hu6.mono fun i _ h => by have h : i = b2 := h; show n0 ≤ i; omega)
    replace hB1 := hB1.upd hu6 fun h => by have h : b1 = b2 := h; omega
    replace hB3 := hB3.upd hu6 fun h => by have h : b3 = b2 := h; omega
    replace hB2 := hb6
    refine L_op0 (X_store (b := b3) (o := 0) T32 rfl rfl rfl hB3 (by show (0 : Nat) < 1; decide) ?_)
    intro w7 hu7 hb7
    have hz7 := hu7.size
    replace hp := hp.upd hu7 fun i h1 h2 h => by have h : i = b3 := h; omega
    replace hc := hc.upd hu7 fun i h1 h2 h => by have h : i = b3 := h; omega
    replace hb := hb.upd hu7 fun i h1 h2 h => by have h : i = b3 := h; omega
    replace hU := hU.trans (hu7.mono fun i _ h => by have h : i = b3 := h; show n0 ≤ i; omega)
    replace hB1 := hB1.upd hu7 fun h => by have h : b1 = b3 := h; omega
    replace hB2 := hB2.upd hu7 fun h => by have h : b2 = b3 := h; omega
    replace hB3 : Blk w7 b3 #[(.int .i64 ((askE ps.length cs bs off n)))] 32 := hb7
    refine L_nil ?_
    refine T_n ?_
    refine W_ret ?_
    refine T_r ?_
    rw [readE_bad hc5]
    exact BQ_r (End_2 Try.results11 (v1 := pageV default) (RV_A A28 rfl hB2.atAll (by rw [List.length_map]; exact List.length_replicate)) (RV_1 T32 rfl (hB3.at1 rfl)) ⟨rfl, hU.own hn0⟩)
  · refine L_op rfl (X_cmp (k := .i64) (a := (askE ps.length cs bs off n)) (b := 0) (r := false) rfl rfl rfl (decide_eq_false (p := (((askE ps.length cs bs off n)) : Int) ≠ ((0) : Int)) (by omega)) ?_)
    have hq0 : (askE ps.length cs bs off n) = 0 := by omega
    have hz0 := askE_zero hq0
    refine L_nil ?_
    refine T_n ?_
    refine W_cf rfl ?_
    refine W_skip ?_
    refine T_n ?_
    refine W_seq ?_
    refine W_seq ?_
    refine W_reg ?_
    refine L_op rfl (X_loadA (p := (ptr b1 (0))) (xs := [pv, cv, bv, (.bool (off))]) A26 rfl hB1.atAll rfl ?_)
    refine L_op rfl (X_move (v := (.int .i64 (n))) rfl ?_)
    obtain ⟨x1, hx1⟩ : ∃ n, n = w4.heap.size := ⟨_, rfl⟩
    refine L_op rfl (X_fn (vs := [(.agg ([pv, cv, bv, (.bool (off))]).toArray), (.int .i64 (n))]) en29 rfl (CT.mono (c_last pv cv bv ps cs bs off n _ lo up hp hc hb) ?_))
    rintro _ w8 ⟨rfl, hX1, hX2, hu8, hz8⟩
    rw [← hx1] at hX1 hX2 ⊢
    replace hp := hp.ext hu8
    replace hc := hc.ext hu8
    replace hb := hb.ext hu8
    replace hU := hU.trans (Ext.upd hu8)
    replace hB1 := hB1.ext hu8
    replace hB2 := hB2.ext hu8
    replace hB3 := hB3.ext hu8
    have hb1l := hB1.lt; have hb2l := hB2.lt; have hb3l := hB3.lt
    refine L_nil ?_
    refine T_n ?_
    refine W_block ?_
    obtain ⟨nL, hnL⟩ : ∃ n, n = w8.heap.size := ⟨_, rfl⟩
    refine W_rangeS (lb := [ptr x1 0, ptr (x1 + 1) 0]) (xs := (hitsX cs n)) rfl en42 (c_last1 pv cv bv cs off n x1 (x1 + 1) _ lo up (by omega) hX1 hX2 hc) (Upd.refl _ _) rfl (fun x hx => by unfold hitsX at hx; obtain ⟨y, _, rfl⟩ := List.mem_map.1 hx; rfl) (fun b => b = b2 ∨ b = b3) (fun b hb_ => ⟨fun h => by rcases hb_ with rfl | rfl <;> rcases h with h | h | h <;> omega, by rcases hb_ with rfl | rfl <;> omega⟩) (fun b hb_ h => by rcases h with h | h | h <;> omega) (fun k W => k = 0 ∧ Blk W b2 ((List.replicate 256 (0 : UInt8)).map byteV).toArray 28 ∧ Blk W b3 #[.int .i64 0] 32 ∧ Blk W b1 #[pv, cv, bv, .bool off] 26 ∧ Upd (fun i => n0 ≤ i) w W) (fun k e W => e = .ret ∧ k = 0 ∧ (∃ p : Pg, (hitsW cs n)[0]? = some p ∧ Blk W b2 (p.1.map byteV).toArray 28) ∧ Blk W b3 #[.int .i64 0] 32 ∧ Upd (fun i => n0 ≤ i) w W) (fun k W W2 hI hu => by obtain ⟨hk, h2, h3, h1, hU⟩ := hI; exact ⟨hk, h2.upd hu fun h => by { rcases h with h | h <;> omega }, h3.upd hu fun h => by { rcases h with h | h <;> omega }, h1.upd hu fun h => by { rcases h with h | h <;> omega }, hU.trans (hu.mono fun i _ h => by { show n0 ≤ i; rcases h with h | h <;> omega })⟩) (fun k e W W2 hI hu => by obtain ⟨he, hk, ⟨p_, hp_, h2⟩, h3, hU⟩ := hI; exact ⟨he, hk, ⟨p_, hp_, h2.upd hu fun h => by { rcases h with h | h <;> omega }⟩, h3.upd hu fun h => by { rcases h with h | h <;> omega }, hU.trans (hu.mono fun i _ h => by { show n0 ≤ i; rcases h with h | h <;> omega })⟩) ?_ ?_ ?_ ?_
    · intro W hx_ hs_
      exact ⟨rfl, hB2.ext hx_, hB3.ext hx_, hB1.ext hx_, hU.trans (Ext.upd hx_)⟩
    · intro k x W hk_ hI_ hsz_ hlp_
      obtain ⟨rfl, hB2, hB3, hB1, hU⟩ := hI_
      obtain ⟨p_, hp_, rfl⟩ := hitsX_at hk_
      have hD := Upd.refl (fun b => b = b2 ∨ b = b3) W
      refine W_reg ?_
      refine L_op rfl (X_alloc (z := zv28) (c := zc28.toArray) Zv28 rfl ?_)
      intro b9 w9 hn9
      have hbn9 := hn9.num; have hbs9 := hn9.size
      replace hB1 := hB1.ext hn9.ext
      replace hB2 := hB2.ext hn9.ext
      replace hB3 := hB3.ext hn9.ext
      replace hU := hU.trans (Ext.upd hn9.ext)
      replace hD := hD.trans (Ext.upd hn9.ext)
      have hB9 := hn9.blk
      rw [zc28_eq] at hB9
      refine L_op0 (X_storeW (b := b9) (ys := ((p_.1).map byteV)) A28 rfl rfl (byteV_one _) (by rw [List.length_map]; exact p_.2) hB9 (by rw [List.size_toArray]; exact (by rw [List.length_map]; exact List.length_replicate)) ?_)
      intro w10 hu10 hb10
      have hz10 := hu10.size
      replace hB1 := hB1.upd hu10 fun h => by have h : b1 = b9 := h; omega
      replace hB2 := hB2.upd hu10 fun h => by have h : b2 = b9 := h; omega
      replace hB3 := hB3.upd hu10 fun h => by have h : b3 = b9 := h; omega
      replace hU := hU.trans (hu10.mono fun i _ h => by have h : i = b9 := h; show n0 ≤ i; omega)
      replace hD := hD.comp hu10 (fun _ _ h => h) fun i hi h => by have h : i = b9 := h; show i = b2 ∨ i = b3; omega
      replace hB9 := hb10
      refine L_nil ?_
      refine T_n ⟨hD, fun W2 hu2_ hlp2_ => ?_⟩
      have hsz2_ := hu2_.size
      replace hB1 := hB1.upd hu2_ fun h => by have h : b1 = nL + 1 := (by rw [hnL]; exact h); omega
      replace hB2 := hB2.upd hu2_ fun h => by have h : b2 = nL + 1 := (by rw [hnL]; exact h); omega
      replace hB3 := hB3.upd hu2_ fun h => by have h : b3 = nL + 1 := (by rw [hnL]; exact h); omega
      replace hU := hU.trans (hu2_.mono fun i _ h => by have h : i = nL + 1 := (by rw [hnL]; exact h); show n0 ≤ i; omega)
      replace hB9 := hB9.upd hu2_ fun h => by have h : b9 = nL + 1 := (by rw [hnL]; exact h); omega
      have hD := Upd.refl (fun b => b = b2 ∨ b = b3) W2
      refine W_block ?_
      refine W_seq ?_
      refine W_reg ?_
      refine L_op rfl (X_loadA (p := (ptr b9 (0))) (xs := ((p_.1).map byteV)) A28 rfl hB9.atAll (by rw [List.length_map]; exact p_.2) ?_)
      refine L_op0 (X_storeW (b := b2) (ys := ((p_.1).map byteV)) A28 rfl rfl (byteV_one _) (by rw [List.length_map]; exact p_.2) hB2 (by rw [List.size_toArray]; exact (by rw [List.length_map]; exact List.length_replicate)) ?_)
      intro w11 hu11 hb11
      have hz11 := hu11.size
      replace hB1 := hB1.upd hu11 fun h => by have h : b1 = b2 := h; omega
      replace hB3 := hB3.upd hu11 fun h => by have h : b3 = b2 := h; omega
      replace hU := hU.trans (hu11.mono fun i _ h => by have h : i = b2 := h; show n0 ≤ i; omega)
      replace hB9 := hB9.upd hu11 fun h => by have h : b9 = b2 := h; omega
      replace hD := hD.comp hu11 (fun _ _ h => h) fun i hi h => by have h : i = b2 := h; show i = b2 ∨ i = b3; omega
      replace hB2 := hb11
      refine L_op0 (X_store (b := b3) (o := 0) T32 rfl rfl rfl hB3 (by show (0 : Nat) < 1; decide) ?_)
      intro w12 hu12 hb12
      have hz12 := hu12.size
      replace hB1 := hB1.upd hu12 fun h => by have h : b1 = b3 := h; omega
      replace hU := hU.trans (hu12.mono fun i _ h => by have h : i = b3 := h; show n0 ≤ i; omega)
      replace hB9 := hB9.upd hu12 fun h => by have h : b9 = b3 := h; omega
      replace hD := hD.comp hu12 (fun _ _ h => h) fun i hi h => by have h : i = b3 := h; show i = b2 ∨ i = b3; omega
      replace hB2 := hB2.upd hu12 fun h => by have h : b2 = b3 := h; omega
      replace hB3 : Blk w12 b3 #[(.int .i64 (0))] 32 := hb12
      refine L_nil ?_
      refine T_n ?_
      refine W_ret ?_
      refine B_r ?_
      exact RQ_r hD ⟨rfl, rfl, ⟨p_, hp_, hB2⟩, hB3, hU⟩
    · intro W hI_ hd_
      obtain ⟨hl0, hB2, hB3, hB1, hU⟩ := hI_
      rw [hitsX_length] at hl0
      have hnil := List.eq_nil_of_length_eq_zero hl0
      have hd : Dfd W nL := by rw [hnL]; exact hd_
      have hsz_ := hU.size
      have hp := hp0.upd hU fun i h1 h2 h => by have h : n0 ≤ i := h; omega
      have hc := hc0.upd hU fun i h1 h2 h => by have h : n0 ≤ i := h; omega
      have hb := hb0.upd hU fun i h1 h2 h => by have h : n0 ≤ i := h; omega
      refine B_n ?_
      refine T_n ?_
      refine W_seq ?_
      refine W_seq ?_
      refine W_reg ?_
      refine L_op rfl (X_fldP (b := b1) (o := 0) (r := 2) Fd26_2 rfl rfl ?_)
      refine L_op rfl (X_load (p := (ptr b1 (2))) (v := bv) T24 rfl (hB1.at1 rfl) ?_)
      refine L_op rfl (X_move (v := (.int .i64 (n))) rfl ?_)
      refine L_op rfl (X_fn (vs := [bv, (.int .i64 (n))]) en30 rfl (CT.mono (c_contains bv n bs _ lo up hb) ?_))
      rintro _ _ ⟨rfl, rfl⟩
      rcases Bool.eq_false_or_eq_true (decide (n ∈ bs)) with hc13 | hc13
      · rw [hc13]
        refine L_nil ?_
        refine T_n ?_
        refine W_ct rfl ?_
        refine W_seq ?_
        refine W_reg ?_
        refine L_op rfl (X_build built28 ?_)
        refine L_op0 (X_storeW (b := b2) (ys := (((List.replicate 256 (0 : UInt8))).map byteV)) A28 rfl rfl (byteV_one _) (by rw [List.length_map]; exact List.length_replicate) hB2 (by rw [List.size_toArray]; exact (by rw [List.length_map]; exact List.length_replicate)) ?_)
        intro w14 hu14 hb14
        have hz14 := hu14.size
        replace hB1 := hB1.upd hu14 fun h => by have h : b1 = b2 := h; omega
        replace hB3 := hB3.upd hu14 fun h => by have h : b3 = b2 := h; omega
        replace hU := hU.trans (hu14.mono fun i _ h => by have h : i = b2 := h; show n0 ≤ i; omega)
        replace hd := hd.upd hu14 fun h => by have h : nL = b2 := h; omega
        replace hp := hp.upd hu14 fun i h1 h2 h => by have h : i = b2 := h; omega
        replace hc := hc.upd hu14 fun i h1 h2 h => by have h : i = b2 := h; omega
        replace hb := hb.upd hu14 fun i h1 h2 h => by have h : i = b2 := h; omega
        replace hB2 := hb14
        refine L_op0 (X_store (b := b3) (o := 0) T32 rfl rfl rfl hB3 (by show (0 : Nat) < 1; decide) ?_)
        intro w15 hu15 hb15
        have hz15 := hu15.size
        replace hB1 := hB1.upd hu15 fun h => by have h : b1 = b3 := h; omega
        replace hU := hU.trans (hu15.mono fun i _ h => by have h : i = b3 := h; show n0 ≤ i; omega)
        replace hd := hd.upd hu15 fun h => by have h : nL = b3 := h; omega
        replace hp := hp.upd hu15 fun i h1 h2 h => by have h : i = b3 := h; omega
        replace hc := hc.upd hu15 fun i h1 h2 h => by have h : i = b3 := h; omega
        replace hb := hb.upd hu15 fun i h1 h2 h => by have h : i = b3 := h; omega
        replace hB2 := hB2.upd hu15 fun h => by have h : b2 = b3 := h; omega
        replace hB3 : Blk w15 b3 #[(.int .i64 (31))] 32 := hb15
        refine L_nil ?_
        refine T_n ?_
        refine W_ret ?_
        refine T_r ?_
        rw [readE_ok hq0, readD_bad hnil (of_decide_eq_true hc13)]
        refine BQ_r (End_m (hnL ▸ hd) fun w9 hu9 => ?_)
        have hB2 := hB2.upd hu9 fun h => by have h : b2 = nL := (by rw [hnL]; exact h); omega
        have hB3 := hB3.upd hu9 fun h => by have h : b3 = nL := (by rw [hnL]; exact h); omega
        exact End_2 Try.results11 (v1 := pageV default) (RV_A A28 rfl hB2.atAll (by rw [List.length_map]; exact List.length_replicate)) (RV_1 T32 rfl (hB3.at1 rfl)) ⟨rfl, (hU.trans (hu9.mono fun i _ h => by have h : i = nL := (by rw [hnL]; exact h); show n0 ≤ i; omega)).own hn0⟩
      · rw [hc13]
        refine L_nil ?_
        refine T_n ?_
        refine W_cf rfl ?_
        refine W_skip ?_
        refine T_n ?_
        refine W_seq ?_
        refine W_reg ?_
        refine L_op rfl (X_fldP (b := b1) (o := 0) (r := 0) Fd26_0 rfl rfl ?_)
        refine L_op rfl (X_load (p := (ptr b1 (0))) (v := pv) T22 rfl (hB1.at1 rfl) ?_)
        refine L_op rfl (X_move (v := (.int .i64 (n))) rfl ?_)
        refine L_op rfl (X_idx (v := pv) (n := ps.length) (k := .i64) (i := n) S22 rfl hp.sv rfl (by omega) (by omega) ?_)
        obtain ⟨p_, hp_⟩ : ∃ p, ps[n.toNat]? = some p := ⟨_, List.getElem?_eq_getElem (by omega)⟩
        refine L_op rfl (X_loadA (xs := p_.1.map byteV) A28 rfl (pall hp rfl hp_) (by rw [List.length_map]; exact p_.2) ?_)
        refine L_op0 (X_storeW (b := b2) (ys := ((p_.1).map byteV)) A28 rfl rfl (byteV_one _) (by rw [List.length_map]; exact p_.2) hB2 (by rw [List.size_toArray]; exact (by rw [List.length_map]; exact List.length_replicate)) ?_)
        intro w16 hu16 hb16
        have hz16 := hu16.size
        replace hB1 := hB1.upd hu16 fun h => by have h : b1 = b2 := h; omega
        replace hB3 := hB3.upd hu16 fun h => by have h : b3 = b2 := h; omega
        replace hU := hU.trans (hu16.mono fun i _ h => by have h : i = b2 := h; show n0 ≤ i; omega)
        replace hd := hd.upd hu16 fun h => by have h : nL = b2 := h; omega
        replace hp := hp.upd hu16 fun i h1 h2 h => by have h : i = b2 := h; omega
        replace hc := hc.upd hu16 fun i h1 h2 h => by have h : i = b2 := h; omega
        replace hb := hb.upd hu16 fun i h1 h2 h => by have h : i = b2 := h; omega
        replace hB2 := hb16
        refine L_op0 (X_store (b := b3) (o := 0) T32 rfl rfl rfl hB3 (by show (0 : Nat) < 1; decide) ?_)
        intro w17 hu17 hb17
        have hz17 := hu17.size
        replace hB1 := hB1.upd hu17 fun h => by have h : b1 = b3 := h; omega
        replace hU := hU.trans (hu17.mono fun i _ h => by have h : i = b3 := h; show n0 ≤ i; omega)
        replace hd := hd.upd hu17 fun h => by have h : nL = b3 := h; omega
        replace hp := hp.upd hu17 fun i h1 h2 h => by have h : i = b3 := h; omega
        replace hc := hc.upd hu17 fun i h1 h2 h => by have h : i = b3 := h; omega
        replace hb := hb.upd hu17 fun i h1 h2 h => by have h : i = b3 := h; omega
        replace hB2 := hB2.upd hu17 fun h => by have h : b2 = b3 := h; omega
        replace hB3 : Blk w17 b3 #[(.int .i64 (0))] 32 := hb17
        refine L_nil ?_
        refine T_n ?_
        refine W_ret ?_
        rw [readE_ok hq0, readD_page hnil (of_decide_eq_false hc13) hp_]
        refine BQ_r (End_m (hnL ▸ hd) fun w9 hu9 => ?_)
        have hB2 := hB2.upd hu9 fun h => by have h : b2 = nL := (by rw [hnL]; exact h); omega
        have hB3 := hB3.upd hu9 fun h => by have h : b3 = nL := (by rw [hnL]; exact h); omega
        exact End_2 Try.results11 (v1 := pageV p_) (RV_A A28 rfl hB2.atAll (by rw [List.length_map]; exact p_.2)) (RV_1 T32 rfl (hB3.at1 rfl)) ⟨rfl, (hU.trans (hu9.mono fun i _ h => by have h : i = nL := (by rw [hnL]; exact h); show n0 ≤ i; omega)).own hn0⟩
    · intro k e W hk_ hI_ hd_ he_
      obtain ⟨rfl, rfl, ⟨p_, hp_, hB2⟩, hB3, hU⟩ := hI_
      have hd : Dfd W nL := by rw [hnL]; exact hd_
      have hsz_ := hU.size
      have hp := hp0.upd hU fun i h1 h2 h => by have h : n0 ≤ i := h; omega
      have hc := hc0.upd hU fun i h1 h2 h => by have h : n0 ≤ i := h; omega
      have hb := hb0.upd hU fun i h1 h2 h => by have h : n0 ≤ i := h; omega
      refine B_r ?_
      refine T_r ?_
      rw [readE_ok hq0, readD_hit hp_]
      refine BQ_r (End_m (hnL ▸ hd) fun w9 hu9 => ?_)
      have hB2 := hB2.upd hu9 fun h => by have h : b2 = nL := (by rw [hnL]; exact h); omega
      have hB3 := hB3.upd hu9 fun h => by have h : b3 = nL := (by rw [hnL]; exact h); omega
      exact End_2 Try.results11 (v1 := pageV p_) (RV_A A28 rfl hB2.atAll (by rw [List.length_map]; exact p_.2)) (RV_1 T32 rfl (hB3.at1 rfl)) ⟨rfl, (hU.trans (hu9.mono fun i _ h => by have h : i = nL := (by rw [hnL]; exact h); show n0 ≤ i; omega)).own hn0⟩
end Go.Proofs.Ythongcaijgfojaa
