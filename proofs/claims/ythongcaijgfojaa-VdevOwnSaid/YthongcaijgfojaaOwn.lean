/-
  The walk of VdevOwn. (Printed by wip/gen/t03l.py of this repo.)
-/
import Derived.Test.YthongcaijgfojaaOff
namespace Go.Proofs.Ythongcaijgfojaa
open Go Go.SL Go.Proofs
set_option linter.unusedVariables false

theorem liSet' (bs : List Int) (i : Nat) (a : Int) : (bs.flatMap LI.cel).set i (.int .i64 a) = (bs.set i a).flatMap LI.cel := by rw [liF, liF, List.map_set]
theorem pgSet {es : List Pg} {i k : Nat} {e : Pg} (he : es[i]? = some e) (hk : k < 256) (y : UInt8) : ∃ e' : Pg, (es.flatMap LP.cel).set (i * 256 + k) (byteV y) = (es.set i e').flatMap LP.cel :=
  ⟨⟨e.1.set k y, by rw [List.length_set]; exact e.2⟩, flat_setC (L := LP) he hk (by show (e.1.set k y).map byteV = _; rw [List.map_set]; rfl)⟩
theorem wrSetAt {es : List Wr} {i : Nat} {e : Wr} (he : es[i]? = some e) (n : Int) : ∃ e' : Wr, (es.flatMap LW.cel).set (i * 257 + 0) (.int .i64 n) = (es.set i e').flatMap LW.cel :=
  ⟨(n, e.2), flat_setC (L := LW) (j := 0) he (by decide) rfl⟩
theorem wrSetData {es : List Wr} {i k : Nat} {e : Wr} (he : es[i]? = some e) (hk : k < 256) (y : UInt8) : ∃ e' : Wr, (es.flatMap LW.cel).set (i * 257 + (k + 1)) (byteV y) = (es.set i e').flatMap LW.cel :=
  ⟨(e.1, ⟨e.2.1.set k y, by rw [List.length_set]; exact e.2.2⟩), flat_setC (L := LW) (j := k + 1) he (by show k + 1 < 257; omega) (by show Value.int .i64 e.1 :: (e.2.1.set k y).map byteV = (Value.int .i64 e.1 :: e.2.1.map byteV).set (k + 1) (byteV y); rw [List.set_cons_succ, List.map_set])⟩
/-- an owned disk -/
def ODk (w : World) (lo up : Nat) (d : Dk) : Prop := NOwn LP w 28 5 lo up d.pv d.ps ∧ NOwn LW w 43 5 lo up d.cv d.cs ∧ NOwn LI w 3 5 lo up d.bv d.bs
theorem ODk.upd {w w' : World} {D : Nat → Prop} {lo up : Nat} {d : Dk} (h : ODk w lo up d) (hu : Upd D w w') (hd : ∀ b, lo ≤ b → b < up → ¬ D b) : ODk w' lo up d := ⟨h.1.upd hu hd, h.2.1.upd hu hd, h.2.2.upd hu hd⟩
theorem ODk.ext {w w' : World} {lo up : Nat} {d : Dk} (h : ODk w lo up d) (hu : Ext w w') : ODk w' lo up d := h.upd hu fun _ _ _ hx => hx

set_option maxRecDepth 10000 in
set_option maxHeartbeats 2000000 in
theorem c_vdevOwn (pv cv bv : Value) (ps : List Pg) (cs : List Wr) (bs : List Int) (off : Bool) (m : Int) (p : Pg) (w : World) (hp : NRd LP w 0 w.heap.size pv ps) (hc : NRd LW w 0 w.heap.size cv cs) (hb : NRd LI w 0 w.heap.size bv bs) : CT Try.prog 4 #[(.agg #[pv, cv, bv, (.bool (off))]), (.int .i64 (m)), (pageV p)] w fun v w' => v = .bool true ∧ Ext w w' := by
  obtain ⟨n0, hn0⟩ : ∃ n, n = w.heap.size := ⟨_, rfl⟩
  have hU : Upd (fun i => n0 ≤ i) w w := Upd.refl _ _
  have hpl := hp.sv.len
  have hcl := hc.sv.len
  have hbl := hb.sv.len
  rw [← hn0] at hp hc hb
  refine CT_of Try.func4 rfl rfl rfl ?_
  refine W_seq ?_
  refine W_reg ?_
  refine L_op rfl (X_box (v := (.agg #[pv, cv, bv, (.bool (off))])) (c := ([pv, cv, bv, (.bool (off))]).toArray) rfl rfl ?_)
  intro b1 w1 hn1
  have hbn1 := hn1.num; have hbs1 := hn1.size
  replace hp := hp.ext hn1.ext
  replace hc := hc.ext hn1.ext
  replace hb := hb.ext hn1.ext
  replace hU := hU.trans (Ext.upd hn1.ext)
  have hB1 := hn1.blk
  refine L_op rfl (X_box (v := (pageV p)) (c := ((p.1).map byteV).toArray) rfl rfl ?_)
  intro b2 w2 hn2
  have hbn2 := hn2.num; have hbs2 := hn2.size
  replace hp := hp.ext hn2.ext
  replace hc := hc.ext hn2.ext
  replace hb := hb.ext hn2.ext
  replace hU := hU.trans (Ext.upd hn2.ext)
  replace hB1 := hB1.ext hn2.ext
  have hB2 := hn2.blk
  refine L_op rfl (X_assign (v := (.bool (false))) rfl ?_)
  refine L_nil ?_
  refine T_n ?_
  refine W_seq ?_
  refine W_seq ?_
  refine W_reg ?_
  refine L_op rfl (X_loadA (p := (ptr b1 (0))) (xs := [pv, cv, bv, (.bool (off))]) A26 rfl hB1.atAll rfl ?_)
  refine L_op rfl (X_buildSliceL (vs := [(.agg ([pv, cv, bv, (.bool (off))]).toArray)]) (c := [pv, cv, bv, (.bool (off))]) S41 (by decide) rfl rfl (List.forall_mem_cons.2 ⟨rfl, (fun _ h => by cases h)⟩) rfl ?_)
  intro b3 w3 hn3
  have hbn3 := hn3.num; have hbs3 := hn3.size
  replace hp := hp.ext hn3.ext
  replace hc := hc.ext hn3.ext
  replace hb := hb.ext hn3.ext
  replace hU := hU.trans (Ext.upd hn3.ext)
  replace hB1 := hB1.ext hn3.ext
  replace hB2 := hB2.ext hn3.ext
  have hB3 := hn3.blk
  refine L_op rfl (X_fn (vs := [(.slice (some ⟨b3, 0, none⟩) 1 1)]) en8 rfl (CT.mono (c_great _ [⟨pv, cv, bv, ps, cs, bs, off⟩] _ (hB3.rd (o := 0) (n := 1) (c := 1) (sz := 4) (by decide) (by decide) rfl (fun j u hj => by rw [Nat.zero_add]; simpa [LD, Dk.cel] using hj)) (List.forall_mem_cons.2 ⟨⟨hp.sv, hc.sv, hb.sv⟩, (fun _ h => by cases h)⟩)) ?_))
  rintro _ _ ⟨⟨gG, rfl, hgG⟩, rfl⟩
  rcases Bool.eq_false_or_eq_true (gG) with hc4 | hc4
  · rw [hc4]
    refine L_op rfl (X_move (v := (.bool (true))) rfl ?_)
    refine L_gn (dj := 20) (t := true) rfl rfl rfl rfl ?_
    refine L_gn (dj := 20) (t := true) rfl rfl rfl rfl ?_
    refine L_gn (dj := 20) (t := true) rfl rfl rfl rfl ?_
    refine L_op rfl (X_pick (t := true) (v := (.bool (true))) rfl rfl ?_)
    refine L_op rfl (X_move (v := (.bool (true))) rfl ?_)
    refine L_gn (dj := 25) (t := true) rfl rfl rfl rfl ?_
    refine L_gn (dj := 25) (t := true) rfl rfl rfl rfl ?_
    refine L_op rfl (X_pick (t := true) (v := (.bool (true))) rfl rfl ?_)
    refine L_op rfl (X_move (v := (.bool (true))) rfl ?_)
    refine L_gn (dj := 29) (t := true) rfl rfl rfl rfl ?_
    refine L_gn (dj := 29) (t := true) rfl rfl rfl rfl ?_
    refine L_gn (dj := 29) (t := true) rfl rfl rfl rfl ?_
    refine L_gn (dj := 29) (t := true) rfl rfl rfl rfl ?_
    refine L_gn (dj := 29) (t := true) rfl rfl rfl rfl ?_
    refine L_op rfl (X_pick (t := true) (v := (.bool (true))) rfl rfl ?_)
    refine L_nil ?_
    refine T_n ?_
    refine W_ct rfl ?_
    refine W_seq ?_
    refine W_reg ?_
    refine L_op rfl (X_fn (vs := []) en10 rfl (CT.mono (c_wakes _) ?_))
    rintro vb5 w5 ⟨hvb5, hu5⟩
    have hz5 := hu5.size
    replace hp := hp.ext hu5
    replace hc := hc.ext hu5
    replace hb := hb.ext hu5
    replace hU := hU.trans (Ext.upd hu5)
    replace hB1 := hB1.ext hu5
    replace hB2 := hB2.ext hu5
    subst hvb5
    refine L_op rfl (X_assign (v := (.bool (true))) rfl ?_)
    refine L_nil ?_
    refine T_n ?_
    refine W_ret ?_
    refine T_r ?_
    exact BQ_r (End_1 Try.results4 (v := .bool true) rfl ⟨rfl, hU.own hn0⟩)
  · rw [hc4]
    refine L_op rfl (X_move (v := (.bool (false))) rfl ?_)
    refine L_gy (dj := 20) rfl rfl rfl (X_loadA (p := (ptr b1 (0))) (xs := [pv, cv, bv, (.bool (off))]) A26 rfl hB1.atAll rfl ?_)
    refine L_gy (dj := 20) rfl rfl rfl (X_fn (vs := [(.agg ([pv, cv, bv, (.bool (off))]).toArray)]) en9 rfl (CT.mono (c_mayR pv cv bv ps cs bs off _ 0 n0 hp hc hb) ?_))
    rintro _ w6 ⟨⟨gM, rfl, hgM⟩, hu6⟩
    have hz6 := hu6.size
    replace hp := hp.ext hu6
    replace hc := hc.ext hu6
    replace hb := hb.ext hu6
    replace hU := hU.trans (Ext.upd hu6)
    replace hB1 := hB1.ext hu6
    replace hB2 := hB2.ext hu6
    rcases Bool.eq_false_or_eq_true (gM) with hc7 | hc7
    · rw [hc7]
      refine L_gy (dj := 20) rfl rfl rfl (X_not (b := true) (r := false) rfl rfl ?_)
      refine L_op rfl (X_pick (t := false) (v := (.bool (false))) rfl rfl ?_)
      refine L_op rfl (X_move (v := (.bool (false))) rfl ?_)
      refine L_gy (dj := 25) rfl rfl rfl (X_move (v := (.int .i64 (m))) rfl ?_)
      by_cases hc8 : (m : Int) < (0)
      · refine L_gy (dj := 25) rfl rfl rfl (X_cmp (k := .i64) (a := m) (b := 0) (r := true) rfl rfl rfl (decide_eq_true (p := ((m) : Int) < ((0) : Int)) (by omega)) ?_)
        refine L_op rfl (X_pick (t := false) (v := (.bool (true))) rfl rfl ?_)
        refine L_op rfl (X_move (v := (.bool (true))) rfl ?_)
        refine L_gn (dj := 29) (t := true) rfl rfl rfl rfl ?_
        refine L_gn (dj := 29) (t := true) rfl rfl rfl rfl ?_
        refine L_gn (dj := 29) (t := true) rfl rfl rfl rfl ?_
        refine L_gn (dj := 29) (t := true) rfl rfl rfl rfl ?_
        refine L_gn (dj := 29) (t := true) rfl rfl rfl rfl ?_
        refine L_op rfl (X_pick (t := true) (v := (.bool (true))) rfl rfl ?_)
        refine L_nil ?_
        refine T_n ?_
        refine W_ct rfl ?_
        refine W_seq ?_
        refine W_reg ?_
        refine L_op rfl (X_fn (vs := []) en10 rfl (CT.mono (c_wakes _) ?_))
        rintro vb9 w9 ⟨hvb9, hu9⟩
        have hz9 := hu9.size
        replace hp := hp.ext hu9
        replace hc := hc.ext hu9
        replace hb := hb.ext hu9
        replace hU := hU.trans (Ext.upd hu9)
        replace hB1 := hB1.ext hu9
        replace hB2 := hB2.ext hu9
        subst hvb9
        refine L_op rfl (X_assign (v := (.bool (true))) rfl ?_)
        refine L_nil ?_
        refine T_n ?_
        refine W_ret ?_
        refine T_r ?_
        exact BQ_r (End_1 Try.results4 (v := .bool true) rfl ⟨rfl, hU.own hn0⟩)
      · refine L_gy (dj := 25) rfl rfl rfl (X_cmp (k := .i64) (a := m) (b := 0) (r := false) rfl rfl rfl (decide_eq_false (p := ((m) : Int) < ((0) : Int)) (by omega)) ?_)
        refine L_op rfl (X_pick (t := false) (v := (.bool (false))) rfl rfl ?_)
        refine L_op rfl (X_move (v := (.bool (false))) rfl ?_)
        refine L_gy (dj := 29) rfl rfl rfl (X_move (v := (.int .i64 (m))) rfl ?_)
        refine L_gy (dj := 29) rfl rfl rfl (X_fldP (b := b1) (o := 0) (r := 0) Fd26_0 rfl rfl ?_)
        refine L_gy (dj := 29) rfl rfl rfl (X_load (p := (ptr b1 (0))) (v := pv) T22 rfl (hB1.at1 rfl) ?_)
        refine L_gy (dj := 29) rfl rfl rfl (X_len (v := pv) (n := ps.length) Try.underlying22 rfl hp.sv ?_)
        by_cases hc10 : (m : Int) ≥ (((ps.length : Nat) : Int))
        · refine L_gy (dj := 29) rfl rfl rfl (X_cmp (k := .i64) (a := m) (b := ((ps.length : Nat) : Int)) (r := true) rfl rfl rfl (decide_eq_true (p := ((((ps.length : Nat) : Int)) : Int) ≤ ((m) : Int)) (by omega)) ?_)
          refine L_op rfl (X_pick (t := false) (v := (.bool (true))) rfl rfl ?_)
          refine L_nil ?_
          refine T_n ?_
          refine W_ct rfl ?_
          refine W_seq ?_
          refine W_reg ?_
          refine L_op rfl (X_fn (vs := []) en10 rfl (CT.mono (c_wakes _) ?_))
          rintro vb11 w11 ⟨hvb11, hu11⟩
          have hz11 := hu11.size
          replace hp := hp.ext hu11
          replace hc := hc.ext hu11
          replace hb := hb.ext hu11
          replace hU := hU.trans (Ext.upd hu11)
          replace hB1 := hB1.ext hu11
          replace hB2 := hB2.ext hu11
          subst hvb11
          refine L_op rfl (X_assign (v := (.bool (true))) rfl ?_)
          refine L_nil ?_
          refine T_n ?_
          refine W_ret ?_
          refine T_r ?_
          exact BQ_r (End_1 Try.results4 (v := .bool true) rfl ⟨rfl, hU.own hn0⟩)
        · refine L_gy (dj := 29) rfl rfl rfl (X_cmp (k := .i64) (a := m) (b := ((ps.length : Nat) : Int)) (r := false) rfl rfl rfl (decide_eq_false (p := ((((ps.length : Nat) : Int)) : Int) ≤ ((m) : Int)) (by omega)) ?_)
          refine L_op rfl (X_pick (t := false) (v := (.bool (false))) rfl rfl ?_)
          refine L_nil ?_
          refine T_n ?_
          refine W_cf rfl ?_
          refine W_skip ?_
          refine T_n ?_
          refine W_seq ?_
          have hgd := hgG hc4 _ (List.mem_singleton.2 rfl)
          have hM := hgM.1 hc7
          replace hgd : ps.length ≤ 300 ∧ cs.length ≤ 60 ∧ bs.length ≤ 300 := hgd
          have hnp := hM.1.1
          refine W_reg ?_
          refine L_op rfl (X_loadA (p := (ptr b1 (0))) (xs := [pv, cv, bv, (.bool (off))]) A26 rfl hB1.atAll rfl ?_)
          obtain ⟨s_w, hs_w⟩ : ∃ n, n = w6.heap.size := ⟨_, rfl⟩
          refine L_op rfl (X_fn (vs := [(.agg ([pv, cv, bv, (.bool (off))]).toArray)]) en16 rfl (CT.mono (c_copyR pv cv bv ps cs bs off _ 0 n0 (by omega) hp hc hb (by omega) (by omega) (by omega)) ?_))
          rintro _ w12 ⟨p_w, c_w, i_w, rfl, hPw, hCw, hIw, hu12⟩
          have hz12 := hu12.size
          replace hp := hp.ext hu12
          replace hc := hc.ext hu12
          replace hb := hb.ext hu12
          replace hU := hU.trans (Ext.upd hu12)
          replace hB1 := hB1.ext hu12
          replace hB2 := hB2.ext hu12
          obtain ⟨u_w, hu_w⟩ : ∃ n, n = w12.heap.size := ⟨_, rfl⟩
          rw [← hs_w, ← hu_w] at hPw hCw hIw
          refine L_op rfl (X_alloc (z := (.agg #[(.slice none 0 0), (.slice none 0 0), (.slice none 0 0), (.bool (false))])) (c := #[(.slice none 0 0), (.slice none 0 0), (.slice none 0 0), (.bool (false))]) Zv26 rfl ?_)
          intro b13 w13 hn13
          have hbn13 := hn13.num; have hbs13 := hn13.size
          replace hp := hp.ext hn13.ext
          replace hc := hc.ext hn13.ext
          replace hb := hb.ext hn13.ext
          replace hU := hU.trans (Ext.upd hn13.ext)
          replace hB1 := hB1.ext hn13.ext
          replace hB2 := hB2.ext hn13.ext
          replace hPw := hPw.ext hn13.ext
          replace hCw := hCw.ext hn13.ext
          replace hIw := hIw.ext hn13.ext
          have hB13 := hn13.blk
          refine L_op0 (X_storeW (b := b13) (ys := [p_w, c_w, i_w, (.bool (off))]) A26 rfl rfl (List.forall_mem_cons.2 ⟨(hPw.1.sv.one), (List.forall_mem_cons.2 ⟨(hCw.1.sv.one), (List.forall_mem_cons.2 ⟨(hIw.1.sv.one), (List.forall_mem_cons.2 ⟨rfl, (fun _ h => by cases h)⟩)⟩)⟩)⟩) rfl hB13 rfl ?_)
          intro w14 hu14 hb14
          have hz14 := hu14.size
          replace hp := hp.upd hu14 fun i h1 h2 h => by have h : i = b13 := h; omega
          replace hc := hc.upd hu14 fun i h1 h2 h => by have h : i = b13 := h; omega
          replace hb := hb.upd hu14 fun i h1 h2 h => by have h : i = b13 := h; omega
          replace hU := hU.trans (hu14.mono fun i _ h => by have h : i = b13 := h; show n0 ≤ i; omega)
          replace hB1 := hB1.upd hu14 fun h => by have h : b1 = b13 := h; omega
          replace hB2 := hB2.upd hu14 fun h => by have h : b2 = b13 := h; omega
          replace hPw := hPw.upd hu14 fun i h1 h2 h => by have h : i = b13 := h; omega
          replace hCw := hCw.upd hu14 fun i h1 h2 h => by have h : i = b13 := h; omega
          replace hIw := hIw.upd hu14 fun i h1 h2 h => by have h : i = b13 := h; omega
          replace hB13 : Blk w14 b13 #[p_w, c_w, i_w, (.bool (off))] 26 := hb14
          refine L_nil ?_
          refine T_n ?_
          refine W_seq ?_
          refine W_reg ?_
          refine L_op rfl (X_loadA (p := (ptr b1 (0))) (xs := [pv, cv, bv, (.bool (off))]) A26 rfl hB1.atAll rfl ?_)
          refine L_op rfl (X_move (v := (.int .i64 (m))) rfl ?_)
          refine L_op rfl (X_loadA (p := (ptr b2 (0))) (xs := ((p.1).map byteV)) A28 rfl hB2.atAll (by rw [List.length_map]; exact p.2) ?_)
          obtain ⟨s_a, hs_a⟩ : ∃ n, n = w14.heap.size := ⟨_, rfl⟩
          refine L_op rfl (X_fn (vs := [(.agg ([pv, cv, bv, (.bool (off))]).toArray), (.int .i64 (m)), (.agg (((p.1).map byteV)).toArray)]) en12 rfl (CT.mono (c_write pv cv bv ps cs bs off m p _ 0 n0 (by omega) hp hc hb (by omega) (by omega) (by omega)) ?_))
          rintro _ w15 ⟨p_a, c_a, i_a, rfl, hPa, hCa, hIa, hu15⟩
          have hz15 := hu15.size
          replace hp := hp.ext hu15
          replace hc := hc.ext hu15
          replace hb := hb.ext hu15
          replace hU := hU.trans (Ext.upd hu15)
          replace hB1 := hB1.ext hu15
          replace hB2 := hB2.ext hu15
          replace hPw := hPw.ext hu15
          replace hCw := hCw.ext hu15
          replace hIw := hIw.ext hu15
          replace hB13 := hB13.ext hu15
          obtain ⟨cs1, hcs1⟩ : ∃ c, c = writeC ps.length cs bs off m p := ⟨_, rfl⟩
          rw [← hcs1] at hCa
          have hl1 : cs1.length ≤ 61 := by rw [hcs1]; unfold writeC; split; (· rw [List.length_append, List.length_singleton]; omega); (· omega)
          obtain ⟨u_a, hu_a⟩ : ∃ n, n = w15.heap.size := ⟨_, rfl⟩
          rw [← hs_a, ← hu_a] at hPa hCa hIa
          refine L_op rfl (X_move (v := (.tuple #[(.agg #[p_a, c_a, i_a, (.bool (off))]), (.int .i64 ((wrE ps.length cs bs off m)))])) rfl ?_)
          refine L_op rfl (X_extract (l := [(.agg #[p_a, c_a, i_a, (.bool (off))]), (.int .i64 ((wrE ps.length cs bs off m)))]) (v := (.agg #[p_a, c_a, i_a, (.bool (off))])) rfl rfl ?_)
          refine L_op rfl (X_extract (l := [(.agg #[p_a, c_a, i_a, (.bool (off))]), (.int .i64 ((wrE ps.length cs bs off m)))]) (v := (.int .i64 ((wrE ps.length cs bs off m)))) rfl rfl ?_)
          refine L_op rfl (X_alloc (z := (.agg #[(.slice none 0 0), (.slice none 0 0), (.slice none 0 0), (.bool (false))])) (c := #[(.slice none 0 0), (.slice none 0 0), (.slice none 0 0), (.bool (false))]) Zv26 rfl ?_)
          intro b16 w16 hn16
          have hbn16 := hn16.num; have hbs16 := hn16.size
          replace hp := hp.ext hn16.ext
          replace hc := hc.ext hn16.ext
          replace hb := hb.ext hn16.ext
          replace hU := hU.trans (Ext.upd hn16.ext)
          replace hB1 := hB1.ext hn16.ext
          replace hB2 := hB2.ext hn16.ext
          replace hPw := hPw.ext hn16.ext
          replace hCw := hCw.ext hn16.ext
          replace hIw := hIw.ext hn16.ext
          replace hB13 := hB13.ext hn16.ext
          replace hPa := hPa.ext hn16.ext
          replace hCa := hCa.ext hn16.ext
          replace hIa := hIa.ext hn16.ext
          have hB16 := hn16.blk
          refine L_op0 (X_storeW (b := b16) (ys := [p_a, c_a, i_a, (.bool (off))]) A26 rfl rfl (List.forall_mem_cons.2 ⟨(hPa.1.sv.one), (List.forall_mem_cons.2 ⟨(hCa.1.sv.one), (List.forall_mem_cons.2 ⟨(hIa.1.sv.one), (List.forall_mem_cons.2 ⟨rfl, (fun _ h => by cases h)⟩)⟩)⟩)⟩) rfl hB16 rfl ?_)
          intro w17 hu17 hb17
          have hz17 := hu17.size
          replace hp := hp.upd hu17 fun i h1 h2 h => by have h : i = b16 := h; omega
          replace hc := hc.upd hu17 fun i h1 h2 h => by have h : i = b16 := h; omega
          replace hb := hb.upd hu17 fun i h1 h2 h => by have h : i = b16 := h; omega
          replace hU := hU.trans (hu17.mono fun i _ h => by have h : i = b16 := h; show n0 ≤ i; omega)
          replace hB1 := hB1.upd hu17 fun h => by have h : b1 = b16 := h; omega
          replace hB2 := hB2.upd hu17 fun h => by have h : b2 = b16 := h; omega
          replace hPw := hPw.upd hu17 fun i h1 h2 h => by have h : i = b16 := h; omega
          replace hCw := hCw.upd hu17 fun i h1 h2 h => by have h : i = b16 := h; omega
          replace hIw := hIw.upd hu17 fun i h1 h2 h => by have h : i = b16 := h; omega
          replace hB13 := hB13.upd hu17 fun h => by have h : b13 = b16 := h; omega
          replace hPa := hPa.upd hu17 fun i h1 h2 h => by have h : i = b16 := h; omega
          replace hCa := hCa.upd hu17 fun i h1 h2 h => by have h : i = b16 := h; omega
          replace hIa := hIa.upd hu17 fun i h1 h2 h => by have h : i = b16 := h; omega
          replace hB16 : Blk w17 b16 #[p_a, c_a, i_a, (.bool (off))] 26 := hb17
          refine L_op rfl (X_assign (v := (.int .i64 ((wrE ps.length cs bs off m)))) rfl ?_)
          refine L_nil ?_
          refine T_n ?_
          refine W_seq ?_
          refine W_reg ?_
          refine L_op rfl (X_loadA (p := (ptr b16 (0))) (xs := [p_a, c_a, i_a, (.bool (off))]) A26 rfl hB16.atAll rfl ?_)
          obtain ⟨s_b, hs_b⟩ : ∃ n, n = w17.heap.size := ⟨_, rfl⟩
          refine L_op rfl (X_fn (vs := [(.agg ([p_a, c_a, i_a, (.bool (off))]).toArray)]) en13 rfl (CT.mono (c_flush p_a c_a i_a ps cs1 bs off _ s_a u_a (by omega) hPa.rd hCa.rd hIa.rd (by omega) (by omega) (by omega)) ?_))
          rintro _ w18 ⟨p_b, c_b, i_b, qs, ds, as_, rfl, hPb, hCb, hIb, hok, hno, hu18⟩
          have hz18 := hu18.size
          replace hp := hp.ext hu18
          replace hc := hc.ext hu18
          replace hb := hb.ext hu18
          replace hU := hU.trans (Ext.upd hu18)
          replace hB1 := hB1.ext hu18
          replace hB2 := hB2.ext hu18
          replace hPw := hPw.ext hu18
          replace hCw := hCw.ext hu18
          replace hIw := hIw.ext hu18
          replace hB13 := hB13.ext hu18
          replace hPa := hPa.ext hu18
          replace hCa := hCa.ext hu18
          replace hIa := hIa.ext hu18
          replace hB16 := hB16.ext hu18
          have hlq : qs.length = ps.length ∧ ds.length ≤ 61 ∧ as_.length ≤ bs.length := by by_cases h0 : askE ps.length cs1 bs off 0 = 0; (· obtain ⟨e1, e2, e3⟩ := hok h0; rw [e1, e2, e3]; exact ⟨flP_length _ _, Nat.zero_le _, flB_le _ _⟩); (· obtain ⟨e1, e2, e3⟩ := hno h0; rw [e1, e2, e3]; exact ⟨rfl, hl1, Nat.le_refl _⟩)
          obtain ⟨u_b, hu_b⟩ : ∃ n, n = w18.heap.size := ⟨_, rfl⟩
          rw [← hs_b, ← hu_b] at hPb hCb hIb
          refine L_op rfl (X_move (v := (.tuple #[(.agg #[p_b, c_b, i_b, (.bool (off))]), (.int .i64 ((askE ps.length cs1 bs off 0)))])) rfl ?_)
          refine L_op rfl (X_extract (l := [(.agg #[p_b, c_b, i_b, (.bool (off))]), (.int .i64 ((askE ps.length cs1 bs off 0)))]) (v := (.agg #[p_b, c_b, i_b, (.bool (off))])) rfl rfl ?_)
          refine L_op rfl (X_extract (l := [(.agg #[p_b, c_b, i_b, (.bool (off))]), (.int .i64 ((askE ps.length cs1 bs off 0)))]) (v := (.int .i64 ((askE ps.length cs1 bs off 0)))) rfl rfl ?_)
          refine L_op rfl (X_alloc (z := (.agg #[(.slice none 0 0), (.slice none 0 0), (.slice none 0 0), (.bool (false))])) (c := #[(.slice none 0 0), (.slice none 0 0), (.slice none 0 0), (.bool (false))]) Zv26 rfl ?_)
          intro b19 w19 hn19
          have hbn19 := hn19.num; have hbs19 := hn19.size
          replace hp := hp.ext hn19.ext
          replace hc := hc.ext hn19.ext
          replace hb := hb.ext hn19.ext
          replace hU := hU.trans (Ext.upd hn19.ext)
          replace hB1 := hB1.ext hn19.ext
          replace hB2 := hB2.ext hn19.ext
          replace hPw := hPw.ext hn19.ext
          replace hCw := hCw.ext hn19.ext
          replace hIw := hIw.ext hn19.ext
          replace hB13 := hB13.ext hn19.ext
          replace hPa := hPa.ext hn19.ext
          replace hCa := hCa.ext hn19.ext
          replace hIa := hIa.ext hn19.ext
          replace hB16 := hB16.ext hn19.ext
          replace hPb := hPb.ext hn19.ext
          replace hCb := hCb.ext hn19.ext
          replace hIb := hIb.ext hn19.ext
          have hB19 := hn19.blk
          refine L_op0 (X_storeW (b := b19) (ys := [p_b, c_b, i_b, (.bool (off))]) A26 rfl rfl (List.forall_mem_cons.2 ⟨(hPb.1.sv.one), (List.forall_mem_cons.2 ⟨(hCb.1.sv.one), (List.forall_mem_cons.2 ⟨(hIb.1.sv.one), (List.forall_mem_cons.2 ⟨rfl, (fun _ h => by cases h)⟩)⟩)⟩)⟩) rfl hB19 rfl ?_)
          intro w20 hu20 hb20
          have hz20 := hu20.size
          replace hp := hp.upd hu20 fun i h1 h2 h => by have h : i = b19 := h; omega
          replace hc := hc.upd hu20 fun i h1 h2 h => by have h : i = b19 := h; omega
          replace hb := hb.upd hu20 fun i h1 h2 h => by have h : i = b19 := h; omega
          replace hU := hU.trans (hu20.mono fun i _ h => by have h : i = b19 := h; show n0 ≤ i; omega)
          replace hB1 := hB1.upd hu20 fun h => by have h : b1 = b19 := h; omega
          replace hB2 := hB2.upd hu20 fun h => by have h : b2 = b19 := h; omega
          replace hPw := hPw.upd hu20 fun i h1 h2 h => by have h : i = b19 := h; omega
          replace hCw := hCw.upd hu20 fun i h1 h2 h => by have h : i = b19 := h; omega
          replace hIw := hIw.upd hu20 fun i h1 h2 h => by have h : i = b19 := h; omega
          replace hB13 := hB13.upd hu20 fun h => by have h : b13 = b19 := h; omega
          replace hPa := hPa.upd hu20 fun i h1 h2 h => by have h : i = b19 := h; omega
          replace hCa := hCa.upd hu20 fun i h1 h2 h => by have h : i = b19 := h; omega
          replace hIa := hIa.upd hu20 fun i h1 h2 h => by have h : i = b19 := h; omega
          replace hB16 := hB16.upd hu20 fun h => by have h : b16 = b19 := h; omega
          replace hPb := hPb.upd hu20 fun i h1 h2 h => by have h : i = b19 := h; omega
          replace hCb := hCb.upd hu20 fun i h1 h2 h => by have h : i = b19 := h; omega
          replace hIb := hIb.upd hu20 fun i h1 h2 h => by have h : i = b19 := h; omega
          replace hB19 : Blk w20 b19 #[p_b, c_b, i_b, (.bool (off))] 26 := hb20
          refine L_op rfl (X_assign (v := (.int .i64 ((askE ps.length cs1 bs off 0)))) rfl ?_)
          refine L_nil ?_
          refine T_n ?_
          refine W_seq ?_
          refine W_reg ?_
          refine L_op rfl (X_loadA (p := (ptr b1 (0))) (xs := [pv, cv, bv, (.bool (off))]) A26 rfl hB1.atAll rfl ?_)
          obtain ⟨s_c, hs_c⟩ : ∃ n, n = w20.heap.size := ⟨_, rfl⟩
          refine L_op rfl (X_fn (vs := [(.agg ([pv, cv, bv, (.bool (off))]).toArray)]) en17 rfl (CT.mono (c_copy pv cv bv ps cs bs off _ 0 n0 (by omega) hp hc hb (by omega) (by omega) (by omega)) ?_))
          rintro _ w21 ⟨p_c, c_c, i_c, rfl, hPc, hCc, hIc, hu21⟩
          have hz21 := hu21.size
          replace hp := hp.ext hu21
          replace hc := hc.ext hu21
          replace hb := hb.ext hu21
          replace hU := hU.trans (Ext.upd hu21)
          replace hB1 := hB1.ext hu21
          replace hB2 := hB2.ext hu21
          replace hPw := hPw.ext hu21
          replace hCw := hCw.ext hu21
          replace hIw := hIw.ext hu21
          replace hB13 := hB13.ext hu21
          replace hPa := hPa.ext hu21
          replace hCa := hCa.ext hu21
          replace hIa := hIa.ext hu21
          replace hB16 := hB16.ext hu21
          replace hPb := hPb.ext hu21
          replace hCb := hCb.ext hu21
          replace hIb := hIb.ext hu21
          replace hB19 := hB19.ext hu21
          obtain ⟨u_c, hu_c⟩ : ∃ n, n = w21.heap.size := ⟨_, rfl⟩
          rw [← hs_c, ← hu_c] at hPc hCc hIc
          refine L_op rfl (X_alloc (z := (.agg #[(.slice none 0 0), (.slice none 0 0), (.slice none 0 0), (.bool (false))])) (c := #[(.slice none 0 0), (.slice none 0 0), (.slice none 0 0), (.bool (false))]) Zv26 rfl ?_)
          intro b22 w22 hn22
          have hbn22 := hn22.num; have hbs22 := hn22.size
          replace hp := hp.ext hn22.ext
          replace hc := hc.ext hn22.ext
          replace hb := hb.ext hn22.ext
          replace hU := hU.trans (Ext.upd hn22.ext)
          replace hB1 := hB1.ext hn22.ext
          replace hB2 := hB2.ext hn22.ext
          replace hPw := hPw.ext hn22.ext
          replace hCw := hCw.ext hn22.ext
          replace hIw := hIw.ext hn22.ext
          replace hB13 := hB13.ext hn22.ext
          replace hPa := hPa.ext hn22.ext
          replace hCa := hCa.ext hn22.ext
          replace hIa := hIa.ext hn22.ext
          replace hB16 := hB16.ext hn22.ext
          replace hPb := hPb.ext hn22.ext
          replace hCb := hCb.ext hn22.ext
          replace hIb := hIb.ext hn22.ext
          replace hB19 := hB19.ext hn22.ext
          replace hPc := hPc.ext hn22.ext
          replace hCc := hCc.ext hn22.ext
          replace hIc := hIc.ext hn22.ext
          have hB22 := hn22.blk
          refine L_op0 (X_storeW (b := b22) (ys := [p_c, c_c, i_c, (.bool (off))]) A26 rfl rfl (List.forall_mem_cons.2 ⟨(hPc.1.sv.one), (List.forall_mem_cons.2 ⟨(hCc.1.sv.one), (List.forall_mem_cons.2 ⟨(hIc.1.sv.one), (List.forall_mem_cons.2 ⟨rfl, (fun _ h => by cases h)⟩)⟩)⟩)⟩) rfl hB22 rfl ?_)
          intro w23 hu23 hb23
          have hz23 := hu23.size
          replace hp := hp.upd hu23 fun i h1 h2 h => by have h : i = b22 := h; omega
          replace hc := hc.upd hu23 fun i h1 h2 h => by have h : i = b22 := h; omega
          replace hb := hb.upd hu23 fun i h1 h2 h => by have h : i = b22 := h; omega
          replace hU := hU.trans (hu23.mono fun i _ h => by have h : i = b22 := h; show n0 ≤ i; omega)
          replace hB1 := hB1.upd hu23 fun h => by have h : b1 = b22 := h; omega
          replace hB2 := hB2.upd hu23 fun h => by have h : b2 = b22 := h; omega
          replace hPw := hPw.upd hu23 fun i h1 h2 h => by have h : i = b22 := h; omega
          replace hCw := hCw.upd hu23 fun i h1 h2 h => by have h : i = b22 := h; omega
          replace hIw := hIw.upd hu23 fun i h1 h2 h => by have h : i = b22 := h; omega
          replace hB13 := hB13.upd hu23 fun h => by have h : b13 = b22 := h; omega
          replace hPa := hPa.upd hu23 fun i h1 h2 h => by have h : i = b22 := h; omega
          replace hCa := hCa.upd hu23 fun i h1 h2 h => by have h : i = b22 := h; omega
          replace hIa := hIa.upd hu23 fun i h1 h2 h => by have h : i = b22 := h; omega
          replace hB16 := hB16.upd hu23 fun h => by have h : b16 = b22 := h; omega
          replace hPb := hPb.upd hu23 fun i h1 h2 h => by have h : i = b22 := h; omega
          replace hCb := hCb.upd hu23 fun i h1 h2 h => by have h : i = b22 := h; omega
          replace hIb := hIb.upd hu23 fun i h1 h2 h => by have h : i = b22 := h; omega
          replace hB19 := hB19.upd hu23 fun h => by have h : b19 = b22 := h; omega
          replace hPc := hPc.upd hu23 fun i h1 h2 h => by have h : i = b22 := h; omega
          replace hCc := hCc.upd hu23 fun i h1 h2 h => by have h : i = b22 := h; omega
          replace hIc := hIc.upd hu23 fun i h1 h2 h => by have h : i = b22 := h; omega
          replace hB22 : Blk w23 b22 #[p_c, c_c, i_c, (.bool (off))] 26 := hb23
          refine L_nil ?_
          refine T_n ?_
          refine W_seq ?_
          refine W_reg ?_
          refine L_op rfl (X_loadA (p := (ptr b16 (0))) (xs := [p_a, c_a, i_a, (.bool (off))]) A26 rfl hB16.atAll rfl ?_)
          refine L_op rfl (X_loadA (p := (ptr b19 (0))) (xs := [p_b, c_b, i_b, (.bool (off))]) A26 rfl hB19.atAll rfl ?_)
          refine L_op rfl (X_loadA (p := (ptr b22 (0))) (xs := [p_c, c_c, i_c, (.bool (off))]) A26 rfl hB22.atAll rfl ?_)
          refine L_op rfl (X_buildSliceL (vs := [(.agg ([p_a, c_a, i_a, (.bool (off))]).toArray), (.agg ([p_b, c_b, i_b, (.bool (off))]).toArray), (.agg ([p_c, c_c, i_c, (.bool (off))]).toArray)]) (c := [p_a, c_a, i_a, (.bool (off)), p_b, c_b, i_b, (.bool (off)), p_c, c_c, i_c, (.bool (off))]) S41 (by decide) rfl rfl (List.forall_mem_cons.2 ⟨rfl, (List.forall_mem_cons.2 ⟨rfl, (List.forall_mem_cons.2 ⟨rfl, (fun _ h => by cases h)⟩)⟩)⟩) rfl ?_)
          intro b24 w24 hn24
          have hbn24 := hn24.num; have hbs24 := hn24.size
          replace hp := hp.ext hn24.ext
          replace hc := hc.ext hn24.ext
          replace hb := hb.ext hn24.ext
          replace hU := hU.trans (Ext.upd hn24.ext)
          replace hB1 := hB1.ext hn24.ext
          replace hB2 := hB2.ext hn24.ext
          replace hPw := hPw.ext hn24.ext
          replace hCw := hCw.ext hn24.ext
          replace hIw := hIw.ext hn24.ext
          replace hB13 := hB13.ext hn24.ext
          replace hPa := hPa.ext hn24.ext
          replace hCa := hCa.ext hn24.ext
          replace hIa := hIa.ext hn24.ext
          replace hB16 := hB16.ext hn24.ext
          replace hPb := hPb.ext hn24.ext
          replace hCb := hCb.ext hn24.ext
          replace hIb := hIb.ext hn24.ext
          replace hB19 := hB19.ext hn24.ext
          replace hPc := hPc.ext hn24.ext
          replace hCc := hCc.ext hn24.ext
          replace hIc := hIc.ext hn24.ext
          replace hB22 := hB22.ext hn24.ext
          have hB24 := hn24.blk
          refine L_op rfl (X_assign (v := (.slice (some ⟨b24, 0, none⟩) 3 3)) rfl ?_)
          refine L_nil ?_
          refine T_n ?_
          refine W_seq ?_
          refine W_seq ?_
          refine W_reg ?_
          refine L_op rfl (X_assign (v := (.int .i64 (0))) rfl ?_)
          refine L_nil ?_
          refine T_n ?_
          refine W_block ?_
          obtain ⟨l3, hl3_⟩ : ∃ l : List Dk, l = [⟨p_a, c_a, i_a, ps, cs1, bs, off⟩, ⟨p_b, c_b, i_b, qs, ds, as_, off⟩, ⟨p_c, c_c, i_c, ps, cs, bs, off⟩] := ⟨_, rfl⟩
          have hl3 : l3.length = 3 := by rw [hl3_]; rfl
          have hBl : Blk w24 b24 (l3.flatMap LD.cel).toArray 26 := by rw [hl3_]; exact hB24
          have hBw := hB13
          have hsvl : SV (.slice (some ⟨b24, 0, none⟩) 3 3) 3 := (hBl.rd (o := 0) (n := 3) (c := 3) (sz := 4) (xs := l3.flatMap LD.cel) (by decide) (by decide) (by rw [flat_len, hl3]; rfl) (fun j u hj => by rw [Nat.zero_add]; simpa using hj)).sv
          obtain ⟨lo, hlo0, hlo1, hlo2⟩ : ∃ f : Nat → Nat, f 0 = s_a ∧ f 1 = s_b ∧ f 2 = s_c := ⟨fun j => if j = 0 then s_a else if j = 1 then s_b else s_c, rfl, rfl, rfl⟩
          obtain ⟨up, hup0, hup1, hup2⟩ : ∃ f : Nat → Nat, f 0 = u_a ∧ f 1 = u_b ∧ f 2 = u_c := ⟨fun j => if j = 0 then u_a else if j = 1 then u_b else u_c, rfl, rfl, rfl⟩
          have hbwl := hBw.lt; have hbll := hBl.lt
          have hlu : ∀ j k, j < k → k < 3 → up j ≤ lo k := fun j k h1 h2 => by have h3 : (j = 0 ∧ k = 1) ∨ (j = 0 ∧ k = 2) ∨ (j = 1 ∧ k = 2) := (by omega); rcases h3 with ⟨rfl, rfl⟩ | ⟨rfl, rfl⟩ | ⟨rfl, rfl⟩ <;> omega
          have hlow : ∀ j, j < 3 → b13 < lo j ∧ u_w ≤ lo j ∧ up j ≤ b24 ∧ b1 < lo j ∧ b2 < lo j ∧ n0 ≤ lo j := fun j h1 => by have h3 : j = 0 ∨ j = 1 ∨ j = 2 := (by omega); rcases h3 with rfl | rfl | rfl <;> omega
          have hK : ∀ (j : Nat) (d : Dk), 0 ≤ j → l3[j]? = some d → ODk w24 (lo j) (up j) d := fun j d _ hd => by have hjl := (List.getElem?_eq_some_iff.1 hd).1; have h3 : j = 0 ∨ j = 1 ∨ j = 2 := (by omega); rcases h3 with rfl | rfl | rfl <;> (rw [hl3_] at hd; cases hd); (· rw [hlo0, hup0]; exact ⟨hPa, hCa, hIa⟩); (· rw [hlo1, hup1]; exact ⟨hPb, hCb, hIb⟩); (· rw [hlo2, hup2]; exact ⟨hPc, hCc, hIc⟩)
          have hlen3 : ∀ d ∈ l3, d.ps.length = ps.length ∧ d.cs.length ≤ 100 ∧ d.bs.length ≤ 300 := by rw [hl3_]; exact List.forall_mem_cons.2 ⟨⟨rfl, (by show cs1.length ≤ 100; omega), (by show bs.length ≤ 300; omega)⟩, List.forall_mem_cons.2 ⟨⟨hlq.1, (by show ds.length ≤ 100; omega), (by show as_.length ≤ 300; omega)⟩, List.forall_mem_cons.2 ⟨⟨rfl, (by show cs.length ≤ 100; omega), (by show bs.length ≤ 300; omega)⟩, fun _ h => by cases h⟩⟩⟩
          clear hPa hCa hIa hPb hCb hIb hPc hCc hIc
          refine W_loop (α := Nat) [6, 14, 15, 16, 57, 58, 59, 60, 61, 62, 63, 64, 65, 66, 67, 68, 69, 70, 71, 72, 73, 74, 75, 76, 77, 78, 79, 80, 81, 82, 83, 84, 85, 86, 87, 88, 89, 90, 91, 92, 93, 94, 95, 96, 97, 98, 99, 100, 101, 102, 103, 104, 105, 106, 107, 108, 109, 110, 111, 112, 113, 114, 115, 116, 117, 118, 119, 120, 121, 122, 123, 124, 125, 126, 127, 128, 129, 130, 131, 132, 133, 134, 135, 136, 137, 138, 139, 140, 141, 142, 143] (fun i => [(14, (.int .i64 (((i : Nat) : Int))))]) (fun i w_ => i ≤ 3 ∧ Blk w_ b24 (l3.flatMap LD.cel).toArray 26 ∧ NRd LP w_ 0 n0 pv ps ∧ NRd LW w_ 0 n0 cv cs ∧ NRd LI w_ 0 n0 bv bs ∧ NOwn LP w_ 28 5 s_w u_w p_w ps ∧ NOwn LW w_ 43 5 s_w u_w c_w cs ∧ NOwn LI w_ 3 5 s_w u_w i_w bs ∧ Upd (fun i => n0 ≤ i) w w_ ∧ Blk w_ b1 #[pv, cv, bv, .bool off] 26 ∧ Blk w_ b2 (p.1.map byteV).toArray 28 ∧ Blk w_ b13 #[p_w, c_w, i_w, .bool off] 26 ∧ (∀ (j : Nat) (d : Dk), i ≤ j → l3[j]? = some d → ODk w_ (lo j) (up j) d)) (fun i => 3 - i) ⟨rfl, 0, ⟨by decide, hBl, hp, hc, hb, hPw, hCw, hIw, hU, hB1, hB2, hBw, hK⟩, Out.refl _ _, ⟨rfl, trivial⟩⟩ ?_
          rintro i w25 _ ⟨hil, hBl, hp, hc, hb, hPw, hCw, hIw, hU, hB1, hB2, hBw, hK⟩
          have hsz_ := hU.size
          refine W_seq ?_
          refine W_seq ?_
          refine W_reg ?_
          refine L_op rfl (X_move (v := (.int .i64 (((i : Nat) : Int)))) rfl ?_)
          by_cases hc26 : (((i : Nat) : Int) : Int) < (3)
          · refine L_op rfl (X_cmp (k := .i64) (a := ((i : Nat) : Int)) (b := 3) (r := true) rfl rfl rfl (decide_eq_true (p := ((((i : Nat) : Int)) : Int) < ((3) : Int)) (by omega)) ?_)
            have hi : i < 3 := by omega
            obtain ⟨d, hdi⟩ : ∃ d, l3[i]? = some d := ⟨_, List.getElem?_eq_getElem (by omega)⟩
            have hdl := hlen3 d (List.mem_of_getElem? hdi)
            obtain ⟨hPx, hCx, hIx⟩ := hK i d (Nat.le_refl _) hdi
            have hsv_pv := hPx.1.sv; have hsv_cv := hCx.1.sv; have hsv_bv := hIx.1.sv
            have hlw := hlow i hi
            replace hK := fun (j : Nat) (x : Dk) (hj : i + 1 ≤ j) (hx_ : l3[j]? = some x) => hK j x (by omega) hx_
            obtain ⟨pg, hpg⟩ : ∃ e, d.ps[m.toNat]? = some e := ⟨_, List.getElem?_eq_getElem (by omega)⟩
            obtain ⟨bx, hbx⟩ : ∃ u, pg.1[0]? = some u := ⟨_, List.getElem?_eq_getElem (by rw [pg.2]; decide)⟩
            obtain ⟨bz, hbz⟩ : ∃ u : UInt8, iop .xor .u8 ((bx.toNat : Nat) : Int) 255 = ((u.toNat : Nat) : Int) := u8_any _
            refine L_nil ?_
            refine T_n ?_
            refine W_ct rfl ?_
            refine W_skip ?_
            refine T_n ?_
            refine W_seq ?_
            refine W_block ?_
            refine W_seq ?_
            refine W_seq ?_
            refine W_draw 9 [[], [], [0, 1], [0, 1, 2], [0, 1, 2, 3], [0, 1, 2, 3, 4], [], [6], [6, 7], [0, 1, 2, 3, 4, 5, 6, 7, 8]] mixed (by kernel_rfl) ?_
            refine ⟨.det (fun val => (.slice (some ⟨b24, 0, none⟩) 3 3)), ⟨fun _ _ hv => rfl, fun _ _ _ _ _ => trivial⟩, fun val h_ W hx he => ⟨trivial, ?_⟩, ?_⟩
            · replace hx := (Upd.drew _ _).trans hx
              replace hBl := hBl.ext hx
              replace hp := hp.ext hx
              replace hc := hc.ext hx
              replace hb := hb.ext hx
              replace hPw := hPw.ext hx
              replace hCw := hCw.ext hx
              replace hIw := hIw.ext hx
              replace hB1 := hB1.ext hx
              replace hB2 := hB2.ext hx
              replace hBw := hBw.ext hx
              replace hK := fun (j : Nat) (e : Dk) hj he => (hK j e hj he).ext hx
              replace hPx := hPx.ext hx
              replace hCx := hCx.ext hx
              replace hIx := hIx.ext hx
              have hE := Upd.refl (fun _ => False) W
              refine id (X_move (v := (.slice (some ⟨b24, 0, none⟩) 3 3)) rfl ?_)
              exact ⟨hE, rfl⟩
            refine ⟨.det (fun val => (.int .i64 (((i : Nat) : Int)))), ⟨fun _ _ hv => rfl, fun _ _ _ _ _ => trivial⟩, fun val h_ W hx he => ⟨trivial, ?_⟩, ?_⟩
            · replace hx := (Upd.drew _ _).trans hx
              replace hBl := hBl.ext hx
              replace hp := hp.ext hx
              replace hc := hc.ext hx
              replace hb := hb.ext hx
              replace hPw := hPw.ext hx
              replace hCw := hCw.ext hx
              replace hIw := hIw.ext hx
              replace hB1 := hB1.ext hx
              replace hB2 := hB2.ext hx
              replace hBw := hBw.ext hx
              replace hK := fun (j : Nat) (e : Dk) hj he => (hK j e hj he).ext hx
              replace hPx := hPx.ext hx
              replace hCx := hCx.ext hx
              replace hIx := hIx.ext hx
              have hE := Upd.refl (fun _ => False) W
              refine id (X_move (v := (.int .i64 (((i : Nat) : Int)))) rfl ?_)
              exact ⟨hE, rfl⟩
            refine ⟨.det (fun val => (pof (.slice (some ⟨b24, 0, none⟩) 3 3) ((((i : Nat) : Int) : Int).toNat * 4))), ⟨fun _ _ hv => rfl, fun _ _ _ _ _ => trivial⟩, fun val h_ W hx he => ⟨trivial, ?_⟩, ?_⟩
            · replace hx := (Upd.drew _ _).trans hx
              replace hBl := hBl.ext hx
              replace hp := hp.ext hx
              replace hc := hc.ext hx
              replace hb := hb.ext hx
              replace hPw := hPw.ext hx
              replace hCw := hCw.ext hx
              replace hIw := hIw.ext hx
              replace hB1 := hB1.ext hx
              replace hB2 := hB2.ext hx
              replace hBw := hBw.ext hx
              replace hK := fun (j : Nat) (e : Dk) hj he => (hK j e hj he).ext hx
              replace hPx := hPx.ext hx
              replace hCx := hCx.ext hx
              replace hIx := hIx.ext hx
              have hE := Upd.refl (fun _ => False) W
              refine id (X_idx (v := (.slice (some ⟨b24, 0, none⟩) 3 3)) (n := 3) (k := .i64) (i := ((i : Nat) : Int)) S41 rfl hsvl rfl (by omega) (by omega) ?_)
              exact ⟨hE, rfl⟩
            refine ⟨.det (fun val => (pof (.slice (some ⟨b24, 0, none⟩) 3 3) ((((i : Nat) : Int) : Int).toNat * 4 + 0))), ⟨fun _ _ hv => rfl, fun _ _ _ _ _ => trivial⟩, fun val h_ W hx he => ⟨trivial, ?_⟩, ?_⟩
            · replace hx := (Upd.drew _ _).trans hx
              replace hBl := hBl.ext hx
              replace hp := hp.ext hx
              replace hc := hc.ext hx
              replace hb := hb.ext hx
              replace hPw := hPw.ext hx
              replace hCw := hCw.ext hx
              replace hIw := hIw.ext hx
              replace hB1 := hB1.ext hx
              replace hB2 := hB2.ext hx
              replace hBw := hBw.ext hx
              replace hK := fun (j : Nat) (e : Dk) hj he => (hK j e hj he).ext hx
              replace hPx := hPx.ext hx
              replace hCx := hCx.ext hx
              replace hIx := hIx.ext hx
              have hE := Upd.refl (fun _ => False) W
              refine id (X_fldS (v := (.slice (some ⟨b24, 0, none⟩) 3 3)) (o := (((i : Nat) : Int) : Int).toNat * 4) Fd26_0 rfl hsvl (by omega) ?_)
              exact ⟨hE, rfl⟩
            refine ⟨.det (fun val => d.pv), ⟨fun _ _ hv => rfl, fun _ _ _ _ _ => trivial⟩, fun val h_ W hx he => ⟨trivial, ?_⟩, ?_⟩
            · replace hx := (Upd.drew _ _).trans hx
              replace hBl := hBl.ext hx
              replace hp := hp.ext hx
              replace hc := hc.ext hx
              replace hb := hb.ext hx
              replace hPw := hPw.ext hx
              replace hCw := hCw.ext hx
              replace hIw := hIw.ext hx
              replace hB1 := hB1.ext hx
              replace hB2 := hB2.ext hx
              replace hBw := hBw.ext hx
              replace hK := fun (j : Nat) (e : Dk) hj he => (hK j e hj he).ext hx
              replace hPx := hPx.ext hx
              replace hCx := hCx.ext hx
              replace hIx := hIx.ext hx
              have hE := Upd.refl (fun _ => False) W
              refine id (X_load (v := d.pv) T22 rfl ((hBl.rd (o := 0) (n := 3) (c := 3) (sz := 4) (xs := l3.flatMap LD.cel) (by decide) (by decide) (by rw [flat_len, hl3]; rfl) (fun j u hj => by rw [Nat.zero_add]; simpa using hj)).cell (flat_at (L := LD) (i := i) (j := 0) hdi rfl)) ?_)
              exact ⟨hE, rfl⟩
            refine ⟨.det (fun val => (.int .i64 (((d.ps.length : Nat) : Int)))), ⟨fun _ _ hv => rfl, fun _ _ _ _ _ => trivial⟩, fun val h_ W hx he => ⟨trivial, ?_⟩, ?_⟩
            · replace hx := (Upd.drew _ _).trans hx
              replace hBl := hBl.ext hx
              replace hp := hp.ext hx
              replace hc := hc.ext hx
              replace hb := hb.ext hx
              replace hPw := hPw.ext hx
              replace hCw := hCw.ext hx
              replace hIw := hIw.ext hx
              replace hB1 := hB1.ext hx
              replace hB2 := hB2.ext hx
              replace hBw := hBw.ext hx
              replace hK := fun (j : Nat) (e : Dk) hj he => (hK j e hj he).ext hx
              replace hPx := hPx.ext hx
              replace hCx := hCx.ext hx
              replace hIx := hIx.ext hx
              have hE := Upd.refl (fun _ => False) W
              refine id (X_len (v := d.pv) (n := d.ps.length) Try.underlying22 rfl hsv_pv ?_)
              exact ⟨hE, rfl⟩
            refine ⟨.det (fun val => (ptr b1 (0))), ⟨fun _ _ hv => rfl, fun _ _ _ _ _ => trivial⟩, fun val h_ W hx he => ⟨trivial, ?_⟩, ?_⟩
            · replace hx := (Upd.drew _ _).trans hx
              replace hBl := hBl.ext hx
              replace hp := hp.ext hx
              replace hc := hc.ext hx
              replace hb := hb.ext hx
              replace hPw := hPw.ext hx
              replace hCw := hCw.ext hx
              replace hIw := hIw.ext hx
              replace hB1 := hB1.ext hx
              replace hB2 := hB2.ext hx
              replace hBw := hBw.ext hx
              replace hK := fun (j : Nat) (e : Dk) hj he => (hK j e hj he).ext hx
              replace hPx := hPx.ext hx
              replace hCx := hCx.ext hx
              replace hIx := hIx.ext hx
              have hE := Upd.refl (fun _ => False) W
              refine id (X_fldP (b := b1) (o := 0) (r := 0) Fd26_0 rfl rfl ?_)
              exact ⟨hE, rfl⟩
            refine ⟨.det (fun val => pv), ⟨fun _ _ hv => rfl, fun _ _ _ _ _ => trivial⟩, fun val h_ W hx he => ⟨trivial, ?_⟩, ?_⟩
            · replace hx := (Upd.drew _ _).trans hx
              replace hBl := hBl.ext hx
              replace hp := hp.ext hx
              replace hc := hc.ext hx
              replace hb := hb.ext hx
              replace hPw := hPw.ext hx
              replace hCw := hCw.ext hx
              replace hIw := hIw.ext hx
              replace hB1 := hB1.ext hx
              replace hB2 := hB2.ext hx
              replace hBw := hBw.ext hx
              replace hK := fun (j : Nat) (e : Dk) hj he => (hK j e hj he).ext hx
              replace hPx := hPx.ext hx
              replace hCx := hCx.ext hx
              replace hIx := hIx.ext hx
              have hE := Upd.refl (fun _ => False) W
              refine id (X_load (p := (ptr b1 (0))) (v := pv) T22 rfl (hB1.at1 rfl) ?_)
              exact ⟨hE, rfl⟩
            refine ⟨.det (fun val => (.int .i64 (((ps.length : Nat) : Int)))), ⟨fun _ _ hv => rfl, fun _ _ _ _ _ => trivial⟩, fun val h_ W hx he => ⟨trivial, ?_⟩, ?_⟩
            · replace hx := (Upd.drew _ _).trans hx
              replace hBl := hBl.ext hx
              replace hp := hp.ext hx
              replace hc := hc.ext hx
              replace hb := hb.ext hx
              replace hPw := hPw.ext hx
              replace hCw := hCw.ext hx
              replace hIw := hIw.ext hx
              replace hB1 := hB1.ext hx
              replace hB2 := hB2.ext hx
              replace hBw := hBw.ext hx
              replace hK := fun (j : Nat) (e : Dk) hj he => (hK j e hj he).ext hx
              replace hPx := hPx.ext hx
              replace hCx := hCx.ext hx
              replace hIx := hIx.ext hx
              have hE := Upd.refl (fun _ => False) W
              refine id (X_len (v := pv) (n := ps.length) Try.underlying22 rfl hp.sv ?_)
              exact ⟨hE, rfl⟩
            intro val W27 hx27 he27
            replace hx27 := (Upd.drew _ _).trans hx27
            have hz27 := hx27.size
            replace hBl := hBl.ext hx27
            replace hp := hp.ext hx27
            replace hc := hc.ext hx27
            replace hb := hb.ext hx27
            replace hPw := hPw.ext hx27
            replace hCw := hCw.ext hx27
            replace hIw := hIw.ext hx27
            replace hU := hU.trans (Ext.upd hx27)
            replace hB1 := hB1.ext hx27
            replace hB2 := hB2.ext hx27
            replace hBw := hBw.ext hx27
            replace hK := fun (j : Nat) (e : Dk) hj he => (hK j e hj he).ext hx27
            replace hPx := hPx.ext hx27
            replace hCx := hCx.ext hx27
            replace hIx := hIx.ext hx27
            refine L_op rfl (X_cmp (k := .i64) (a := ((d.ps.length : Nat) : Int)) (b := ((ps.length : Nat) : Int)) (r := false) rfl rfl rfl (decide_eq_false (p := ((((d.ps.length : Nat) : Int)) : Int) ≠ ((((ps.length : Nat) : Int)) : Int)) (by omega)) ?_)
            refine L_nil ?_
            refine T_n ?_
            refine W_cf rfl ?_
            refine W_skip ?_
            refine T_n ?_
            refine W_seq ?_
            refine W_draw 17 [[], [], [0, 1], [0, 1, 2], [0, 1, 2, 3], [], [], [], [6, 7], [6, 7, 8], [6, 7, 8, 9], [], [6, 7, 8, 9, 10, 11], [6, 7, 8, 9, 10, 11, 12], [6, 7, 8, 9, 10, 11, 12, 13], [6, 7, 8, 9, 10, 11, 12, 13, 14], [0, 1, 2, 3, 4, 5], [0, 1, 2, 3, 4, 5, 6, 7, 8, 9, 10, 11, 12, 13, 14, 15, 16], [0, 1, 2, 3, 4, 5, 6, 7, 8, 9, 10, 11, 12, 13, 14, 15, 16, 17]] mixed (by kernel_rfl) ?_
            refine ⟨.det (fun val => (.slice (some ⟨b24, 0, none⟩) 3 3)), ⟨fun _ _ hv => rfl, fun _ _ _ _ _ => trivial⟩, fun val h_ W hx he => ⟨trivial, ?_⟩, ?_⟩
            · replace hx := (Upd.drew _ _).trans hx
              replace hBl := hBl.ext hx
              replace hp := hp.ext hx
              replace hc := hc.ext hx
              replace hb := hb.ext hx
              replace hPw := hPw.ext hx
              replace hCw := hCw.ext hx
              replace hIw := hIw.ext hx
              replace hB1 := hB1.ext hx
              replace hB2 := hB2.ext hx
              replace hBw := hBw.ext hx
              replace hK := fun (j : Nat) (e : Dk) hj he => (hK j e hj he).ext hx
              replace hPx := hPx.ext hx
              replace hCx := hCx.ext hx
              replace hIx := hIx.ext hx
              have hE := Upd.refl (fun _ => False) W
              refine id (X_move (v := (.slice (some ⟨b24, 0, none⟩) 3 3)) rfl ?_)
              exact ⟨hE, rfl⟩
            refine ⟨.det (fun val => (.int .i64 (((i : Nat) : Int)))), ⟨fun _ _ hv => rfl, fun _ _ _ _ _ => trivial⟩, fun val h_ W hx he => ⟨trivial, ?_⟩, ?_⟩
            · replace hx := (Upd.drew _ _).trans hx
              replace hBl := hBl.ext hx
              replace hp := hp.ext hx
              replace hc := hc.ext hx
              replace hb := hb.ext hx
              replace hPw := hPw.ext hx
              replace hCw := hCw.ext hx
              replace hIw := hIw.ext hx
              replace hB1 := hB1.ext hx
              replace hB2 := hB2.ext hx
              replace hBw := hBw.ext hx
              replace hK := fun (j : Nat) (e : Dk) hj he => (hK j e hj he).ext hx
              replace hPx := hPx.ext hx
              replace hCx := hCx.ext hx
              replace hIx := hIx.ext hx
              have hE := Upd.refl (fun _ => False) W
              refine id (X_move (v := (.int .i64 (((i : Nat) : Int)))) rfl ?_)
              exact ⟨hE, rfl⟩
            refine ⟨.det (fun val => (pof (.slice (some ⟨b24, 0, none⟩) 3 3) ((((i : Nat) : Int) : Int).toNat * 4))), ⟨fun _ _ hv => rfl, fun _ _ _ _ _ => trivial⟩, fun val h_ W hx he => ⟨trivial, ?_⟩, ?_⟩
            · replace hx := (Upd.drew _ _).trans hx
              replace hBl := hBl.ext hx
              replace hp := hp.ext hx
              replace hc := hc.ext hx
              replace hb := hb.ext hx
              replace hPw := hPw.ext hx
              replace hCw := hCw.ext hx
              replace hIw := hIw.ext hx
              replace hB1 := hB1.ext hx
              replace hB2 := hB2.ext hx
              replace hBw := hBw.ext hx
              replace hK := fun (j : Nat) (e : Dk) hj he => (hK j e hj he).ext hx
              replace hPx := hPx.ext hx
              replace hCx := hCx.ext hx
              replace hIx := hIx.ext hx
              have hE := Upd.refl (fun _ => False) W
              refine id (X_idx (v := (.slice (some ⟨b24, 0, none⟩) 3 3)) (n := 3) (k := .i64) (i := ((i : Nat) : Int)) S41 rfl hsvl rfl (by omega) (by omega) ?_)
              exact ⟨hE, rfl⟩
            refine ⟨.det (fun val => (pof (.slice (some ⟨b24, 0, none⟩) 3 3) ((((i : Nat) : Int) : Int).toNat * 4 + 0))), ⟨fun _ _ hv => rfl, fun _ _ _ _ _ => trivial⟩, fun val h_ W hx he => ⟨trivial, ?_⟩, ?_⟩
            · replace hx := (Upd.drew _ _).trans hx
              replace hBl := hBl.ext hx
              replace hp := hp.ext hx
              replace hc := hc.ext hx
              replace hb := hb.ext hx
              replace hPw := hPw.ext hx
              replace hCw := hCw.ext hx
              replace hIw := hIw.ext hx
              replace hB1 := hB1.ext hx
              replace hB2 := hB2.ext hx
              replace hBw := hBw.ext hx
              replace hK := fun (j : Nat) (e : Dk) hj he => (hK j e hj he).ext hx
              replace hPx := hPx.ext hx
              replace hCx := hCx.ext hx
              replace hIx := hIx.ext hx
              have hE := Upd.refl (fun _ => False) W
              refine id (X_fldS (v := (.slice (some ⟨b24, 0, none⟩) 3 3)) (o := (((i : Nat) : Int) : Int).toNat * 4) Fd26_0 rfl hsvl (by omega) ?_)
              exact ⟨hE, rfl⟩
            refine ⟨.det (fun val => d.pv), ⟨fun _ _ hv => rfl, fun _ _ _ _ _ => trivial⟩, fun val h_ W hx he => ⟨trivial, ?_⟩, ?_⟩
            · replace hx := (Upd.drew _ _).trans hx
              replace hBl := hBl.ext hx
              replace hp := hp.ext hx
              replace hc := hc.ext hx
              replace hb := hb.ext hx
              replace hPw := hPw.ext hx
              replace hCw := hCw.ext hx
              replace hIw := hIw.ext hx
              replace hB1 := hB1.ext hx
              replace hB2 := hB2.ext hx
              replace hBw := hBw.ext hx
              replace hK := fun (j : Nat) (e : Dk) hj he => (hK j e hj he).ext hx
              replace hPx := hPx.ext hx
              replace hCx := hCx.ext hx
              replace hIx := hIx.ext hx
              have hE := Upd.refl (fun _ => False) W
              refine id (X_load (v := d.pv) T22 rfl ((hBl.rd (o := 0) (n := 3) (c := 3) (sz := 4) (xs := l3.flatMap LD.cel) (by decide) (by decide) (by rw [flat_len, hl3]; rfl) (fun j u hj => by rw [Nat.zero_add]; simpa using hj)).cell (flat_at (L := LD) (i := i) (j := 0) hdi rfl)) ?_)
              exact ⟨hE, rfl⟩
            refine ⟨.det (fun val => (.int .i64 (m))), ⟨fun _ _ hv => rfl, fun _ _ _ _ _ => trivial⟩, fun val h_ W hx he => ⟨trivial, ?_⟩, ?_⟩
            · replace hx := (Upd.drew _ _).trans hx
              replace hBl := hBl.ext hx
              replace hp := hp.ext hx
              replace hc := hc.ext hx
              replace hb := hb.ext hx
              replace hPw := hPw.ext hx
              replace hCw := hCw.ext hx
              replace hIw := hIw.ext hx
              replace hB1 := hB1.ext hx
              replace hB2 := hB2.ext hx
              replace hBw := hBw.ext hx
              replace hK := fun (j : Nat) (e : Dk) hj he => (hK j e hj he).ext hx
              replace hPx := hPx.ext hx
              replace hCx := hCx.ext hx
              replace hIx := hIx.ext hx
              have hE := Upd.refl (fun _ => False) W
              refine id (X_move (v := (.int .i64 (m))) rfl ?_)
              exact ⟨hE, rfl⟩
            refine ⟨.det (fun val => (.slice (some ⟨b24, 0, none⟩) 3 3)), ⟨fun _ _ hv => rfl, fun _ _ _ _ _ => trivial⟩, fun val h_ W hx he => ⟨trivial, ?_⟩, ?_⟩
            · replace hx := (Upd.drew _ _).trans hx
              replace hBl := hBl.ext hx
              replace hp := hp.ext hx
              replace hc := hc.ext hx
              replace hb := hb.ext hx
              replace hPw := hPw.ext hx
              replace hCw := hCw.ext hx
              replace hIw := hIw.ext hx
              replace hB1 := hB1.ext hx
              replace hB2 := hB2.ext hx
              replace hBw := hBw.ext hx
              replace hK := fun (j : Nat) (e : Dk) hj he => (hK j e hj he).ext hx
              replace hPx := hPx.ext hx
              replace hCx := hCx.ext hx
              replace hIx := hIx.ext hx
              have hE := Upd.refl (fun _ => False) W
              refine id (X_move (v := (.slice (some ⟨b24, 0, none⟩) 3 3)) rfl ?_)
              exact ⟨hE, rfl⟩
            refine ⟨.det (fun val => (.int .i64 (((i : Nat) : Int)))), ⟨fun _ _ hv => rfl, fun _ _ _ _ _ => trivial⟩, fun val h_ W hx he => ⟨trivial, ?_⟩, ?_⟩
            · replace hx := (Upd.drew _ _).trans hx
              replace hBl := hBl.ext hx
              replace hp := hp.ext hx
              replace hc := hc.ext hx
              replace hb := hb.ext hx
              replace hPw := hPw.ext hx
              replace hCw := hCw.ext hx
              replace hIw := hIw.ext hx
              replace hB1 := hB1.ext hx
              replace hB2 := hB2.ext hx
              replace hBw := hBw.ext hx
              replace hK := fun (j : Nat) (e : Dk) hj he => (hK j e hj he).ext hx
              replace hPx := hPx.ext hx
              replace hCx := hCx.ext hx
              replace hIx := hIx.ext hx
              have hE := Upd.refl (fun _ => False) W
              refine id (X_move (v := (.int .i64 (((i : Nat) : Int)))) rfl ?_)
              exact ⟨hE, rfl⟩
            refine ⟨.det (fun val => (pof (.slice (some ⟨b24, 0, none⟩) 3 3) ((((i : Nat) : Int) : Int).toNat * 4))), ⟨fun _ _ hv => rfl, fun _ _ _ _ _ => trivial⟩, fun val h_ W hx he => ⟨trivial, ?_⟩, ?_⟩
            · replace hx := (Upd.drew _ _).trans hx
              replace hBl := hBl.ext hx
              replace hp := hp.ext hx
              replace hc := hc.ext hx
              replace hb := hb.ext hx
              replace hPw := hPw.ext hx
              replace hCw := hCw.ext hx
              replace hIw := hIw.ext hx
              replace hB1 := hB1.ext hx
              replace hB2 := hB2.ext hx
              replace hBw := hBw.ext hx
              replace hK := fun (j : Nat) (e : Dk) hj he => (hK j e hj he).ext hx
              replace hPx := hPx.ext hx
              replace hCx := hCx.ext hx
              replace hIx := hIx.ext hx
              have hE := Upd.refl (fun _ => False) W
              refine id (X_idx (v := (.slice (some ⟨b24, 0, none⟩) 3 3)) (n := 3) (k := .i64) (i := ((i : Nat) : Int)) S41 rfl hsvl rfl (by omega) (by omega) ?_)
              exact ⟨hE, rfl⟩
            refine ⟨.det (fun val => (pof (.slice (some ⟨b24, 0, none⟩) 3 3) ((((i : Nat) : Int) : Int).toNat * 4 + 0))), ⟨fun _ _ hv => rfl, fun _ _ _ _ _ => trivial⟩, fun val h_ W hx he => ⟨trivial, ?_⟩, ?_⟩
            · replace hx := (Upd.drew _ _).trans hx
              replace hBl := hBl.ext hx
              replace hp := hp.ext hx
              replace hc := hc.ext hx
              replace hb := hb.ext hx
              replace hPw := hPw.ext hx
              replace hCw := hCw.ext hx
              replace hIw := hIw.ext hx
              replace hB1 := hB1.ext hx
              replace hB2 := hB2.ext hx
              replace hBw := hBw.ext hx
              replace hK := fun (j : Nat) (e : Dk) hj he => (hK j e hj he).ext hx
              replace hPx := hPx.ext hx
              replace hCx := hCx.ext hx
              replace hIx := hIx.ext hx
              have hE := Upd.refl (fun _ => False) W
              refine id (X_fldS (v := (.slice (some ⟨b24, 0, none⟩) 3 3)) (o := (((i : Nat) : Int) : Int).toNat * 4) Fd26_0 rfl hsvl (by omega) ?_)
              exact ⟨hE, rfl⟩
            refine ⟨.det (fun val => d.pv), ⟨fun _ _ hv => rfl, fun _ _ _ _ _ => trivial⟩, fun val h_ W hx he => ⟨trivial, ?_⟩, ?_⟩
            · replace hx := (Upd.drew _ _).trans hx
              replace hBl := hBl.ext hx
              replace hp := hp.ext hx
              replace hc := hc.ext hx
              replace hb := hb.ext hx
              replace hPw := hPw.ext hx
              replace hCw := hCw.ext hx
              replace hIw := hIw.ext hx
              replace hB1 := hB1.ext hx
              replace hB2 := hB2.ext hx
              replace hBw := hBw.ext hx
              replace hK := fun (j : Nat) (e : Dk) hj he => (hK j e hj he).ext hx
              replace hPx := hPx.ext hx
              replace hCx := hCx.ext hx
              replace hIx := hIx.ext hx
              have hE := Upd.refl (fun _ => False) W
              refine id (X_load (v := d.pv) T22 rfl ((hBl.rd (o := 0) (n := 3) (c := 3) (sz := 4) (xs := l3.flatMap LD.cel) (by decide) (by decide) (by rw [flat_len, hl3]; rfl) (fun j u hj => by rw [Nat.zero_add]; simpa using hj)).cell (flat_at (L := LD) (i := i) (j := 0) hdi rfl)) ?_)
              exact ⟨hE, rfl⟩
            refine ⟨.det (fun val => (.int .i64 (m))), ⟨fun _ _ hv => rfl, fun _ _ _ _ _ => trivial⟩, fun val h_ W hx he => ⟨trivial, ?_⟩, ?_⟩
            · replace hx := (Upd.drew _ _).trans hx
              replace hBl := hBl.ext hx
              replace hp := hp.ext hx
              replace hc := hc.ext hx
              replace hb := hb.ext hx
              replace hPw := hPw.ext hx
              replace hCw := hCw.ext hx
              replace hIw := hIw.ext hx
              replace hB1 := hB1.ext hx
              replace hB2 := hB2.ext hx
              replace hBw := hBw.ext hx
              replace hK := fun (j : Nat) (e : Dk) hj he => (hK j e hj he).ext hx
              replace hPx := hPx.ext hx
              replace hCx := hCx.ext hx
              replace hIx := hIx.ext hx
              have hE := Upd.refl (fun _ => False) W
              refine id (X_move (v := (.int .i64 (m))) rfl ?_)
              exact ⟨hE, rfl⟩
            refine ⟨.det (fun val => (pof d.pv ((m : Int).toNat * 256))), ⟨fun _ _ hv => rfl, fun _ _ _ _ _ => trivial⟩, fun val h_ W hx he => ⟨trivial, ?_⟩, ?_⟩
            · replace hx := (Upd.drew _ _).trans hx
              replace hBl := hBl.ext hx
              replace hp := hp.ext hx
              replace hc := hc.ext hx
              replace hb := hb.ext hx
              replace hPw := hPw.ext hx
              replace hCw := hCw.ext hx
              replace hIw := hIw.ext hx
              replace hB1 := hB1.ext hx
              replace hB2 := hB2.ext hx
              replace hBw := hBw.ext hx
              replace hK := fun (j : Nat) (e : Dk) hj he => (hK j e hj he).ext hx
              replace hPx := hPx.ext hx
              replace hCx := hCx.ext hx
              replace hIx := hIx.ext hx
              have hE := Upd.refl (fun _ => False) W
              refine id (X_idx (v := d.pv) (n := d.ps.length) (k := .i64) (i := m) S22 rfl hsv_pv rfl (by omega) (by omega) ?_)
              exact ⟨hE, rfl⟩
            refine ⟨.det (fun val => (pof d.pv ((m : Int).toNat * 256 + 0))), ⟨fun _ _ hv => rfl, fun _ _ _ _ _ => trivial⟩, fun val h_ W hx he => ⟨trivial, ?_⟩, ?_⟩
            · replace hx := (Upd.drew _ _).trans hx
              replace hBl := hBl.ext hx
              replace hp := hp.ext hx
              replace hc := hc.ext hx
              replace hb := hb.ext hx
              replace hPw := hPw.ext hx
              replace hCw := hCw.ext hx
              replace hIw := hIw.ext hx
              replace hB1 := hB1.ext hx
              replace hB2 := hB2.ext hx
              replace hBw := hBw.ext hx
              replace hK := fun (j : Nat) (e : Dk) hj he => (hK j e hj he).ext hx
              replace hPx := hPx.ext hx
              replace hCx := hCx.ext hx
              replace hIx := hIx.ext hx
              have hE := Upd.refl (fun _ => False) W
              refine id (X_idxAS (len := 256) (sz := 1) (v := d.pv) (o := (m : Int).toNat * 256) (k := .i64) (i := 0) (r := (m : Int).toNat * 256 + 0) Try.underlying28 Z5 rfl hsv_pv (by omega) rfl (by omega) (by omega) rfl ?_)
              exact ⟨hE, rfl⟩
            refine ⟨.det (fun val => (.int .u8 (((bx.toNat : Nat) : Int)))), ⟨fun _ _ hv => rfl, fun _ _ _ _ _ => trivial⟩, fun val h_ W hx he => ⟨trivial, ?_⟩, ?_⟩
            · replace hx := (Upd.drew _ _).trans hx
              replace hBl := hBl.ext hx
              replace hp := hp.ext hx
              replace hc := hc.ext hx
              replace hb := hb.ext hx
              replace hPw := hPw.ext hx
              replace hCw := hCw.ext hx
              replace hIw := hIw.ext hx
              replace hB1 := hB1.ext hx
              replace hB2 := hB2.ext hx
              replace hBw := hBw.ext hx
              replace hK := fun (j : Nat) (e : Dk) hj he => (hK j e hj he).ext hx
              replace hPx := hPx.ext hx
              replace hCx := hCx.ext hx
              replace hIx := hIx.ext hx
              have hE := Upd.refl (fun _ => False) W
              refine id (X_load (v := .int .u8 ((bx.toNat : Nat) : Int)) T5 rfl (hPx.1.rd.cell (by rw [show (m : Int).toNat * 256 + 0 = m.toNat * LP.sz + 0 from rfl]; exact flat_at (L := LP) hpg (by show (pg.1.map byteV)[0]? = _; rw [List.getElem?_map, hbx]; rfl))) ?_)
              exact ⟨hE, rfl⟩
            refine ⟨.det (fun val => (.int .u8 (((bz.toNat : Nat) : Int)))), ⟨fun _ _ hv => rfl, fun _ _ _ _ _ => trivial⟩, fun val h_ W hx he => ⟨trivial, ?_⟩, ?_⟩
            · replace hx := (Upd.drew _ _).trans hx
              replace hBl := hBl.ext hx
              replace hp := hp.ext hx
              replace hc := hc.ext hx
              replace hb := hb.ext hx
              replace hPw := hPw.ext hx
              replace hCw := hCw.ext hx
              replace hIw := hIw.ext hx
              replace hB1 := hB1.ext hx
              replace hB2 := hB2.ext hx
              replace hBw := hBw.ext hx
              replace hK := fun (j : Nat) (e : Dk) hj he => (hK j e hj he).ext hx
              replace hPx := hPx.ext hx
              replace hCx := hCx.ext hx
              replace hIx := hIx.ext hx
              have hE := Upd.refl (fun _ => False) W
              refine id (X_arith (k := .u8) (a := ((bx.toNat : Nat) : Int)) (b := 255) (r := ((bz.toNat : Nat) : Int)) rfl rfl rfl hbz ?_)
              exact ⟨hE, rfl⟩
            refine ⟨.det (fun val => (pof d.pv ((m : Int).toNat * 256))), ⟨fun _ _ hv => rfl, fun _ _ _ _ _ => trivial⟩, fun val h_ W hx he => ⟨trivial, ?_⟩, ?_⟩
            · replace hx := (Upd.drew _ _).trans hx
              replace hBl := hBl.ext hx
              replace hp := hp.ext hx
              replace hc := hc.ext hx
              replace hb := hb.ext hx
              replace hPw := hPw.ext hx
              replace hCw := hCw.ext hx
              replace hIw := hIw.ext hx
              replace hB1 := hB1.ext hx
              replace hB2 := hB2.ext hx
              replace hBw := hBw.ext hx
              replace hK := fun (j : Nat) (e : Dk) hj he => (hK j e hj he).ext hx
              replace hPx := hPx.ext hx
              replace hCx := hCx.ext hx
              replace hIx := hIx.ext hx
              have hE := Upd.refl (fun _ => False) W
              refine id (X_idx (v := d.pv) (n := d.ps.length) (k := .i64) (i := m) S22 rfl hsv_pv rfl (by omega) (by omega) ?_)
              exact ⟨hE, rfl⟩
            intro val W28 hx28 he28
            replace hx28 := (Upd.drew _ _).trans hx28
            have hz28 := hx28.size
            replace hBl := hBl.ext hx28
            replace hp := hp.ext hx28
            replace hc := hc.ext hx28
            replace hb := hb.ext hx28
            replace hPw := hPw.ext hx28
            replace hCw := hCw.ext hx28
            replace hIw := hIw.ext hx28
            replace hU := hU.trans (Ext.upd hx28)
            replace hB1 := hB1.ext hx28
            replace hB2 := hB2.ext hx28
            replace hBw := hBw.ext hx28
            replace hK := fun (j : Nat) (e : Dk) hj he => (hK j e hj he).ext hx28
            replace hPx := hPx.ext hx28
            replace hCx := hCx.ext hx28
            replace hIx := hIx.ext hx28
            refine L_op rfl (X_idxAS (len := 256) (sz := 1) (v := d.pv) (o := (m : Int).toNat * 256) (k := .i64) (i := 0) (r := (m : Int).toNat * 256 + 0) Try.underlying28 Z5 rfl hsv_pv (by omega) rfl (by omega) (by omega) rfl ?_)
            refine L_op0 (X_storeOwnC (i := (m : Int).toNat * 256 + 0) (v := d.pv) (u := .int .u8 ((bz.toNat : Nat) : Int)) T5 hPx.1 (by show _ < d.ps.length * 256; omega) rfl rfl rfl ?_)
            intro w5 hO5 hu5
            have hz5 := hu5.size
            replace hCx := NOwn.upd' (fun _ => rfl) hCx hu5 fun b h1 h2 => absurd (hCx.1.types hPx.1 h1 h2) (by decide)
            replace hIx := NOwn.upd' (fun _ => rfl) hIx hu5 fun b h1 h2 => absurd (hIx.1.types hPx.1 h1 h2) (by decide)
            replace hK := fun (j : Nat) (x : Dk) (hj : i + 1 ≤ j) (hx_ : l3[j]? = some x) => (hK j x hj hx_).upd hu5 fun b h1 h2 h => by have h3 := hPx.1.lt h; have h4 := hPx.2.1 _ h; have h5 := hlu i j (by omega) (by have := (List.getElem?_eq_some_iff.1 hx_).1; omega); omega
            replace hBl := hBl.upd hu5 fun h => by have h1_ := hPx.1.lt h; have h2_ := hPx.2.1 _ h; omega
            replace hp := hp.upd hu5 fun i h1 h2 h => by have h1_ := hPx.1.lt h; have h2_ := hPx.2.1 _ h; omega
            replace hc := hc.upd hu5 fun i h1 h2 h => by have h1_ := hPx.1.lt h; have h2_ := hPx.2.1 _ h; omega
            replace hb := hb.upd hu5 fun i h1 h2 h => by have h1_ := hPx.1.lt h; have h2_ := hPx.2.1 _ h; omega
            replace hPw := hPw.upd hu5 fun i h1 h2 h => by have h1_ := hPx.1.lt h; have h2_ := hPx.2.1 _ h; omega
            replace hCw := hCw.upd hu5 fun i h1 h2 h => by have h1_ := hPx.1.lt h; have h2_ := hPx.2.1 _ h; omega
            replace hIw := hIw.upd hu5 fun i h1 h2 h => by have h1_ := hPx.1.lt h; have h2_ := hPx.2.1 _ h; omega
            replace hU := hU.trans (hu5.mono fun i _ h => by have h1_ := hPx.1.lt h; have h2_ := hPx.2.1 _ h; show n0 ≤ i; omega)
            replace hB1 := hB1.upd hu5 fun h => by have h1_ := hPx.1.lt h; have h2_ := hPx.2.1 _ h; omega
            replace hB2 := hB2.upd hu5 fun h => by have h1_ := hPx.1.lt h; have h2_ := hPx.2.1 _ h; omega
            replace hBw := hBw.upd hu5 fun h => by have h1_ := hPx.1.lt h; have h2_ := hPx.2.1 _ h; omega
            refine L_nil ?_
            refine T_n ?_
            refine W_seq ?_
            refine W_seq ?_
            refine W_reg ?_
            refine L_op rfl (X_assign (v := (.int .i64 (0))) rfl ?_)
            refine L_nil ?_
            refine T_n ?_
            refine W_block ?_
            refine W_loop (α := Nat × List Wr) [15, 89, 90, 91, 92, 93, 94, 95, 96, 97, 98, 99, 100, 101, 102, 103, 104, 105, 106, 107, 108, 109, 110, 111, 112, 113, 114, 115, 116, 117, 118, 119, 120, 121, 122, 123, 124, 125, 126] (fun ⟨j, xs⟩ => [(15, (.int .i64 (((j : Nat) : Int))))]) (fun ⟨j, xs⟩ w_ => j ≤ d.cs.length ∧ xs.length = d.cs.length ∧ Blk w_ b24 (l3.flatMap LD.cel).toArray 26 ∧ NRd LP w_ 0 n0 pv ps ∧ NRd LW w_ 0 n0 cv cs ∧ NRd LI w_ 0 n0 bv bs ∧ NOwn LP w_ 28 5 s_w u_w p_w ps ∧ NOwn LW w_ 43 5 s_w u_w c_w cs ∧ NOwn LI w_ 3 5 s_w u_w i_w bs ∧ Upd (fun i => n0 ≤ i) w w_ ∧ Blk w_ b1 #[pv, cv, bv, .bool off] 26 ∧ Blk w_ b2 (p.1.map byteV).toArray 28 ∧ Blk w_ b13 #[p_w, c_w, i_w, .bool off] 26 ∧ NOwn LW w_ 43 5 (lo i) (up i) d.cv xs ∧ NOwn LI w_ 3 5 (lo i) (up i) d.bv d.bs ∧ (∀ (j : Nat) (d : Dk), i + 1 ≤ j → l3[j]? = some d → ODk w_ (lo j) (up j) d)) (fun ⟨j, xs⟩ => d.cs.length - j) ⟨rfl, (0, d.cs), ⟨Nat.zero_le _, rfl, hBl, hp, hc, hb, hPw, hCw, hIw, hU, hB1, hB2, hBw, hCx, hIx, hK⟩, Out.refl _ _, ⟨rfl, trivial⟩⟩ ?_
            rintro ⟨j, xs⟩ w29 _ ⟨hjl, hxl, hBl, hp, hc, hb, hPw, hCw, hIw, hU, hB1, hB2, hBw, hCx, hIx, hK⟩
            have hsz_ := hU.size
            refine W_seq ?_
            refine W_seq ?_
            refine W_reg ?_
            refine L_op rfl (X_move (v := (.int .i64 (((j : Nat) : Int)))) rfl ?_)
            refine L_op rfl (X_move (v := (.slice (some ⟨b24, 0, none⟩) 3 3)) rfl ?_)
            refine L_op rfl (X_move (v := (.int .i64 (((i : Nat) : Int)))) rfl ?_)
            refine L_op rfl (X_idx (v := (.slice (some ⟨b24, 0, none⟩) 3 3)) (n := 3) (k := .i64) (i := ((i : Nat) : Int)) S41 rfl hsvl rfl (by omega) (by omega) ?_)
            refine L_op rfl (X_fldS (v := (.slice (some ⟨b24, 0, none⟩) 3 3)) (o := (((i : Nat) : Int) : Int).toNat * 4) Fd26_1 rfl hsvl (by omega) ?_)
            refine L_op rfl (X_load (v := d.cv) T23 rfl ((hBl.rd (o := 0) (n := 3) (c := 3) (sz := 4) (xs := l3.flatMap LD.cel) (by decide) (by decide) (by rw [flat_len, hl3]; rfl) (fun j u hj => by rw [Nat.zero_add]; simpa using hj)).cell (flat_at (L := LD) (i := i) (j := 1) hdi rfl)) ?_)
            refine L_op rfl (X_len (v := d.cv) (n := d.cs.length) Try.underlying23 rfl hsv_cv ?_)
            by_cases hc30 : (((j : Nat) : Int) : Int) < (((d.cs.length : Nat) : Int))
            · refine L_op rfl (X_cmp (k := .i64) (a := ((j : Nat) : Int)) (b := ((d.cs.length : Nat) : Int)) (r := true) rfl rfl rfl (decide_eq_true (p := ((((j : Nat) : Int)) : Int) < ((((d.cs.length : Nat) : Int)) : Int)) (by omega)) ?_)
              have hj : j < d.cs.length := by omega
              obtain ⟨x0, hx0⟩ : ∃ e, xs[j]? = some e := ⟨_, List.getElem?_eq_getElem (by omega)⟩
              refine L_nil ?_
              refine T_n ?_
              refine W_ct rfl ?_
              refine W_skip ?_
              refine T_n ?_
              refine W_seq ?_
              refine W_block ?_
              refine W_seq ?_
              refine W_reg ?_
              refine L_op rfl (X_move (v := (.slice (some ⟨b24, 0, none⟩) 3 3)) rfl ?_)
              refine L_op rfl (X_move (v := (.int .i64 (((i : Nat) : Int)))) rfl ?_)
              refine L_op rfl (X_idx (v := (.slice (some ⟨b24, 0, none⟩) 3 3)) (n := 3) (k := .i64) (i := ((i : Nat) : Int)) S41 rfl hsvl rfl (by omega) (by omega) ?_)
              refine L_op rfl (X_fldS (v := (.slice (some ⟨b24, 0, none⟩) 3 3)) (o := (((i : Nat) : Int) : Int).toNat * 4) Fd26_1 rfl hsvl (by omega) ?_)
              refine L_op rfl (X_load (v := d.cv) T23 rfl ((hBl.rd (o := 0) (n := 3) (c := 3) (sz := 4) (xs := l3.flatMap LD.cel) (by decide) (by decide) (by rw [flat_len, hl3]; rfl) (fun j u hj => by rw [Nat.zero_add]; simpa using hj)).cell (flat_at (L := LD) (i := i) (j := 1) hdi rfl)) ?_)
              refine L_op rfl (X_move (v := (.int .i64 (((j : Nat) : Int)))) rfl ?_)
              refine L_op rfl (X_idx (v := d.cv) (n := d.cs.length) (k := .i64) (i := ((j : Nat) : Int)) S23 rfl hsv_cv rfl (by omega) (by omega) ?_)
              refine L_op rfl (X_fldS (v := d.cv) (o := (((j : Nat) : Int) : Int).toNat * 257) Fd43_0 rfl hsv_cv (by omega) ?_)
              refine L_op0 (X_storeOwnC (i := (((j : Nat) : Int) : Int).toNat * 257 + 0) (v := d.cv) (u := .int .i64 0) T3 hCx.1 (by show _ < xs.length * 257; omega) rfl rfl rfl ?_)
              intro w5 hO5 hu5
              have hz5 := hu5.size
              replace hIx := NOwn.upd' (fun _ => rfl) hIx hu5 fun b h1 h2 => absurd (hIx.1.types hCx.1 h1 h2) (by decide)
              replace hK := fun (j : Nat) (x : Dk) (hj : i + 1 ≤ j) (hx_ : l3[j]? = some x) => (hK j x hj hx_).upd hu5 fun b h1 h2 h => by have h3 := hCx.1.lt h; have h4 := hCx.2.1 _ h; have h5 := hlu i j (by omega) (by have := (List.getElem?_eq_some_iff.1 hx_).1; omega); omega
              replace hBl := hBl.upd hu5 fun h => by have h1_ := hCx.1.lt h; have h2_ := hCx.2.1 _ h; omega
              replace hp := hp.upd hu5 fun i h1 h2 h => by have h1_ := hCx.1.lt h; have h2_ := hCx.2.1 _ h; omega
              replace hc := hc.upd hu5 fun i h1 h2 h => by have h1_ := hCx.1.lt h; have h2_ := hCx.2.1 _ h; omega
              replace hb := hb.upd hu5 fun i h1 h2 h => by have h1_ := hCx.1.lt h; have h2_ := hCx.2.1 _ h; omega
              replace hPw := hPw.upd hu5 fun i h1 h2 h => by have h1_ := hCx.1.lt h; have h2_ := hCx.2.1 _ h; omega
              replace hCw := hCw.upd hu5 fun i h1 h2 h => by have h1_ := hCx.1.lt h; have h2_ := hCx.2.1 _ h; omega
              replace hIw := hIw.upd hu5 fun i h1 h2 h => by have h1_ := hCx.1.lt h; have h2_ := hCx.2.1 _ h; omega
              replace hU := hU.trans (hu5.mono fun i _ h => by have h1_ := hCx.1.lt h; have h2_ := hCx.2.1 _ h; show n0 ≤ i; omega)
              replace hB1 := hB1.upd hu5 fun h => by have h1_ := hCx.1.lt h; have h2_ := hCx.2.1 _ h; omega
              replace hB2 := hB2.upd hu5 fun h => by have h1_ := hCx.1.lt h; have h2_ := hCx.2.1 _ h; omega
              replace hBw := hBw.upd hu5 fun h => by have h1_ := hCx.1.lt h; have h2_ := hCx.2.1 _ h; omega
              obtain ⟨x1, hx1⟩ := wrSetAt hx0 0
              rw [show (((j : Nat) : Int) : Int).toNat * 257 + 0 = j * 257 + 0 by omega, hx1] at hO5
              replace hCx : NOwn LW w5 43 5 (lo i) (up i) d.cv (xs.set j x1) := NOwn.of (fun _ => rfl) (hO5.eq (by rw [List.length_set]) rfl) hCx.2.1
              have hx1e : (xs.set j x1)[j]? = some x1 := List.getElem?_set_self (by omega)
              obtain ⟨cx, hcx⟩ : ∃ u, x1.2.1[3]? = some u := ⟨_, List.getElem?_eq_getElem (by rw [x1.2.2]; decide)⟩
              obtain ⟨cz, hcz⟩ : ∃ u : UInt8, iop .xor .u8 ((cx.toNat : Nat) : Int) 255 = ((u.toNat : Nat) : Int) := u8_any _
              refine L_nil ?_
              refine T_n ?_
              refine W_draw 19 [[], [], [0, 1], [0, 1, 2], [0, 1, 2, 3], [], [], [], [6, 7], [6, 7, 8], [6, 7, 8, 9], [], [6, 7, 8, 9, 10, 11], [6, 7, 8, 9, 10, 11, 12], [6, 7, 8, 9, 10, 11, 12, 13], [6, 7, 8, 9, 10, 11, 12, 13, 14], [6, 7, 8, 9, 10, 11, 12, 13, 14, 15], [0, 1, 2, 3, 4, 5], [0, 1, 2, 3, 4, 5, 17], [0, 1, 2, 3, 4, 5, 6, 7, 8, 9, 10, 11, 12, 13, 14, 15, 16, 17, 18], [0, 1, 2, 3, 4, 5, 6, 7, 8, 9, 10, 11, 12, 13, 14, 15, 16, 17, 18, 19]] mixed (by kernel_rfl) ?_
              refine ⟨.det (fun val => (.slice (some ⟨b24, 0, none⟩) 3 3)), ⟨fun _ _ hv => rfl, fun _ _ _ _ _ => trivial⟩, fun val h_ W hx he => ⟨trivial, ?_⟩, ?_⟩
              · replace hx := (Upd.drew _ _).trans hx
                replace hBl := hBl.ext hx
                replace hp := hp.ext hx
                replace hc := hc.ext hx
                replace hb := hb.ext hx
                replace hPw := hPw.ext hx
                replace hCw := hCw.ext hx
                replace hIw := hIw.ext hx
                replace hB1 := hB1.ext hx
                replace hB2 := hB2.ext hx
                replace hBw := hBw.ext hx
                replace hK := fun (j : Nat) (e : Dk) hj he => (hK j e hj he).ext hx
                replace hCx := hCx.ext hx
                replace hIx := hIx.ext hx
                have hE := Upd.refl (fun _ => False) W
                refine id (X_move (v := (.slice (some ⟨b24, 0, none⟩) 3 3)) rfl ?_)
                exact ⟨hE, rfl⟩
              refine ⟨.det (fun val => (.int .i64 (((i : Nat) : Int)))), ⟨fun _ _ hv => rfl, fun _ _ _ _ _ => trivial⟩, fun val h_ W hx he => ⟨trivial, ?_⟩, ?_⟩
              · replace hx := (Upd.drew _ _).trans hx
                replace hBl := hBl.ext hx
                replace hp := hp.ext hx
                replace hc := hc.ext hx
                replace hb := hb.ext hx
                replace hPw := hPw.ext hx
                replace hCw := hCw.ext hx
                replace hIw := hIw.ext hx
                replace hB1 := hB1.ext hx
                replace hB2 := hB2.ext hx
                replace hBw := hBw.ext hx
                replace hK := fun (j : Nat) (e : Dk) hj he => (hK j e hj he).ext hx
                replace hCx := hCx.ext hx
                replace hIx := hIx.ext hx
                have hE := Upd.refl (fun _ => False) W
                refine id (X_move (v := (.int .i64 (((i : Nat) : Int)))) rfl ?_)
                exact ⟨hE, rfl⟩
              refine ⟨.det (fun val => (pof (.slice (some ⟨b24, 0, none⟩) 3 3) ((((i : Nat) : Int) : Int).toNat * 4))), ⟨fun _ _ hv => rfl, fun _ _ _ _ _ => trivial⟩, fun val h_ W hx he => ⟨trivial, ?_⟩, ?_⟩
              · replace hx := (Upd.drew _ _).trans hx
                replace hBl := hBl.ext hx
                replace hp := hp.ext hx
                replace hc := hc.ext hx
                replace hb := hb.ext hx
                replace hPw := hPw.ext hx
                replace hCw := hCw.ext hx
                replace hIw := hIw.ext hx
                replace hB1 := hB1.ext hx
                replace hB2 := hB2.ext hx
                replace hBw := hBw.ext hx
                replace hK := fun (j : Nat) (e : Dk) hj he => (hK j e hj he).ext hx
                replace hCx := hCx.ext hx
                replace hIx := hIx.ext hx
                have hE := Upd.refl (fun _ => False) W
                refine id (X_idx (v := (.slice (some ⟨b24, 0, none⟩) 3 3)) (n := 3) (k := .i64) (i := ((i : Nat) : Int)) S41 rfl hsvl rfl (by omega) (by omega) ?_)
                exact ⟨hE, rfl⟩
              refine ⟨.det (fun val => (pof (.slice (some ⟨b24, 0, none⟩) 3 3) ((((i : Nat) : Int) : Int).toNat * 4 + 1))), ⟨fun _ _ hv => rfl, fun _ _ _ _ _ => trivial⟩, fun val h_ W hx he => ⟨trivial, ?_⟩, ?_⟩
              · replace hx := (Upd.drew _ _).trans hx
                replace hBl := hBl.ext hx
                replace hp := hp.ext hx
                replace hc := hc.ext hx
                replace hb := hb.ext hx
                replace hPw := hPw.ext hx
                replace hCw := hCw.ext hx
                replace hIw := hIw.ext hx
                replace hB1 := hB1.ext hx
                replace hB2 := hB2.ext hx
                replace hBw := hBw.ext hx
                replace hK := fun (j : Nat) (e : Dk) hj he => (hK j e hj he).ext hx
                replace hCx := hCx.ext hx
                replace hIx := hIx.ext hx
                have hE := Upd.refl (fun _ => False) W
                refine id (X_fldS (v := (.slice (some ⟨b24, 0, none⟩) 3 3)) (o := (((i : Nat) : Int) : Int).toNat * 4) Fd26_1 rfl hsvl (by omega) ?_)
                exact ⟨hE, rfl⟩
              refine ⟨.det (fun val => d.cv), ⟨fun _ _ hv => rfl, fun _ _ _ _ _ => trivial⟩, fun val h_ W hx he => ⟨trivial, ?_⟩, ?_⟩
              · replace hx := (Upd.drew _ _).trans hx
                replace hBl := hBl.ext hx
                replace hp := hp.ext hx
                replace hc := hc.ext hx
                replace hb := hb.ext hx
                replace hPw := hPw.ext hx
                replace hCw := hCw.ext hx
                replace hIw := hIw.ext hx
                replace hB1 := hB1.ext hx
                replace hB2 := hB2.ext hx
                replace hBw := hBw.ext hx
                replace hK := fun (j : Nat) (e : Dk) hj he => (hK j e hj he).ext hx
                replace hCx := hCx.ext hx
                replace hIx := hIx.ext hx
                have hE := Upd.refl (fun _ => False) W
                refine id (X_load (v := d.cv) T23 rfl ((hBl.rd (o := 0) (n := 3) (c := 3) (sz := 4) (xs := l3.flatMap LD.cel) (by decide) (by decide) (by rw [flat_len, hl3]; rfl) (fun j u hj => by rw [Nat.zero_add]; simpa using hj)).cell (flat_at (L := LD) (i := i) (j := 1) hdi rfl)) ?_)
                exact ⟨hE, rfl⟩
              refine ⟨.det (fun val => (.int .i64 (((j : Nat) : Int)))), ⟨fun _ _ hv => rfl, fun _ _ _ _ _ => trivial⟩, fun val h_ W hx he => ⟨trivial, ?_⟩, ?_⟩
              · replace hx := (Upd.drew _ _).trans hx
                replace hBl := hBl.ext hx
                replace hp := hp.ext hx
                replace hc := hc.ext hx
                replace hb := hb.ext hx
                replace hPw := hPw.ext hx
                replace hCw := hCw.ext hx
                replace hIw := hIw.ext hx
                replace hB1 := hB1.ext hx
                replace hB2 := hB2.ext hx
                replace hBw := hBw.ext hx
                replace hK := fun (j : Nat) (e : Dk) hj he => (hK j e hj he).ext hx
                replace hCx := hCx.ext hx
                replace hIx := hIx.ext hx
                have hE := Upd.refl (fun _ => False) W
                refine id (X_move (v := (.int .i64 (((j : Nat) : Int)))) rfl ?_)
                exact ⟨hE, rfl⟩
              refine ⟨.det (fun val => (.slice (some ⟨b24, 0, none⟩) 3 3)), ⟨fun _ _ hv => rfl, fun _ _ _ _ _ => trivial⟩, fun val h_ W hx he => ⟨trivial, ?_⟩, ?_⟩
              · replace hx := (Upd.drew _ _).trans hx
                replace hBl := hBl.ext hx
                replace hp := hp.ext hx
                replace hc := hc.ext hx
                replace hb := hb.ext hx
                replace hPw := hPw.ext hx
                replace hCw := hCw.ext hx
                replace hIw := hIw.ext hx
                replace hB1 := hB1.ext hx
                replace hB2 := hB2.ext hx
                replace hBw := hBw.ext hx
                replace hK := fun (j : Nat) (e : Dk) hj he => (hK j e hj he).ext hx
                replace hCx := hCx.ext hx
                replace hIx := hIx.ext hx
                have hE := Upd.refl (fun _ => False) W
                refine id (X_move (v := (.slice (some ⟨b24, 0, none⟩) 3 3)) rfl ?_)
                exact ⟨hE, rfl⟩
              refine ⟨.det (fun val => (.int .i64 (((i : Nat) : Int)))), ⟨fun _ _ hv => rfl, fun _ _ _ _ _ => trivial⟩, fun val h_ W hx he => ⟨trivial, ?_⟩, ?_⟩
              · replace hx := (Upd.drew _ _).trans hx
                replace hBl := hBl.ext hx
                replace hp := hp.ext hx
                replace hc := hc.ext hx
                replace hb := hb.ext hx
                replace hPw := hPw.ext hx
                replace hCw := hCw.ext hx
                replace hIw := hIw.ext hx
                replace hB1 := hB1.ext hx
                replace hB2 := hB2.ext hx
                replace hBw := hBw.ext hx
                replace hK := fun (j : Nat) (e : Dk) hj he => (hK j e hj he).ext hx
                replace hCx := hCx.ext hx
                replace hIx := hIx.ext hx
                have hE := Upd.refl (fun _ => False) W
                refine id (X_move (v := (.int .i64 (((i : Nat) : Int)))) rfl ?_)
                exact ⟨hE, rfl⟩
              refine ⟨.det (fun val => (pof (.slice (some ⟨b24, 0, none⟩) 3 3) ((((i : Nat) : Int) : Int).toNat * 4))), ⟨fun _ _ hv => rfl, fun _ _ _ _ _ => trivial⟩, fun val h_ W hx he => ⟨trivial, ?_⟩, ?_⟩
              · replace hx := (Upd.drew _ _).trans hx
                replace hBl := hBl.ext hx
                replace hp := hp.ext hx
                replace hc := hc.ext hx
                replace hb := hb.ext hx
                replace hPw := hPw.ext hx
                replace hCw := hCw.ext hx
                replace hIw := hIw.ext hx
                replace hB1 := hB1.ext hx
                replace hB2 := hB2.ext hx
                replace hBw := hBw.ext hx
                replace hK := fun (j : Nat) (e : Dk) hj he => (hK j e hj he).ext hx
                replace hCx := hCx.ext hx
                replace hIx := hIx.ext hx
                have hE := Upd.refl (fun _ => False) W
                refine id (X_idx (v := (.slice (some ⟨b24, 0, none⟩) 3 3)) (n := 3) (k := .i64) (i := ((i : Nat) : Int)) S41 rfl hsvl rfl (by omega) (by omega) ?_)
                exact ⟨hE, rfl⟩
              refine ⟨.det (fun val => (pof (.slice (some ⟨b24, 0, none⟩) 3 3) ((((i : Nat) : Int) : Int).toNat * 4 + 1))), ⟨fun _ _ hv => rfl, fun _ _ _ _ _ => trivial⟩, fun val h_ W hx he => ⟨trivial, ?_⟩, ?_⟩
              · replace hx := (Upd.drew _ _).trans hx
                replace hBl := hBl.ext hx
                replace hp := hp.ext hx
                replace hc := hc.ext hx
                replace hb := hb.ext hx
                replace hPw := hPw.ext hx
                replace hCw := hCw.ext hx
                replace hIw := hIw.ext hx
                replace hB1 := hB1.ext hx
                replace hB2 := hB2.ext hx
                replace hBw := hBw.ext hx
                replace hK := fun (j : Nat) (e : Dk) hj he => (hK j e hj he).ext hx
                replace hCx := hCx.ext hx
                replace hIx := hIx.ext hx
                have hE := Upd.refl (fun _ => False) W
                refine id (X_fldS (v := (.slice (some ⟨b24, 0, none⟩) 3 3)) (o := (((i : Nat) : Int) : Int).toNat * 4) Fd26_1 rfl hsvl (by omega) ?_)
                exact ⟨hE, rfl⟩
              refine ⟨.det (fun val => d.cv), ⟨fun _ _ hv => rfl, fun _ _ _ _ _ => trivial⟩, fun val h_ W hx he => ⟨trivial, ?_⟩, ?_⟩
              · replace hx := (Upd.drew _ _).trans hx
                replace hBl := hBl.ext hx
                replace hp := hp.ext hx
                replace hc := hc.ext hx
                replace hb := hb.ext hx
                replace hPw := hPw.ext hx
                replace hCw := hCw.ext hx
                replace hIw := hIw.ext hx
                replace hB1 := hB1.ext hx
                replace hB2 := hB2.ext hx
                replace hBw := hBw.ext hx
                replace hK := fun (j : Nat) (e : Dk) hj he => (hK j e hj he).ext hx
                replace hCx := hCx.ext hx
                replace hIx := hIx.ext hx
                have hE := Upd.refl (fun _ => False) W
                refine id (X_load (v := d.cv) T23 rfl ((hBl.rd (o := 0) (n := 3) (c := 3) (sz := 4) (xs := l3.flatMap LD.cel) (by decide) (by decide) (by rw [flat_len, hl3]; rfl) (fun j u hj => by rw [Nat.zero_add]; simpa using hj)).cell (flat_at (L := LD) (i := i) (j := 1) hdi rfl)) ?_)
                exact ⟨hE, rfl⟩
              refine ⟨.det (fun val => (.int .i64 (((j : Nat) : Int)))), ⟨fun _ _ hv => rfl, fun _ _ _ _ _ => trivial⟩, fun val h_ W hx he => ⟨trivial, ?_⟩, ?_⟩
              · replace hx := (Upd.drew _ _).trans hx
                replace hBl := hBl.ext hx
                replace hp := hp.ext hx
                replace hc := hc.ext hx
                replace hb := hb.ext hx
                replace hPw := hPw.ext hx
                replace hCw := hCw.ext hx
                replace hIw := hIw.ext hx
                replace hB1 := hB1.ext hx
                replace hB2 := hB2.ext hx
                replace hBw := hBw.ext hx
                replace hK := fun (j : Nat) (e : Dk) hj he => (hK j e hj he).ext hx
                replace hCx := hCx.ext hx
                replace hIx := hIx.ext hx
                have hE := Upd.refl (fun _ => False) W
                refine id (X_move (v := (.int .i64 (((j : Nat) : Int)))) rfl ?_)
                exact ⟨hE, rfl⟩
              refine ⟨.det (fun val => (pof d.cv ((((j : Nat) : Int) : Int).toNat * 257))), ⟨fun _ _ hv => rfl, fun _ _ _ _ _ => trivial⟩, fun val h_ W hx he => ⟨trivial, ?_⟩, ?_⟩
              · replace hx := (Upd.drew _ _).trans hx
                replace hBl := hBl.ext hx
                replace hp := hp.ext hx
                replace hc := hc.ext hx
                replace hb := hb.ext hx
                replace hPw := hPw.ext hx
                replace hCw := hCw.ext hx
                replace hIw := hIw.ext hx
                replace hB1 := hB1.ext hx
                replace hB2 := hB2.ext hx
                replace hBw := hBw.ext hx
                replace hK := fun (j : Nat) (e : Dk) hj he => (hK j e hj he).ext hx
                replace hCx := hCx.ext hx
                replace hIx := hIx.ext hx
                have hE := Upd.refl (fun _ => False) W
                refine id (X_idx (v := d.cv) (n := d.cs.length) (k := .i64) (i := ((j : Nat) : Int)) S23 rfl hsv_cv rfl (by omega) (by omega) ?_)
                exact ⟨hE, rfl⟩
              refine ⟨.det (fun val => (pof d.cv ((((j : Nat) : Int) : Int).toNat * 257 + 1))), ⟨fun _ _ hv => rfl, fun _ _ _ _ _ => trivial⟩, fun val h_ W hx he => ⟨trivial, ?_⟩, ?_⟩
              · replace hx := (Upd.drew _ _).trans hx
                replace hBl := hBl.ext hx
                replace hp := hp.ext hx
                replace hc := hc.ext hx
                replace hb := hb.ext hx
                replace hPw := hPw.ext hx
                replace hCw := hCw.ext hx
                replace hIw := hIw.ext hx
                replace hB1 := hB1.ext hx
                replace hB2 := hB2.ext hx
                replace hBw := hBw.ext hx
                replace hK := fun (j : Nat) (e : Dk) hj he => (hK j e hj he).ext hx
                replace hCx := hCx.ext hx
                replace hIx := hIx.ext hx
                have hE := Upd.refl (fun _ => False) W
                refine id (X_fldS (v := d.cv) (o := (((j : Nat) : Int) : Int).toNat * 257) Fd43_1 rfl hsv_cv (by omega) ?_)
                exact ⟨hE, rfl⟩
              refine ⟨.det (fun val => (pof d.cv ((((j : Nat) : Int) : Int).toNat * 257 + 1 + 3))), ⟨fun _ _ hv => rfl, fun _ _ _ _ _ => trivial⟩, fun val h_ W hx he => ⟨trivial, ?_⟩, ?_⟩
              · replace hx := (Upd.drew _ _).trans hx
                replace hBl := hBl.ext hx
                replace hp := hp.ext hx
                replace hc := hc.ext hx
                replace hb := hb.ext hx
                replace hPw := hPw.ext hx
                replace hCw := hCw.ext hx
                replace hIw := hIw.ext hx
                replace hB1 := hB1.ext hx
                replace hB2 := hB2.ext hx
                replace hBw := hBw.ext hx
                replace hK := fun (j : Nat) (e : Dk) hj he => (hK j e hj he).ext hx
                replace hCx := hCx.ext hx
                replace hIx := hIx.ext hx
                have hE := Upd.refl (fun _ => False) W
                refine id (X_idxAS (len := 256) (sz := 1) (v := d.cv) (o := (((j : Nat) : Int) : Int).toNat * 257 + 1) (k := .i64) (i := 3) (r := (((j : Nat) : Int) : Int).toNat * 257 + 1 + 3) Try.underlying28 Z5 rfl hsv_cv (by omega) rfl (by omega) (by omega) rfl ?_)
                exact ⟨hE, rfl⟩
              refine ⟨.det (fun val => (.int .u8 (((cx.toNat : Nat) : Int)))), ⟨fun _ _ hv => rfl, fun _ _ _ _ _ => trivial⟩, fun val h_ W hx he => ⟨trivial, ?_⟩, ?_⟩
              · replace hx := (Upd.drew _ _).trans hx
                replace hBl := hBl.ext hx
                replace hp := hp.ext hx
                replace hc := hc.ext hx
                replace hb := hb.ext hx
                replace hPw := hPw.ext hx
                replace hCw := hCw.ext hx
                replace hIw := hIw.ext hx
                replace hB1 := hB1.ext hx
                replace hB2 := hB2.ext hx
                replace hBw := hBw.ext hx
                replace hK := fun (j : Nat) (e : Dk) hj he => (hK j e hj he).ext hx
                replace hCx := hCx.ext hx
                replace hIx := hIx.ext hx
                have hE := Upd.refl (fun _ => False) W
                refine id (X_load (v := .int .u8 ((cx.toNat : Nat) : Int)) T5 rfl (hCx.1.rd.cell (by rw [show (((j : Nat) : Int) : Int).toNat * 257 + 1 + 3 = j * LW.sz + 4 by (show _ = j * 257 + 4; omega)]; exact flat_at (L := LW) hx1e (by show (x1.2.1.map byteV)[3]? = _; rw [List.getElem?_map, hcx]; rfl))) ?_)
                exact ⟨hE, rfl⟩
              refine ⟨.det (fun val => (.int .u8 (((cz.toNat : Nat) : Int)))), ⟨fun _ _ hv => rfl, fun _ _ _ _ _ => trivial⟩, fun val h_ W hx he => ⟨trivial, ?_⟩, ?_⟩
              · replace hx := (Upd.drew _ _).trans hx
                replace hBl := hBl.ext hx
                replace hp := hp.ext hx
                replace hc := hc.ext hx
                replace hb := hb.ext hx
                replace hPw := hPw.ext hx
                replace hCw := hCw.ext hx
                replace hIw := hIw.ext hx
                replace hB1 := hB1.ext hx
                replace hB2 := hB2.ext hx
                replace hBw := hBw.ext hx
                replace hK := fun (j : Nat) (e : Dk) hj he => (hK j e hj he).ext hx
                replace hCx := hCx.ext hx
                replace hIx := hIx.ext hx
                have hE := Upd.refl (fun _ => False) W
                refine id (X_arith (k := .u8) (a := ((cx.toNat : Nat) : Int)) (b := 255) (r := ((cz.toNat : Nat) : Int)) rfl rfl rfl hcz ?_)
                exact ⟨hE, rfl⟩
              refine ⟨.det (fun val => (pof d.cv ((((j : Nat) : Int) : Int).toNat * 257))), ⟨fun _ _ hv => rfl, fun _ _ _ _ _ => trivial⟩, fun val h_ W hx he => ⟨trivial, ?_⟩, ?_⟩
              · replace hx := (Upd.drew _ _).trans hx
                replace hBl := hBl.ext hx
                replace hp := hp.ext hx
                replace hc := hc.ext hx
                replace hb := hb.ext hx
                replace hPw := hPw.ext hx
                replace hCw := hCw.ext hx
                replace hIw := hIw.ext hx
                replace hB1 := hB1.ext hx
                replace hB2 := hB2.ext hx
                replace hBw := hBw.ext hx
                replace hK := fun (j : Nat) (e : Dk) hj he => (hK j e hj he).ext hx
                replace hCx := hCx.ext hx
                replace hIx := hIx.ext hx
                have hE := Upd.refl (fun _ => False) W
                refine id (X_idx (v := d.cv) (n := d.cs.length) (k := .i64) (i := ((j : Nat) : Int)) S23 rfl hsv_cv rfl (by omega) (by omega) ?_)
                exact ⟨hE, rfl⟩
              refine ⟨.det (fun val => (pof d.cv ((((j : Nat) : Int) : Int).toNat * 257 + 1))), ⟨fun _ _ hv => rfl, fun _ _ _ _ _ => trivial⟩, fun val h_ W hx he => ⟨trivial, ?_⟩, ?_⟩
              · replace hx := (Upd.drew _ _).trans hx
                replace hBl := hBl.ext hx
                replace hp := hp.ext hx
                replace hc := hc.ext hx
                replace hb := hb.ext hx
                replace hPw := hPw.ext hx
                replace hCw := hCw.ext hx
                replace hIw := hIw.ext hx
                replace hB1 := hB1.ext hx
                replace hB2 := hB2.ext hx
                replace hBw := hBw.ext hx
                replace hK := fun (j : Nat) (e : Dk) hj he => (hK j e hj he).ext hx
                replace hCx := hCx.ext hx
                replace hIx := hIx.ext hx
                have hE := Upd.refl (fun _ => False) W
                refine id (X_fldS (v := d.cv) (o := (((j : Nat) : Int) : Int).toNat * 257) Fd43_1 rfl hsv_cv (by omega) ?_)
                exact ⟨hE, rfl⟩
              intro val W31 hx31 he31
              replace hx31 := (Upd.drew _ _).trans hx31
              have hz31 := hx31.size
              replace hBl := hBl.ext hx31
              replace hp := hp.ext hx31
              replace hc := hc.ext hx31
              replace hb := hb.ext hx31
              replace hPw := hPw.ext hx31
              replace hCw := hCw.ext hx31
              replace hIw := hIw.ext hx31
              replace hU := hU.trans (Ext.upd hx31)
              replace hB1 := hB1.ext hx31
              replace hB2 := hB2.ext hx31
              replace hBw := hBw.ext hx31
              replace hK := fun (j : Nat) (e : Dk) hj he => (hK j e hj he).ext hx31
              replace hCx := hCx.ext hx31
              replace hIx := hIx.ext hx31
              refine L_op rfl (X_idxAS (len := 256) (sz := 1) (v := d.cv) (o := (((j : Nat) : Int) : Int).toNat * 257 + 1) (k := .i64) (i := 3) (r := (((j : Nat) : Int) : Int).toNat * 257 + 1 + 3) Try.underlying28 Z5 rfl hsv_cv (by omega) rfl (by omega) (by omega) rfl ?_)
              refine L_op0 (X_storeOwnC (i := (((j : Nat) : Int) : Int).toNat * 257 + 1 + 3) (v := d.cv) (u := .int .u8 ((cz.toNat : Nat) : Int)) T5 hCx.1 (by show _ < (xs.set j x1).length * 257; rw [List.length_set]; omega) rfl rfl rfl ?_)
              intro w6 hO6 hu6
              have hz6 := hu6.size
              replace hIx := NOwn.upd' (fun _ => rfl) hIx hu6 fun b h1 h2 => absurd (hIx.1.types hCx.1 h1 h2) (by decide)
              replace hK := fun (j : Nat) (x : Dk) (hj : i + 1 ≤ j) (hx_ : l3[j]? = some x) => (hK j x hj hx_).upd hu6 fun b h1 h2 h => by have h3 := hCx.1.lt h; have h4 := hCx.2.1 _ h; have h5 := hlu i j (by omega) (by have := (List.getElem?_eq_some_iff.1 hx_).1; omega); omega
              replace hBl := hBl.upd hu6 fun h => by have h1_ := hCx.1.lt h; have h2_ := hCx.2.1 _ h; omega
              replace hp := hp.upd hu6 fun i h1 h2 h => by have h1_ := hCx.1.lt h; have h2_ := hCx.2.1 _ h; omega
              replace hc := hc.upd hu6 fun i h1 h2 h => by have h1_ := hCx.1.lt h; have h2_ := hCx.2.1 _ h; omega
              replace hb := hb.upd hu6 fun i h1 h2 h => by have h1_ := hCx.1.lt h; have h2_ := hCx.2.1 _ h; omega
              replace hPw := hPw.upd hu6 fun i h1 h2 h => by have h1_ := hCx.1.lt h; have h2_ := hCx.2.1 _ h; omega
              replace hCw := hCw.upd hu6 fun i h1 h2 h => by have h1_ := hCx.1.lt h; have h2_ := hCx.2.1 _ h; omega
              replace hIw := hIw.upd hu6 fun i h1 h2 h => by have h1_ := hCx.1.lt h; have h2_ := hCx.2.1 _ h; omega
              replace hU := hU.trans (hu6.mono fun i _ h => by have h1_ := hCx.1.lt h; have h2_ := hCx.2.1 _ h; show n0 ≤ i; omega)
              replace hB1 := hB1.upd hu6 fun h => by have h1_ := hCx.1.lt h; have h2_ := hCx.2.1 _ h; omega
              replace hB2 := hB2.upd hu6 fun h => by have h1_ := hCx.1.lt h; have h2_ := hCx.2.1 _ h; omega
              replace hBw := hBw.upd hu6 fun h => by have h1_ := hCx.1.lt h; have h2_ := hCx.2.1 _ h; omega
              obtain ⟨x2, hx2⟩ := wrSetData hx1e (k := 3) (by decide) cz
              rw [show (((j : Nat) : Int) : Int).toNat * 257 + 1 + 3 = j * 257 + (3 + 1) by omega, show Value.int .u8 ((cz.toNat : Nat) : Int) = byteV cz from rfl, hx2] at hO6
              replace hCx : NOwn LW w6 43 5 (lo i) (up i) d.cv ((xs.set j x1).set j x2) := NOwn.of (fun _ => rfl) (hO6.eq (by rw [List.length_set, List.length_set, List.length_set]) rfl) hCx.2.1
              refine L_nil ?_
              refine B_n ?_
              refine T_n ?_
              refine W_reg ?_
              refine L_op rfl (X_move (v := (.int .i64 (((j : Nat) : Int)))) rfl ?_)
              refine L_op rfl (X_arith (k := .i64) (a := ((j : Nat) : Int)) (b := 1) (r := ((j + 1 : Nat) : Int)) rfl rfl rfl (iadd64 (by omega) (by omega) (by omega)) ?_)
              refine L_op rfl (X_assign (v := (.int .i64 (((j + 1 : Nat) : Int)))) rfl ?_)
              refine L_nil ?_
              refine T_n ?_
              exact ⟨rfl, (j + 1, (xs.set j x1).set j x2), ⟨⟨hj, by rw [List.length_set, List.length_set]; exact hxl, hBl, hp, hc, hb, hPw, hCw, hIw, hU, hB1, hB2, hBw, hCx, hIx, hK⟩, (by show d.cs.length - (j + 1) < d.cs.length - j; omega)⟩, (Out.mk rfl), ⟨rfl, trivial⟩⟩
            · refine L_op rfl (X_cmp (k := .i64) (a := ((j : Nat) : Int)) (b := ((d.cs.length : Nat) : Int)) (r := false) rfl rfl rfl (decide_eq_false (p := ((((j : Nat) : Int)) : Int) < ((((d.cs.length : Nat) : Int)) : Int)) (by omega)) ?_)
              refine L_nil ?_
              refine T_n ?_
              refine W_cf rfl ?_
              refine W_exit ?_
              refine T_e ?_
              refine T_e ?_
              refine B_x ?_
              refine T_n ?_
              refine W_seq ?_
              refine W_reg ?_
              refine L_op rfl (X_assign (v := (.int .i64 (0))) rfl ?_)
              refine L_nil ?_
              refine T_n ?_
              refine W_block ?_
              refine W_loop (α := Nat × List Int) [16, 127, 128, 129, 130, 131, 132, 133, 134, 135, 136, 137, 138, 139, 140, 141, 142, 143] (fun ⟨j, xs⟩ => [(16, (.int .i64 (((j : Nat) : Int))))]) (fun ⟨j, xs⟩ w_ => j ≤ d.bs.length ∧ xs.length = d.bs.length ∧ Blk w_ b24 (l3.flatMap LD.cel).toArray 26 ∧ NRd LP w_ 0 n0 pv ps ∧ NRd LW w_ 0 n0 cv cs ∧ NRd LI w_ 0 n0 bv bs ∧ NOwn LP w_ 28 5 s_w u_w p_w ps ∧ NOwn LW w_ 43 5 s_w u_w c_w cs ∧ NOwn LI w_ 3 5 s_w u_w i_w bs ∧ Upd (fun i => n0 ≤ i) w w_ ∧ Blk w_ b1 #[pv, cv, bv, .bool off] 26 ∧ Blk w_ b2 (p.1.map byteV).toArray 28 ∧ Blk w_ b13 #[p_w, c_w, i_w, .bool off] 26 ∧ NOwn LI w_ 3 5 (lo i) (up i) d.bv xs ∧ (∀ (j : Nat) (d : Dk), i + 1 ≤ j → l3[j]? = some d → ODk w_ (lo j) (up j) d)) (fun ⟨j, xs⟩ => d.bs.length - j) ⟨rfl, (0, d.bs), ⟨Nat.zero_le _, rfl, hBl, hp, hc, hb, hPw, hCw, hIw, hU, hB1, hB2, hBw, hIx, hK⟩, Out.refl _ _, ⟨rfl, trivial⟩⟩ ?_
              rintro ⟨j, xs⟩ w32 _ ⟨hjl, hxl, hBl, hp, hc, hb, hPw, hCw, hIw, hU, hB1, hB2, hBw, hIx, hK⟩
              have hsz_ := hU.size
              refine W_seq ?_
              refine W_seq ?_
              refine W_reg ?_
              refine L_op rfl (X_move (v := (.int .i64 (((j : Nat) : Int)))) rfl ?_)
              refine L_op rfl (X_move (v := (.slice (some ⟨b24, 0, none⟩) 3 3)) rfl ?_)
              refine L_op rfl (X_move (v := (.int .i64 (((i : Nat) : Int)))) rfl ?_)
              refine L_op rfl (X_idx (v := (.slice (some ⟨b24, 0, none⟩) 3 3)) (n := 3) (k := .i64) (i := ((i : Nat) : Int)) S41 rfl hsvl rfl (by omega) (by omega) ?_)
              refine L_op rfl (X_fldS (v := (.slice (some ⟨b24, 0, none⟩) 3 3)) (o := (((i : Nat) : Int) : Int).toNat * 4) Fd26_2 rfl hsvl (by omega) ?_)
              refine L_op rfl (X_load (v := d.bv) T24 rfl ((hBl.rd (o := 0) (n := 3) (c := 3) (sz := 4) (xs := l3.flatMap LD.cel) (by decide) (by decide) (by rw [flat_len, hl3]; rfl) (fun j u hj => by rw [Nat.zero_add]; simpa using hj)).cell (flat_at (L := LD) (i := i) (j := 2) hdi rfl)) ?_)
              refine L_op rfl (X_len (v := d.bv) (n := d.bs.length) Try.underlying24 rfl hsv_bv ?_)
              by_cases hc33 : (((j : Nat) : Int) : Int) < (((d.bs.length : Nat) : Int))
              · refine L_op rfl (X_cmp (k := .i64) (a := ((j : Nat) : Int)) (b := ((d.bs.length : Nat) : Int)) (r := true) rfl rfl rfl (decide_eq_true (p := ((((j : Nat) : Int)) : Int) < ((((d.bs.length : Nat) : Int)) : Int)) (by omega)) ?_)
                have hj : j < d.bs.length := by omega
                refine L_nil ?_
                refine T_n ?_
                refine W_ct rfl ?_
                refine W_skip ?_
                refine T_n ?_
                refine W_seq ?_
                refine W_block ?_
                refine W_reg ?_
                refine L_op rfl (X_move (v := (.slice (some ⟨b24, 0, none⟩) 3 3)) rfl ?_)
                refine L_op rfl (X_move (v := (.int .i64 (((i : Nat) : Int)))) rfl ?_)
                refine L_op rfl (X_idx (v := (.slice (some ⟨b24, 0, none⟩) 3 3)) (n := 3) (k := .i64) (i := ((i : Nat) : Int)) S41 rfl hsvl rfl (by omega) (by omega) ?_)
                refine L_op rfl (X_fldS (v := (.slice (some ⟨b24, 0, none⟩) 3 3)) (o := (((i : Nat) : Int) : Int).toNat * 4) Fd26_2 rfl hsvl (by omega) ?_)
                refine L_op rfl (X_load (v := d.bv) T24 rfl ((hBl.rd (o := 0) (n := 3) (c := 3) (sz := 4) (xs := l3.flatMap LD.cel) (by decide) (by decide) (by rw [flat_len, hl3]; rfl) (fun j u hj => by rw [Nat.zero_add]; simpa using hj)).cell (flat_at (L := LD) (i := i) (j := 2) hdi rfl)) ?_)
                refine L_op rfl (X_move (v := (.int .i64 (((j : Nat) : Int)))) rfl ?_)
                refine L_op rfl (X_idx (v := d.bv) (n := d.bs.length) (k := .i64) (i := ((j : Nat) : Int)) S24 rfl hsv_bv rfl (by omega) (by omega) ?_)
                refine L_op0 (X_storeOwnC (i := (((j : Nat) : Int) : Int).toNat * 1) (v := d.bv) (u := .int .i64 (-1)) T3 hIx.1 (by show _ < xs.length * 1; omega) rfl rfl rfl ?_)
                intro w5 hO5 hu5
                have hz5 := hu5.size
                replace hK := fun (j : Nat) (x : Dk) (hj : i + 1 ≤ j) (hx_ : l3[j]? = some x) => (hK j x hj hx_).upd hu5 fun b h1 h2 h => by have h3 := hIx.1.lt h; have h4 := hIx.2.1 _ h; have h5 := hlu i j (by omega) (by have := (List.getElem?_eq_some_iff.1 hx_).1; omega); omega
                replace hBl := hBl.upd hu5 fun h => by have h1_ := hIx.1.lt h; have h2_ := hIx.2.1 _ h; omega
                replace hp := hp.upd hu5 fun i h1 h2 h => by have h1_ := hIx.1.lt h; have h2_ := hIx.2.1 _ h; omega
                replace hc := hc.upd hu5 fun i h1 h2 h => by have h1_ := hIx.1.lt h; have h2_ := hIx.2.1 _ h; omega
                replace hb := hb.upd hu5 fun i h1 h2 h => by have h1_ := hIx.1.lt h; have h2_ := hIx.2.1 _ h; omega
                replace hPw := hPw.upd hu5 fun i h1 h2 h => by have h1_ := hIx.1.lt h; have h2_ := hIx.2.1 _ h; omega
                replace hCw := hCw.upd hu5 fun i h1 h2 h => by have h1_ := hIx.1.lt h; have h2_ := hIx.2.1 _ h; omega
                replace hIw := hIw.upd hu5 fun i h1 h2 h => by have h1_ := hIx.1.lt h; have h2_ := hIx.2.1 _ h; omega
                replace hU := hU.trans (hu5.mono fun i _ h => by have h1_ := hIx.1.lt h; have h2_ := hIx.2.1 _ h; show n0 ≤ i; omega)
                replace hB1 := hB1.upd hu5 fun h => by have h1_ := hIx.1.lt h; have h2_ := hIx.2.1 _ h; omega
                replace hB2 := hB2.upd hu5 fun h => by have h1_ := hIx.1.lt h; have h2_ := hIx.2.1 _ h; omega
                replace hBw := hBw.upd hu5 fun h => by have h1_ := hIx.1.lt h; have h2_ := hIx.2.1 _ h; omega
                rw [show (((j : Nat) : Int) : Int).toNat * 1 = j by omega, liSet'] at hO5
                replace hIx : NOwn LI w5 3 5 (lo i) (up i) d.bv (xs.set j (-1)) := NOwn.of (fun _ => rfl) (hO5.eq (by rw [List.length_set]) rfl) hIx.2.1
                refine L_nil ?_
                refine B_n ?_
                refine T_n ?_
                refine W_reg ?_
                refine L_op rfl (X_move (v := (.int .i64 (((j : Nat) : Int)))) rfl ?_)
                refine L_op rfl (X_arith (k := .i64) (a := ((j : Nat) : Int)) (b := 1) (r := ((j + 1 : Nat) : Int)) rfl rfl rfl (iadd64 (by omega) (by omega) (by omega)) ?_)
                refine L_op rfl (X_assign (v := (.int .i64 (((j + 1 : Nat) : Int)))) rfl ?_)
                refine L_nil ?_
                refine T_n ?_
                exact ⟨rfl, (j + 1, xs.set j (-1)), ⟨⟨hj, by rw [List.length_set]; exact hxl, hBl, hp, hc, hb, hPw, hCw, hIw, hU, hB1, hB2, hBw, hIx, hK⟩, (by show d.bs.length - (j + 1) < d.bs.length - j; omega)⟩, (Out.mk rfl), ⟨rfl, trivial⟩⟩
              · refine L_op rfl (X_cmp (k := .i64) (a := ((j : Nat) : Int)) (b := ((d.bs.length : Nat) : Int)) (r := false) rfl rfl rfl (decide_eq_false (p := ((((j : Nat) : Int)) : Int) < ((((d.bs.length : Nat) : Int)) : Int)) (by omega)) ?_)
                refine L_nil ?_
                refine T_n ?_
                refine W_cf rfl ?_
                refine W_exit ?_
                refine T_e ?_
                refine T_e ?_
                refine B_x ?_
                refine B_n ?_
                refine T_n ?_
                refine W_reg ?_
                refine L_op rfl (X_move (v := (.int .i64 (((i : Nat) : Int)))) rfl ?_)
                refine L_op rfl (X_arith (k := .i64) (a := ((i : Nat) : Int)) (b := 1) (r := ((i + 1 : Nat) : Int)) rfl rfl rfl (iadd64 (by omega) (by omega) (by omega)) ?_)
                refine L_op rfl (X_assign (v := (.int .i64 (((i + 1 : Nat) : Int)))) rfl ?_)
                refine L_nil ?_
                refine T_n ?_
                exact ⟨rfl, i + 1, ⟨⟨hi, hBl, hp, hc, hb, hPw, hCw, hIw, hU, hB1, hB2, hBw, hK⟩, (by show 3 - (i + 1) < 3 - i; omega)⟩, (Out.in_ rfl rfl (Out.in_ rfl rfl (Out.mk rfl))), ⟨rfl, trivial⟩⟩
          · refine L_op rfl (X_cmp (k := .i64) (a := ((i : Nat) : Int)) (b := 3) (r := false) rfl rfl rfl (decide_eq_false (p := ((((i : Nat) : Int)) : Int) < ((3) : Int)) (by omega)) ?_)
            refine L_nil ?_
            refine T_n ?_
            refine W_cf rfl ?_
            refine W_exit ?_
            refine T_e ?_
            refine T_e ?_
            refine B_x ?_
            refine T_n ?_
            refine W_seq ?_
            refine W_reg ?_
            refine L_op rfl (X_loadA (p := (ptr b1 (0))) (xs := [pv, cv, bv, (.bool (off))]) A26 rfl hB1.atAll rfl ?_)
            refine L_op rfl (X_loadA (p := (ptr b13 (0))) (xs := [p_w, c_w, i_w, (.bool (off))]) A26 rfl hBw.atAll rfl ?_)
            refine L_op rfl (X_fn (vs := [(.agg ([pv, cv, bv, (.bool (off))]).toArray), (.agg ([p_w, c_w, i_w, (.bool (off))]).toArray)]) en18 rfl (CT.mono (c_same pv cv bv ps cs bs off p_w c_w i_w ps cs bs off _ 0 n0 s_w u_w hp hc hb hPw.rd hCw.rd hIw.rd) ?_))
            rintro _ w34 ⟨⟨g34, rfl, hg34⟩, hu34⟩
            have hz34 := hu34.size
            replace hBl := hBl.ext hu34
            replace hp := hp.ext hu34
            replace hc := hc.ext hu34
            replace hb := hb.ext hu34
            replace hPw := hPw.ext hu34
            replace hCw := hCw.ext hu34
            replace hIw := hIw.ext hu34
            replace hU := hU.trans (Ext.upd hu34)
            replace hB1 := hB1.ext hu34
            replace hB2 := hB2.ext hu34
            replace hBw := hBw.ext hu34
            replace hK := fun (j : Nat) (e : Dk) hj he => (hK j e hj he).ext hu34
            obtain rfl : g34 = true := hg34.2 ⟨rfl, rfl, rfl, rfl⟩
            refine L_op rfl (X_move (v := (.bool (true))) rfl ?_)
            refine L_gy (dj := 147) rfl rfl rfl (X_fn (vs := []) en10 rfl (CT.mono (c_wakes _) ?_))
            rintro vb35 w35 ⟨hvb35, hu35⟩
            have hz35 := hu35.size
            replace hBl := hBl.ext hu35
            replace hp := hp.ext hu35
            replace hc := hc.ext hu35
            replace hb := hb.ext hu35
            replace hPw := hPw.ext hu35
            replace hCw := hCw.ext hu35
            replace hIw := hIw.ext hu35
            replace hU := hU.trans (Ext.upd hu35)
            replace hB1 := hB1.ext hu35
            replace hB2 := hB2.ext hu35
            replace hBw := hBw.ext hu35
            replace hK := fun (j : Nat) (e : Dk) hj he => (hK j e hj he).ext hu35
            subst hvb35
            refine L_op rfl (X_pick (t := true) (v := (.bool (true))) rfl rfl ?_)
            refine L_op rfl (X_assign (v := (.bool (true))) rfl ?_)
            refine L_nil ?_
            refine T_n ?_
            refine W_ret ?_
            exact BQ_r (End_1 Try.results4 (v := .bool true) rfl ⟨rfl, hU.own hn0⟩)
    · rw [hc7]
      refine L_gy (dj := 20) rfl rfl rfl (X_not (b := false) (r := true) rfl rfl ?_)
      refine L_op rfl (X_pick (t := false) (v := (.bool (true))) rfl rfl ?_)
      refine L_op rfl (X_move (v := (.bool (true))) rfl ?_)
      refine L_gn (dj := 25) (t := true) rfl rfl rfl rfl ?_
      refine L_gn (dj := 25) (t := true) rfl rfl rfl rfl ?_
      refine L_op rfl (X_pick (t := true) (v := (.bool (true))) rfl rfl ?_)
      refine L_op rfl (X_move (v := (.bool (true))) rfl ?_)
      refine L_gn (dj := 29) (t := true) rfl rfl rfl rfl ?_
      refine L_gn (dj := 29) (t := true) rfl rfl rfl rfl ?_
      refine L_gn (dj := 29) (t := true) rfl rfl rfl rfl ?_
      refine L_gn (dj := 29) (t := true) rfl rfl rfl rfl ?_
      refine L_gn (dj := 29) (t := true) rfl rfl rfl rfl ?_
      refine L_op rfl (X_pick (t := true) (v := (.bool (true))) rfl rfl ?_)
      refine L_nil ?_
      refine T_n ?_
      refine W_ct rfl ?_
      refine W_seq ?_
      refine W_reg ?_
      refine L_op rfl (X_fn (vs := []) en10 rfl (CT.mono (c_wakes _) ?_))
      rintro vb36 w36 ⟨hvb36, hu36⟩
      have hz36 := hu36.size
      replace hp := hp.ext hu36
      replace hc := hc.ext hu36
      replace hb := hb.ext hu36
      replace hU := hU.trans (Ext.upd hu36)
      replace hB1 := hB1.ext hu36
      replace hB2 := hB2.ext hu36
      subst hvb36
      refine L_op rfl (X_assign (v := (.bool (true))) rfl ?_)
      refine L_nil ?_
      refine T_n ?_
      refine W_ret ?_
      refine T_r ?_
      exact BQ_r (End_1 Try.results4 (v := .bool true) rfl ⟨rfl, hU.own hn0⟩)
end Go.Proofs.Ythongcaijgfojaa
