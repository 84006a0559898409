/-
  More contracts of chapter 03: Waits. (Printed by wip/gen/t03n.py of this repo.)
-/
import Derived.Test.YthongcaijgfojaaDiskM
namespace Go.Proofs.Ythongcaijgfojaa
open Go Go.SL Go.Proofs
set_option linter.unusedVariables false

theorem liFst (l : List Int) : l.flatMap LI.cel = l.map intV := by rw [liF]; rfl
theorem sort_len (zs : List Int) : (sortI zs).length = zs.length := List.length_mergeSort ..
theorem sort_nil {zs : List Int} (h : zs.length = 0) : sortI zs = [] := List.eq_nil_of_length_eq_zero ((sort_len zs).trans h)
theorem compI_nil : compI [] = [] := rfl

theorem c_waits (pv cv bv : Value) (ps : List Pg) (cs : List Wr) (bs : List Int) (off : Bool) (w : World) (lo up : Nat) (hup : up ≤ w.heap.size) (hp : NRd LP w lo up pv ps) (hc : NRd LW w lo up cv cs) (hb : NRd LI w lo up bv bs) (hcL : cs.length ≤ 1048576) : CT Try.prog 14 #[(.agg #[pv, cv, bv, (.bool (off))])] w fun v w' => ∃ ds, NOwn LI w' 3 5 w.heap.size w'.heap.size v ds ∧ ds = waitsW cs ∧ Ext w w' := by
  obtain ⟨n0, hn0⟩ : ∃ n, n = w.heap.size := ⟨_, rfl⟩
  have hU : Upd (fun i => n0 ≤ i) w w := Upd.refl _ _
  have hpl := hp.sv.len
  have hcl := hc.sv.len
  have hbl := hb.sv.len
  rw [← hn0] at hup
  refine CT_of Try.func14 rfl rfl rfl ?_
  refine W_seq ?_
  refine W_reg ?_
  refine L_op rfl (X_box (v := (.agg #[pv, cv, bv, (.bool (off))])) (c := ([pv, cv, bv, (.bool (off))]).toArray) rfl rfl ?_)
  intro b1 w1 hn1
  have hbn1 := hn1.num; have hbs1 := hn1.size
  replace hp := hp.ext hn1.ext
  replace hc := hc.ext hn1.ext
  replace hb := hb.ext hn1.ext
  replace hU := hU.trans (Ext.upd hn1.ext)
  have hB1 := hn1.blk
  refine L_op rfl (X_assign (v := (.slice none 0 0)) rfl ?_)
  refine L_nil ?_
  refine T_n ?_
  refine W_seq ?_
  refine W_seq ?_
  refine W_reg ?_
  refine L_op rfl (X_fldP (b := b1) (o := 0) (r := 1) Fd26_1 rfl rfl ?_)
  refine L_op rfl (X_load (p := (ptr b1 (1))) (v := cv) T23 rfl (hB1.at1 rfl) ?_)
  refine L_op rfl (X_len (v := cv) (n := cs.length) Try.underlying23 rfl hc.sv ?_)
  refine L_op rfl (X_move (v := (.int .i64 (0))) rfl ?_)
  refine L_nil ?_
  refine T_n ?_
  refine W_block ?_
  refine W_loop (α := Nat × Value) [2, 4, 8, 9, 10, 11, 12, 13, 14, 15, 16, 17] (fun ⟨i, u⟩ => [(8, (.int .i64 (((i : Nat) : Int)))), (2, u)]) (fun ⟨i, u⟩ w_ => i ≤ cs.length ∧ Own w_ n0 3 1 u i ((fstW (cs.take i)).map intV) ∧ NRd LW w_ lo up cv cs ∧ Upd (fun i => n0 ≤ i) w w_) (fun ⟨i, u⟩ => cs.length - i) ⟨rfl, (0, .slice none 0 0), ⟨Nat.zero_le _, Own.nil _ _ _ _, hc, hU⟩, Out.refl _ _, ⟨rfl, rfl, trivial⟩⟩ ?_
  rintro ⟨i, u⟩ w2 _ ⟨hil, hO, hc, hU⟩
  have hO_b : ∀ b, obk u = some b → b < w2.heap.size := fun b hb => (hO.lt hb).2
  have hsz_ := hU.size
  refine W_seq ?_
  refine W_reg ?_
  by_cases hc3 : (((i : Nat) : Int) : Int) < (((cs.length : Nat) : Int))
  · refine L_op rfl (X_cmp (k := .i64) (a := ((i : Nat) : Int)) (b := ((cs.length : Nat) : Int)) (r := true) rfl rfl rfl (decide_eq_true (p := ((((i : Nat) : Int)) : Int) < ((((cs.length : Nat) : Int)) : Int)) (by omega)) ?_)
    have hi : i < cs.length := by omega
    obtain ⟨e, hei⟩ : ∃ e, cs[i]? = some e := ⟨_, List.getElem?_eq_getElem hi⟩
    refine L_nil ?_
    refine T_n ?_
    refine W_seq ?_
    refine W_ct rfl ?_
    refine W_skip ?_
    refine T_n ?_
    refine W_seq ?_
    refine W_block ?_
    refine W_seq ?_
    refine W_reg ?_
    refine L_op rfl (X_idx (v := cv) (n := cs.length) (k := .i64) (i := ((i : Nat) : Int)) S23 rfl hc.sv rfl (by omega) (by omega) ?_)
    refine L_op rfl (X_loadA (xs := LW.cel e) A43 rfl (wall hc (Int.toNat_natCast _) hei) (LW.len e) ?_)
    refine L_op rfl (X_alloc (z := zv43) (c := zc43.toArray) Zv43 rfl ?_)
    intro b4 w4 hn4
    have hbn4 := hn4.num; have hbs4 := hn4.size
    replace hc := hc.ext hn4.ext
    replace hU := hU.trans (Ext.upd hn4.ext)
    replace hO := hO.ext hn4.ext
    have hB4 := hn4.blk
    refine L_op0 (X_storeW (b := b4) (ys := LW.cel e) A43 rfl rfl (LW.one e (fun _ h => by cases h)) (LW.len e) hB4 zc43_size ?_)
    intro w5 hu5 hb5
    have hz5 := hu5.size
    replace hc := hc.upd hu5 fun i h1 h2 h => by have h : i = b4 := h; omega
    replace hU := hU.trans (hu5.mono fun i _ h => by have h : i = b4 := h; show n0 ≤ i; omega)
    replace hO := hO.upd hu5 fun i hi h => by have hi := hO_b _ hi; have h : i = b4 := h; omega
    replace hB4 := hb5
    refine L_nil ?_
    refine T_n ?_
    refine W_reg ?_
    refine L_op rfl (X_move (v := u) rfl ?_)
    refine L_op rfl (X_fldP (b := b4) (o := 0) (r := 0) Fd43_0 rfl rfl ?_)
    refine L_op rfl (X_load (p := (ptr b4 (0))) (v := .int .i64 e.1) T3 rfl (hB4.at1 rfl) ?_)
    refine L_op rfl (X_buildSlice1 (vs := [(.int .i64 (e.1))]) S24 (by decide) rfl rfl (List.forall_mem_cons.2 ⟨rfl, (fun _ h => by cases h)⟩) ?_)
    intro b6 w6 hn6
    have hbn6 := hn6.num; have hbs6 := hn6.size
    replace hc := hc.ext hn6.ext
    replace hU := hU.trans (Ext.upd hn6.ext)
    replace hO := hO.ext hn6.ext
    replace hB4 := hB4.ext hn6.ext
    have hB6 := hn6.blk
    have hlu := hO.rd.sv.len; have hn0w : n0 ≤ w6.heap.size := by omega
    refine L_op rfl (X_append (B := n0) (n := i) (m := 1) (ys := [intV e.1]) (s := u) (x := (.slice (some ⟨b6, 0, none⟩) 1 1)) S24 ⟨_, Try.underlying24⟩ rfl rfl hO (hB6.rd (o := 0) (by decide) (by decide) rfl (fun j u hj => by rw [Nat.zero_add]; simpa [intV] using hj)) (fun u hu => by simp at hu; subst hu; rfl) (by unfold maxLen; omega) (by omega) hn0w ?_)
    intro v5 w5 hO5 hu5 ho5
    have hz5 := hu5.size
    replace hO5 := hO5.eq (n' := i + 1) (xs' := (fstW (cs.take (i + 1))).map intV) rfl (by rw [fstW_step hei, List.map_append]; rfl)
    replace hc := hc.upd hu5 fun i h1 h2 h => by have h := hO.lt h; omega
    replace hU := hU.trans (hu5.mono fun i _ h => by have h := hO.lt h; show n0 ≤ i; omega)
    have hO5_b : ∀ b, obk v5 = some b → b < w5.heap.size := fun b hb => (hO5.lt hb).2
    refine L_op rfl (X_assign (v := v5) rfl ?_)
    refine L_nil ?_
    refine B_n ?_
    refine T_n ?_
    refine W_reg ?_
    refine L_op rfl (X_arith (k := .i64) (a := ((i : Nat) : Int)) (b := 1) (r := ((i + 1 : Nat) : Int)) rfl rfl rfl (iadd64 (by omega) (by omega) (by omega)) ?_)
    refine L_op rfl (X_move (v := (.int .i64 (((i + 1 : Nat) : Int)))) rfl ?_)
    refine L_nil ?_
    refine T_n ?_
    exact ⟨rfl, (i + 1, v5), ⟨⟨hi, hO5, hc, hU⟩, (by show cs.length - (i + 1) < cs.length - i; omega)⟩, (Out.mk rfl), ⟨rfl, rfl, trivial⟩⟩
  · refine L_op rfl (X_cmp (k := .i64) (a := ((i : Nat) : Int)) (b := ((cs.length : Nat) : Int)) (r := false) rfl rfl rfl (decide_eq_false (p := ((((i : Nat) : Int)) : Int) < ((((cs.length : Nat) : Int)) : Int)) (by omega)) ?_)
    refine L_nil ?_
    refine T_n ?_
    refine W_seq ?_
    refine W_cf rfl ?_
    refine W_exit ?_
    refine T_e ?_
    refine T_e ?_
    refine B_x ?_
    refine T_n ?_
    refine W_seq ?_
    refine W_reg ?_
    refine L_op rfl (X_move (v := u) rfl ?_)
    have hfl : (fstW (cs.take i)).length = i := by unfold fstW; rw [List.length_map, List.length_take]; omega
    obtain rfl : i = cs.length := by omega
    rw [List.take_length] at hO hfl
    by_cases hc0 : cs.length = 0
    · refine L_op rfl (X_fn (vs := [u]) en33 rfl (CT.mono (c_sort0 u _ (hc0 ▸ hO.sv)) ?_))
      rintro _ _ ⟨rfl, rfl⟩
      have hO9 : Own w2 n0 3 1 u cs.length ((sortI (fstW cs)).map intV) := by rw [sort_nil (hfl.trans hc0)]; exact hO.eq rfl (by rw [List.eq_nil_of_length_eq_zero (hfl.trans hc0)])
      have hO9_b : ∀ b, obk u = some b → b < w2.heap.size := fun b hb => (hO9.lt hb).2
      refine L_nil ?_
      refine T_n ?_
      refine W_seq ?_
      refine W_reg ?_
      refine L_op rfl (X_move (v := u) rfl ?_)
      obtain ⟨up9, hup9⟩ : ∃ n, n = w2.heap.size := ⟨_, rfl⟩
      have hsl := sort_len (fstW cs)
      have hN9 : NOwn LI w2 3 5 n0 up9 u (sortI (fstW cs)) := NOwn.of (fun _ => rfl) (hO9.eq (by omega) (liFst _).symm) (fun b hb => by have := (hO9.lt hb).2; omega)
      refine L_op rfl (X_fn (vs := [u]) en34 rfl (CT.mono (c_compact u (sortI (fstW cs)) _ n0 up9 hN9) ?_))
      rintro v10 w10 ⟨ds, hN10, hds, hob, hu10⟩
      have hz10 := hu10.size
      replace hc := hc.upd hu10 fun i h1 h2 h => by have h := hO9.lt h; omega
      replace hU := hU.trans (hu10.mono fun i _ h => by have h := hO9.lt h; show n0 ≤ i; omega)
      refine L_op rfl (X_assign (v := v10) rfl ?_)
      refine L_nil ?_
      refine T_n ?_
      refine W_ret ?_
      exact BQ_r (End_1 Try.results14 (v := v10) rfl ⟨ds, hN10.mono (by omega) (by omega), hds, hU.own hn0⟩)
    · have hlu := hO.rd.sv.len
      refine L_op rfl (X_fn (vs := [u]) en33 rfl (CT.mono (c_sortI Try.lays189 hO (by omega) (by omega)) ?_))
      rintro _ w9 ⟨rfl, hO9, hu9⟩
      have hz9 := hu9.size
      replace hc := hc.upd hu9 fun i h1 h2 h => by have h := hO.lt h; omega
      replace hU := hU.trans (hu9.mono fun i _ h => by have h := hO.lt h; show n0 ≤ i; omega)
      have hO9_b : ∀ b, obk u = some b → b < w9.heap.size := fun b hb => (hO9.lt hb).2
      refine L_nil ?_
      refine T_n ?_
      refine W_seq ?_
      refine W_reg ?_
      refine L_op rfl (X_move (v := u) rfl ?_)
      obtain ⟨up9, hup9⟩ : ∃ n, n = w9.heap.size := ⟨_, rfl⟩
      have hsl := sort_len (fstW cs)
      have hN9 : NOwn LI w9 3 5 n0 up9 u (sortI (fstW cs)) := NOwn.of (fun _ => rfl) (hO9.eq (by omega) (liFst _).symm) (fun b hb => by have := (hO9.lt hb).2; omega)
      refine L_op rfl (X_fn (vs := [u]) en34 rfl (CT.mono (c_compact u (sortI (fstW cs)) _ n0 up9 hN9) ?_))
      rintro v10 w10 ⟨ds, hN10, hds, hob, hu10⟩
      have hz10 := hu10.size
      replace hc := hc.upd hu10 fun i h1 h2 h => by have h := hO9.lt h; omega
      replace hU := hU.trans (hu10.mono fun i _ h => by have h := hO9.lt h; show n0 ≤ i; omega)
      refine L_op rfl (X_assign (v := v10) rfl ?_)
      refine L_nil ?_
      refine T_n ?_
      refine W_ret ?_
      exact BQ_r (End_1 Try.results14 (v := v10) rfl ⟨ds, hN10.mono (by omega) (by omega), hds, hU.own hn0⟩)
end Go.Proofs.Ythongcaijgfojaa
