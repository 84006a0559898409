/-
  The contracts of pointers: Put. (Printed by wip/gen/t08e.py of this repo.)
-/
import Derived.Test.YtmggaahkfidfaaaDoorPtrB
import Derived.Test.YtmggaahkfidfaaaDoorBaseV
namespace Go.Proofs.YtmggaahkfidfaaaDoor
open Go Go.SL Go.Proofs
set_option linter.unusedVariables false

def wid : List Int := [1, 2, 2, 4, 8]
/-- the table of widths, as the card lays it -/
abbrev TabR (w : World) : Prop := NRd LI w 0 1 (.slice (some ⟨0, 0, none⟩) 5 5) wid
theorem tab_at {w : World} (h : TabR w) {k : Nat} {x : Int} (hk : wid[k]? = some x) : At w (ptr 0 k) [.int .i64 x] := by
  have h1 := h.cells (L := LI) (j := 0) (us := [.int .i64 x]) hk fun j u hj => by rw [Nat.zero_add]; exact hj
  rw [show k * LI.sz + 0 = k by show k * 1 + 0 = k; omega] at h1
  have e : pof (.slice (some ⟨0, 0, none⟩) 5 5) k = ptr 0 k := by show padd (ptr 0 0) k = _; rw [padd_ptr, Nat.zero_add]
  rwa [e] at h1
theorem tab_all {w : World} (h : TabR w) : At w (ptr 0 0) (wid.map fun n => Value.int .i64 n) := by
  refine ⟨0, 0, rfl, fun j u hj => ?_⟩
  rw [List.getElem?_map] at hj
  cases hx : wid[j]? with
  | none => rw [hx] at hj; cases hj
  | some x =>
    rw [hx] at hj
    cases hj
    obtain ⟨b, o, e, hc⟩ := tab_at h hx
    have h2 := hc 0 _ rfl
    cases e
    rw [Nat.add_zero] at h2
    rw [Nat.zero_add]; exact h2
theorem tab_pos {w : World} (h : TabR w) : 1 ≤ w.heap.size := by
  obtain ⟨b, o, e, hc⟩ := tab_at h (k := 0) (x := 1) rfl
  have h2 := World.block_lt_of_cell? w _ (hc 0 _ rfl)
  cases e
  exact h2
def ptrN (q : Pt) : List Int := [q.1, q.2.1, q.2.2.1, q.2.2.2.1, q.2.2.2.2]
theorem ptrN_at {q : Pt} (hq : PtOk q) {i : Nat} (hi : i < 5) : ∃ x : Nat, (ptrN q)[i]? = some (x : Int) ∧ x < 18446744073709551616 := by
  obtain ⟨h1, h2, h3, h4, h5⟩ := hq
  rcases i with _ | _ | _ | _ | _ | i
  · exact ⟨q.1.toNat, by show some q.1 = _; congr 1; omega, by omega⟩
  · exact ⟨q.2.1.toNat, by show some q.2.1 = _; congr 1; omega, by omega⟩
  · exact ⟨q.2.2.1.toNat, by show some q.2.2.1 = _; congr 1; omega, by omega⟩
  · exact ⟨q.2.2.2.1.toNat, by show some q.2.2.2.1 = _; congr 1; omega, by omega⟩
  · exact ⟨q.2.2.2.2.toNat, by show some q.2.2.2.2 = _; congr 1; omega, by omega⟩
  · omega
theorem wid_at {i : Nat} (hi : i < 5) : ∃ m : Int, wid[i]? = some m ∧ 1 ≤ m ∧ m ≤ 8 := by
  rcases i with _ | _ | _ | _ | _ | i
  · exact ⟨1, rfl, by decide, by decide⟩
  · exact ⟨2, rfl, by decide, by decide⟩
  · exact ⟨2, rfl, by decide, by decide⟩
  · exact ⟨4, rfl, by decide, by decide⟩
  · exact ⟨8, rfl, by decide, by decide⟩
  · omega
def ptrP (q : Pt) (i : Nat) : List UInt8 := (((ptrN q).zip wid).take i).flatMap fun e => numB e.1.toNat (wideN e.2)
def ptrB (q : Pt) : List UInt8 := ptrP q 5
theorem ptrP_step {q : Pt} {i x : Nat} {m : Int} (hx : (ptrN q)[i]? = some (x : Int)) (hm : wid[i]? = some m) : ptrP q (i + 1) = ptrP q i ++ numB x (wideN m) := by
  have h : ((ptrN q).zip wid)[i]? = some ((x : Int), m) := List.getElem?_zip_eq_some.2 ⟨hx, hm⟩
  unfold ptrP
  rw [List.take_add_one, h, List.flatMap_append]
  simp
theorem ptrP_le (q : Pt) : ∀ i, i ≤ 5 → (ptrP q i).length ≤ 8 * i
  | 0, _ => by simp [ptrP]
  | i + 1, h => by
    obtain ⟨m, hm, _⟩ := wid_at (i := i) (by omega)
    have ih := ptrP_le q i (by omega)
    have hz : ∃ z, ((ptrN q).zip wid)[i]? = some z := ⟨_, List.getElem?_eq_getElem (by show i < 5; omega)⟩
    obtain ⟨z, hz⟩ := hz
    unfold ptrP at ih ⊢
    rw [List.take_add_one, hz, List.flatMap_append, List.length_append]
    simp only [Option.toList_some, List.flatMap_cons, List.flatMap_nil, List.append_nil, numB_length]
    have := wideN_le z.2
    omega
theorem ptrB_len (q : Pt) : (ptrB q).length = 17 := by
  unfold ptrB ptrP
  show ([(q.1, (1 : Int)), (q.2.1, 2), (q.2.2.1, 2), (q.2.2.2.1, 4), (q.2.2.2.2, 8)].flatMap fun e => numB e.1.toNat (wideN e.2)).length = 17
  simp only [List.flatMap_cons, List.flatMap_nil, List.length_append, List.length_nil, numB_length]
  decide
theorem built61 (q : Pt) : Tryd.prog.built 61 [(0, .int .u64 q.1), (1, .int .u64 q.2.1), (2, .int .u64 q.2.2.1), (3, .int .u64 q.2.2.2.1), (4, .int .u64 q.2.2.2.2)] = some ((ptrN q).map fun n => Value.int .u64 n).toArray := by kernel_rfl

theorem c_ptrPut (b : Value) (l : List UInt8) (q : Pt) (w : World) (hq : PtOk q) (hl : l.length ≤ 140737488355000) (hb : Rd w 1 b l.length (l.map byteV)) (hT : TabR w) : CT Tryd.prog 19 #[b, (.agg (ptC q).toArray)] w fun v w' => Own w' w.heap.size 5 1 v (l ++ ptrB q).length ((l ++ ptrB q).map byteV) ∧ Ext w w' := by
  obtain ⟨n0, hn0⟩ : ∃ n, n = w.heap.size := ⟨_, rfl⟩
  have hU : Upd (fun i => n0 ≤ i) w w := Upd.refl _ _
  obtain ⟨hq1, hq2, hq3, hq4, hq5⟩ := id hq
  refine CT_of Tryd.func19 rfl rfl rfl ?_
  refine W_seq ?_
  refine W_reg ?_
  refine L_op rfl (X_box (v := (.agg (ptC q).toArray)) (c := ((ptC q)).toArray) rfl rfl ?_)
  intro b1 w1 hn1
  have hbn1 := hn1.num; have hbs1 := hn1.size
  replace hU := hU.trans (Ext.upd hn1.ext)
  replace hb := hb.ext hn1.ext
  replace hT := hT.ext hn1.ext
  have hB1 := hn1.blk
  refine L_op rfl (X_assign (v := (.slice none 0 0)) rfl ?_)
  refine L_nil ?_
  refine T_n ?_
  refine W_seq ?_
  refine W_seq ?_
  refine W_reg ?_
  refine L_op rfl (X_fldP (b := b1) (o := 0) (r := 0) Fd28_0 rfl rfl ?_)
  refine L_op rfl (X_load (p := (ptr b1 (0))) (v := (.int .u8 (q.1))) T5 rfl (hB1.at1 rfl) ?_)
  refine L_op rfl (X_convInt (k := .u8) (a := q.1) (r := q.1) (by rw [Tryd.underlying5]; rfl) Tryd.underlying26 rfl (wrap_u64 (by omega) (by omega)) ?_)
  refine L_op rfl (X_fldP (b := b1) (o := 0) (r := 1) Fd28_1 rfl rfl ?_)
  refine L_op rfl (X_idxAP (len := 2) (sz := 1) (b := b1) (o := 1) (k := .i64) (i := 0) (r := 1) Tryd.underlying24 Z23 rfl rfl (by omega) (by omega) rfl ?_)
  refine L_op rfl (X_load (p := (ptr b1 (1))) (v := (.int .u16 (q.2.1))) T23 rfl (hB1.at1 rfl) ?_)
  refine L_op rfl (X_convInt (k := .u16) (a := q.2.1) (r := q.2.1) (by rw [Tryd.underlying23]; rfl) Tryd.underlying26 rfl (wrap_u64 (by omega) (by omega)) ?_)
  refine L_op rfl (X_fldP (b := b1) (o := 0) (r := 1) Fd28_1 rfl rfl ?_)
  refine L_op rfl (X_idxAP (len := 2) (sz := 1) (b := b1) (o := 1) (k := .i64) (i := 1) (r := 2) Tryd.underlying24 Z23 rfl rfl (by omega) (by omega) rfl ?_)
  refine L_op rfl (X_load (p := (ptr b1 (2))) (v := (.int .u16 (q.2.2.1))) T23 rfl (hB1.at1 rfl) ?_)
  refine L_op rfl (X_convInt (k := .u16) (a := q.2.2.1) (r := q.2.2.1) (by rw [Tryd.underlying23]; rfl) Tryd.underlying26 rfl (wrap_u64 (by omega) (by omega)) ?_)
  refine L_op rfl (X_fldP (b := b1) (o := 0) (r := 3) Fd28_2 rfl rfl ?_)
  refine L_op rfl (X_load (p := (ptr b1 (3))) (v := (.int .u32 (q.2.2.2.1))) T25 rfl (hB1.at1 rfl) ?_)
  refine L_op rfl (X_convInt (k := .u32) (a := q.2.2.2.1) (r := q.2.2.2.1) (by rw [Tryd.underlying25]; rfl) Tryd.underlying26 rfl (wrap_u64 (by omega) (by omega)) ?_)
  refine L_op rfl (X_fldP (b := b1) (o := 0) (r := 4) Fd28_3 rfl rfl ?_)
  refine L_op rfl (X_load (p := (ptr b1 (4))) (v := (.int .u64 (q.2.2.2.2))) T26 rfl (hB1.at1 rfl) ?_)
  refine L_op rfl (X_build (built61 q) ?_)
  refine L_op rfl (X_move (v := (.int .i64 (0))) rfl ?_)
  refine L_nil ?_
  refine T_n ?_
  refine W_block ?_
  refine W_loop (α := Nat × Value) [0, 5, 6, 24, 25, 26, 27, 28, 29, 30, 31, 32, 33, 34] (fun ⟨i, u⟩ => [(24, (.int .i64 (((i : Nat) : Int)))), (0, u)]) (fun ⟨i, u⟩ w_ => i ≤ 5 ∧ Rd w_ 1 u (l ++ ptrP q i).length ((l ++ ptrP q i).map byteV) ∧ (0 < i → Own w_ n0 5 1 u (l ++ ptrP q i).length ((l ++ ptrP q i).map byteV)) ∧ TabR w_ ∧ Upd (fun i => n0 ≤ i) w w_) (fun ⟨i, u⟩ => 5 - i) ⟨rfl, (0, b), ⟨Nat.zero_le _, by rw [show l ++ ptrP q 0 = l from List.append_nil l]; exact hb, fun h => absurd h (Nat.lt_irrefl 0), hT, hU⟩, Out.refl _ _, ⟨rfl, rfl, trivial⟩⟩ ?_
  rintro ⟨i, u⟩ w2 _ ⟨hil, hR, hOw, hT, hU⟩
  have hsz_ := hU.size
  refine W_seq ?_
  refine W_reg ?_
  by_cases hc3 : (((i : Nat) : Int) : Int) < (5)
  · refine L_op rfl (X_cmp (k := .i64) (a := ((i : Nat) : Int)) (b := 5) (r := true) rfl rfl rfl (decide_eq_true (p := ((((i : Nat) : Int)) : Int) < ((5) : Int)) (by omega)) ?_)
    have hi : i < 5 := by omega
    obtain ⟨x, hxi, hx64⟩ := ptrN_at hq hi
    obtain ⟨m, hmi, hm1, hm8⟩ := wid_at hi
    have hpl := ptrP_le q i (by omega)
    have hst := ptrP_step hxi hmi
    refine L_nil ?_
    refine T_n ?_
    refine W_seq ?_
    refine W_ct rfl ?_
    refine W_skip ?_
    refine T_n ?_
    refine W_seq ?_
    refine W_block ?_
    refine W_seq ?_
    refine W_reg ?_
    refine L_op rfl (X_move (v := (.int .i64 (((i : Nat) : Int)))) rfl ?_)
    refine L_op rfl (X_idxV (v := .int .u64 ((x : Nat) : Int)) (i := ((i : Nat) : Int)) (k := .i64) (cs := ((ptrN q).map fun n => Value.int .u64 n).toArray) Tryd.underlying61 T26 rfl rfl (by omega) (by omega) (by rw [Int.toNat_natCast, List.getElem?_toArray, List.getElem?_map, hxi]; rfl) ?_)
    refine L_op rfl (X_assign (v := (.int .i64 (((i : Nat) : Int)))) rfl ?_)
    refine L_op rfl (X_assign (v := (.int .u64 (((x : Nat) : Int)))) rfl ?_)
    refine L_nil ?_
    refine T_n ?_
    refine W_reg ?_
    refine L_op rfl (X_move (v := u) rfl ?_)
    refine L_op rfl (X_move (v := (.int .u64 (((x : Nat) : Int)))) rfl ?_)
    refine L_op rfl (X_move (v := (.int .i64 (((i : Nat) : Int)))) rfl ?_)
    refine L_op rfl (X_idxAP (len := 5) (sz := 1) (b := 0) (o := 0) (k := .i64) (i := ((i : Nat) : Int)) (r := (((i : Nat) : Int) : Int).toNat) Tryd.underlying63 Z3 rfl rfl (by omega) (by omega) (by omega) ?_)
    refine L_op rfl (X_load (p := ptr 0 ((((i : Nat) : Int)).toNat)) (v := .int .i64 m) T3 rfl (tab_at hT (by rw [Int.toNat_natCast]; exact hmi)) ?_)
    obtain ⟨sp, hsp⟩ : ∃ n, n = w2.heap.size := ⟨_, rfl⟩
    refine L_op rfl (X_fn (vs := [u, (.int .u64 (((x : Nat) : Int))), (.int .i64 (m))]) en35 rfl (CT.mono (c_put u (l ++ ptrP q i) x m _ (by rw [List.length_append]; omega) hR) ?_))
    rintro v4 w4 ⟨hO4, hu4⟩
    have hz4 := hu4.size
    replace hO4 := hO4.eq (n' := (l ++ ptrP q (i + 1)).length) (xs' := (l ++ ptrP q (i + 1)).map byteV) (by rw [hst, ← List.append_assoc, List.length_append (bs := numB x (wideN m)), numB_length]) (by rw [hst, ← List.append_assoc])
    rw [← hsp] at hO4
    replace hT := hT.ext hu4
    replace hU := hU.trans (Ext.upd hu4)
    replace hO4 := hO4.more (show n0 ≤ sp by omega)
    refine L_op rfl (X_assign (v := v4) rfl ?_)
    refine L_nil ?_
    refine B_n ?_
    refine T_n ?_
    refine W_reg ?_
    refine L_op rfl (X_arith (k := .i64) (a := ((i : Nat) : Int)) (b := 1) (r := ((i + 1 : Nat) : Int)) rfl rfl rfl (iadd64 (by omega) (by omega) (by omega)) ?_)
    refine L_op rfl (X_move (v := (.int .i64 (((i + 1 : Nat) : Int)))) rfl ?_)
    refine L_nil ?_
    refine T_n ?_
    exact ⟨rfl, (i + 1, v4), ⟨⟨hi, hO4.rd, fun _ => hO4, hT, hU⟩, (by show 5 - (i + 1) < 5 - i; omega)⟩, (Out.mk rfl), ⟨rfl, rfl, trivial⟩⟩
  · refine L_op rfl (X_cmp (k := .i64) (a := ((i : Nat) : Int)) (b := 5) (r := false) rfl rfl rfl (decide_eq_false (p := ((((i : Nat) : Int)) : Int) < ((5) : Int)) (by omega)) ?_)
    refine L_nil ?_
    refine T_n ?_
    refine W_seq ?_
    refine W_cf rfl ?_
    refine W_exit ?_
    refine T_e ?_
    refine T_e ?_
    refine B_x ?_
    refine T_n ?_
    refine W_seq ?_
    refine W_reg ?_
    refine L_op rfl (X_move (v := u) rfl ?_)
    refine L_op rfl (X_assign (v := u) rfl ?_)
    refine L_nil ?_
    refine T_n ?_
    refine W_ret ?_
    obtain rfl : i = 5 := by omega
    exact BQ_r (End_1 Tryd.results19 (v := u) rfl ⟨hn0 ▸ hOw (by decide), hU.own hn0⟩)
end Go.Proofs.YtmggaahkfidfaaaDoor
