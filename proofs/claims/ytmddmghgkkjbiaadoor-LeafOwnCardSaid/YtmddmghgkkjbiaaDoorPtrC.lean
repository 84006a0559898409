/-
  What chapter 06 takes over of chapter 08: pointers, put and taken. (Printed by wip/gen/t06d.py of this repo.)
-/
import Derived.Test.YtmddmghgkkjbiaaDoorPtr
namespace Go.Proofs.YtmddmghgkkjbiaaDoor
open Go Go.SL Go.Proofs
set_option linter.unusedVariables false

def wid : List Int := [1, 2, 2, 4, 8]
/-- the table of widths, as the card lays it -/
abbrev TabR (w : World) : Prop := NRd LI w 0 1 (.slice (some ⟨0, 0, none⟩) 5 5) wid
theorem tab_at {w : World} (h : TabR w) {k : Nat} {x : Int} (hk : wid[k]? = some x) : At w (ptr 0 k) [.int .i64 x] := by
  have h1 := h.cells (L := LI) (j := 0) (us := [.int .i64 x]) hk fun j u hj => by rw [Nat.zero_add]; exact hj
  rw [show k * LI.sz + 0 = k by show k * 1 + 0 = k; omega] at h1
  have e : pof (.slice (some ⟨0, 0, none⟩) 5 5) k = ptr 0 k := by show padd (ptr 0 0) k = _; rw [padd_ptr, Nat.zero_add]
  rwa [e] at h1
theorem tab_all {w : World} (h : TabR w) : At w (ptr 0 0) (wid.map fun n => Value.int .i64 n) := by
  refine ⟨0, 0, rfl, fun j u hj => ?_⟩
  rw [List.getElem?_map] at hj
  cases hx : wid[j]? with
  | none => rw [hx] at hj; cases hj
  | some x =>
    rw [hx] at hj
    cases hj
    obtain ⟨b, o, e, hc⟩ := tab_at h hx
    have h2 := hc 0 _ rfl
    cases e
    rw [Nat.add_zero] at h2
    rw [Nat.zero_add]; exact h2
theorem tab_pos {w : World} (h : TabR w) : 1 ≤ w.heap.size := by
  obtain ⟨b, o, e, hc⟩ := tab_at h (k := 0) (x := 1) rfl
  have h2 := World.block_lt_of_cell? w _ (hc 0 _ rfl)
  cases e
  exact h2
def ptrN (q : Pt) : List Int := [q.1, q.2.1, q.2.2.1, q.2.2.2.1, q.2.2.2.2]
theorem ptrN_at {q : Pt} (hq : PtOk q) {i : Nat} (hi : i < 5) : ∃ x : Nat, (ptrN q)[i]? = some (x : Int) ∧ x < 18446744073709551616 := by
  obtain ⟨h1, h2, h3, h4, h5⟩ := hq
  rcases i with _ | _ | _ | _ | _ | i
  · exact ⟨q.1.toNat, by show some q.1 = _; congr 1; omega, by omega⟩
  · exact ⟨q.2.1.toNat, by show some q.2.1 = _; congr 1; omega, by omega⟩
  · exact ⟨q.2.2.1.toNat, by show some q.2.2.1 = _; congr 1; omega, by omega⟩
  · exact ⟨q.2.2.2.1.toNat, by show some q.2.2.2.1 = _; congr 1; omega, by omega⟩
  · exact ⟨q.2.2.2.2.toNat, by show some q.2.2.2.2 = _; congr 1; omega, by omega⟩
  · omega
theorem wid_at {i : Nat} (hi : i < 5) : ∃ m : Int, wid[i]? = some m ∧ 1 ≤ m ∧ m ≤ 8 := by
  rcases i with _ | _ | _ | _ | _ | i
  · exact ⟨1, rfl, by decide, by decide⟩
  · exact ⟨2, rfl, by decide, by decide⟩
  · exact ⟨2, rfl, by decide, by decide⟩
  · exact ⟨4, rfl, by decide, by decide⟩
  · exact ⟨8, rfl, by decide, by decide⟩
  · omega
def ptrP (q : Pt) (i : Nat) : List UInt8 := (((ptrN q).zip wid).take i).flatMap fun e => numB e.1.toNat (wideN e.2)
def ptrB (q : Pt) : List UInt8 := ptrP q 5
theorem ptrP_step {q : Pt} {i x : Nat} {m : Int} (hx : (ptrN q)[i]? = some (x : Int)) (hm : wid[i]? = some m) : ptrP q (i + 1) = ptrP q i ++ numB x (wideN m) := by
  have h : ((ptrN q).zip wid)[i]? = some ((x : Int), m) := List.getElem?_zip_eq_some.2 ⟨hx, hm⟩
  unfold ptrP
  rw [List.take_add_one, h, List.flatMap_append]
  simp
theorem ptrP_le (q : Pt) : ∀ i, i ≤ 5 → (ptrP q i).length ≤ 8 * i
  | 0, _ => by simp [ptrP]
  | i + 1, h => by
    obtain ⟨m, hm, _⟩ := wid_at (i := i) (by omega)
    have ih := ptrP_le q i (by omega)
    have hz : ∃ z, ((ptrN q).zip wid)[i]? = some z := ⟨_, List.getElem?_eq_getElem (by show i < 5; omega)⟩
    obtain ⟨z, hz⟩ := hz
    unfold ptrP at ih ⊢
    rw [List.take_add_one, hz, List.flatMap_append, List.length_append]
    simp only [Option.toList_some, List.flatMap_cons, List.flatMap_nil, List.append_nil, numB_length]
    have := wideN_le z.2
    omega
theorem ptrB_len (q : Pt) : (ptrB q).length = 17 := by
  unfold ptrB ptrP
  show ([(q.1, (1 : Int)), (q.2.1, 2), (q.2.2.1, 2), (q.2.2.2.1, 4), (q.2.2.2.2, 8)].flatMap fun e => numB e.1.toNat (wideN e.2)).length = 17
  simp only [List.flatMap_cons, List.flatMap_nil, List.length_append, List.length_nil, numB_length]
  decide
theorem built69 (q : Pt) : Tryd.prog.built 69 [(0, .int .u64 q.1), (1, .int .u64 q.2.1), (2, .int .u64 q.2.2.1), (3, .int .u64 q.2.2.2.1), (4, .int .u64 q.2.2.2.2)] = some ((ptrN q).map fun n => Value.int .u64 n).toArray := by kernel_rfl

theorem c_ptrPut (b : Value) (l : List UInt8) (q : Pt) (w : World) (hq : PtOk q) (hl : l.length ≤ 140737488355000) (hb : Rd w 1 b l.length (l.map byteV)) (hT : TabR w) : CT Tryd.prog 21 #[b, (.agg (ptC q).toArray)] w fun v w' => Own w' w.heap.size 5 1 v (l ++ ptrB q).length ((l ++ ptrB q).map byteV) ∧ Ext w w' := by
  obtain ⟨n0, hn0⟩ : ∃ n, n = w.heap.size := ⟨_, rfl⟩
  have hU : Upd (fun i => n0 ≤ i) w w := Upd.refl _ _
  obtain ⟨hq1, hq2, hq3, hq4, hq5⟩ := id hq
  refine CT_of Tryd.func21 rfl rfl rfl ?_
  refine W_seq ?_
  refine W_reg ?_
  refine L_op rfl (X_box (v := (.agg (ptC q).toArray)) (c := ((ptC q)).toArray) rfl rfl ?_)
  intro b1 w1 hn1
  have hbn1 := hn1.num; have hbs1 := hn1.size
  replace hU := hU.trans (Ext.upd hn1.ext)
  replace hb := hb.ext hn1.ext
  replace hT := hT.ext hn1.ext
  have hB1 := hn1.blk
  refine L_op rfl (X_assign (v := (.slice none 0 0)) rfl ?_)
  refine L_nil ?_
  refine T_n ?_
  refine W_seq ?_
  refine W_seq ?_
  refine W_reg ?_
  refine L_op rfl (X_fldP (b := b1) (o := 0) (r := 0) Fd41_0 rfl rfl ?_)
  refine L_op rfl (X_load (p := (ptr b1 (0))) (v := (.int .u8 (q.1))) T5 rfl (hB1.at1 rfl) ?_)
  refine L_op rfl (X_convInt (k := .u8) (a := q.1) (r := q.1) (by rw [Tryd.underlying5]; rfl) Tryd.underlying39 rfl (wrap_u64 (by omega) (by omega)) ?_)
  refine L_op rfl (X_fldP (b := b1) (o := 0) (r := 1) Fd41_1 rfl rfl ?_)
  refine L_op rfl (X_idxAP (len := 2) (sz := 1) (b := b1) (o := 1) (k := .i64) (i := 0) (r := 1) Tryd.underlying37 Z36 rfl rfl (by omega) (by omega) rfl ?_)
  refine L_op rfl (X_load (p := (ptr b1 (1))) (v := (.int .u16 (q.2.1))) T36 rfl (hB1.at1 rfl) ?_)
  refine L_op rfl (X_convInt (k := .u16) (a := q.2.1) (r := q.2.1) (by rw [Tryd.underlying36]; rfl) Tryd.underlying39 rfl (wrap_u64 (by omega) (by omega)) ?_)
  refine L_op rfl (X_fldP (b := b1) (o := 0) (r := 1) Fd41_1 rfl rfl ?_)
  refine L_op rfl (X_idxAP (len := 2) (sz := 1) (b := b1) (o := 1) (k := .i64) (i := 1) (r := 2) Tryd.underlying37 Z36 rfl rfl (by omega) (by omega) rfl ?_)
  refine L_op rfl (X_load (p := (ptr b1 (2))) (v := (.int .u16 (q.2.2.1))) T36 rfl (hB1.at1 rfl) ?_)
  refine L_op rfl (X_convInt (k := .u16) (a := q.2.2.1) (r := q.2.2.1) (by rw [Tryd.underlying36]; rfl) Tryd.underlying39 rfl (wrap_u64 (by omega) (by omega)) ?_)
  refine L_op rfl (X_fldP (b := b1) (o := 0) (r := 3) Fd41_2 rfl rfl ?_)
  refine L_op rfl (X_load (p := (ptr b1 (3))) (v := (.int .u32 (q.2.2.2.1))) T38 rfl (hB1.at1 rfl) ?_)
  refine L_op rfl (X_convInt (k := .u32) (a := q.2.2.2.1) (r := q.2.2.2.1) (by rw [Tryd.underlying38]; rfl) Tryd.underlying39 rfl (wrap_u64 (by omega) (by omega)) ?_)
  refine L_op rfl (X_fldP (b := b1) (o := 0) (r := 4) Fd41_3 rfl rfl ?_)
  refine L_op rfl (X_load (p := (ptr b1 (4))) (v := (.int .u64 (q.2.2.2.2))) T39 rfl (hB1.at1 rfl) ?_)
  refine L_op rfl (X_build (built69 q) ?_)
  refine L_op rfl (X_move (v := (.int .i64 (0))) rfl ?_)
  refine L_nil ?_
  refine T_n ?_
  refine W_block ?_
  refine W_loop (α := Nat × Value) [0, 5, 6, 24, 25, 26, 27, 28, 29, 30, 31, 32, 33, 34] (fun ⟨i, u⟩ => [(24, (.int .i64 (((i : Nat) : Int)))), (0, u)]) (fun ⟨i, u⟩ w_ => i ≤ 5 ∧ Rd w_ 1 u (l ++ ptrP q i).length ((l ++ ptrP q i).map byteV) ∧ (0 < i → Own w_ n0 5 1 u (l ++ ptrP q i).length ((l ++ ptrP q i).map byteV)) ∧ TabR w_ ∧ Upd (fun i => n0 ≤ i) w w_) (fun ⟨i, u⟩ => 5 - i) ⟨rfl, (0, b), ⟨Nat.zero_le _, by rw [show l ++ ptrP q 0 = l from List.append_nil l]; exact hb, fun h => absurd h (Nat.lt_irrefl 0), hT, hU⟩, Out.refl _ _, ⟨rfl, rfl, trivial⟩⟩ ?_
  rintro ⟨i, u⟩ w2 _ ⟨hil, hR, hOw, hT, hU⟩
  have hsz_ := hU.size
  refine W_seq ?_
  refine W_reg ?_
  by_cases hc3 : (((i : Nat) : Int) : Int) < (5)
  · refine L_op rfl (X_cmp (k := .i64) (a := ((i : Nat) : Int)) (b := 5) (r := true) rfl rfl rfl (decide_eq_true (p := ((((i : Nat) : Int)) : Int) < ((5) : Int)) (by omega)) ?_)
    have hi : i < 5 := by omega
    obtain ⟨x, hxi, hx64⟩ := ptrN_at hq hi
    obtain ⟨m, hmi, hm1, hm8⟩ := wid_at hi
    have hpl := ptrP_le q i (by omega)
    have hst := ptrP_step hxi hmi
    refine L_nil ?_
    refine T_n ?_
    refine W_seq ?_
    refine W_ct rfl ?_
    refine W_skip ?_
    refine T_n ?_
    refine W_seq ?_
    refine W_block ?_
    refine W_seq ?_
    refine W_reg ?_
    refine L_op rfl (X_move (v := (.int .i64 (((i : Nat) : Int)))) rfl ?_)
    refine L_op rfl (X_idxV (v := .int .u64 ((x : Nat) : Int)) (i := ((i : Nat) : Int)) (k := .i64) (cs := ((ptrN q).map fun n => Value.int .u64 n).toArray) Tryd.underlying69 T39 rfl rfl (by omega) (by omega) (by rw [Int.toNat_natCast, List.getElem?_toArray, List.getElem?_map, hxi]; rfl) ?_)
    refine L_op rfl (X_assign (v := (.int .i64 (((i : Nat) : Int)))) rfl ?_)
    refine L_op rfl (X_assign (v := (.int .u64 (((x : Nat) : Int)))) rfl ?_)
    refine L_nil ?_
    refine T_n ?_
    refine W_reg ?_
    refine L_op rfl (X_move (v := u) rfl ?_)
    refine L_op rfl (X_move (v := (.int .u64 (((x : Nat) : Int)))) rfl ?_)
    refine L_op rfl (X_move (v := (.int .i64 (((i : Nat) : Int)))) rfl ?_)
    refine L_op rfl (X_idxAP (len := 5) (sz := 1) (b := 0) (o := 0) (k := .i64) (i := ((i : Nat) : Int)) (r := (((i : Nat) : Int) : Int).toNat) Tryd.underlying70 Z3 rfl rfl (by omega) (by omega) (by omega) ?_)
    refine L_op rfl (X_load (p := ptr 0 ((((i : Nat) : Int)).toNat)) (v := .int .i64 m) T3 rfl (tab_at hT (by rw [Int.toNat_natCast]; exact hmi)) ?_)
    obtain ⟨sp, hsp⟩ : ∃ n, n = w2.heap.size := ⟨_, rfl⟩
    refine L_op rfl (X_fn (vs := [u, (.int .u64 (((x : Nat) : Int))), (.int .i64 (m))]) en22 rfl (CT.mono (c_put u (l ++ ptrP q i) x m _ (by rw [List.length_append]; omega) hR) ?_))
    rintro v4 w4 ⟨hO4, hu4⟩
    have hz4 := hu4.size
    replace hO4 := hO4.eq (n' := (l ++ ptrP q (i + 1)).length) (xs' := (l ++ ptrP q (i + 1)).map byteV) (by rw [hst, ← List.append_assoc, List.length_append (bs := numB x (wideN m)), numB_length]) (by rw [hst, ← List.append_assoc])
    rw [← hsp] at hO4
    replace hT := hT.ext hu4
    replace hU := hU.trans (Ext.upd hu4)
    replace hO4 := hO4.more (show n0 ≤ sp by omega)
    refine L_op rfl (X_assign (v := v4) rfl ?_)
    refine L_nil ?_
    refine B_n ?_
    refine T_n ?_
    refine W_reg ?_
    refine L_op rfl (X_arith (k := .i64) (a := ((i : Nat) : Int)) (b := 1) (r := ((i + 1 : Nat) : Int)) rfl rfl rfl (iadd64 (by omega) (by omega) (by omega)) ?_)
    refine L_op rfl (X_move (v := (.int .i64 (((i + 1 : Nat) : Int)))) rfl ?_)
    refine L_nil ?_
    refine T_n ?_
    exact ⟨rfl, (i + 1, v4), ⟨⟨hi, hO4.rd, fun _ => hO4, hT, hU⟩, (by show 5 - (i + 1) < 5 - i; omega)⟩, (Out.mk rfl), ⟨rfl, rfl, trivial⟩⟩
  · refine L_op rfl (X_cmp (k := .i64) (a := ((i : Nat) : Int)) (b := 5) (r := false) rfl rfl rfl (decide_eq_false (p := ((((i : Nat) : Int)) : Int) < ((5) : Int)) (by omega)) ?_)
    refine L_nil ?_
    refine T_n ?_
    refine W_seq ?_
    refine W_cf rfl ?_
    refine W_exit ?_
    refine T_e ?_
    refine T_e ?_
    refine B_x ?_
    refine T_n ?_
    refine W_seq ?_
    refine W_reg ?_
    refine L_op rfl (X_move (v := u) rfl ?_)
    refine L_op rfl (X_assign (v := u) rfl ?_)
    refine L_nil ?_
    refine T_n ?_
    refine W_ret ?_
    obtain rfl : i = 5 := by omega
    exact BQ_r (End_1 Tryd.results21 (v := u) rfl ⟨hn0 ▸ hOw (by decide), hU.own hn0⟩)

theorem u16_wrap_nat {n : Nat} (h : n < 65536) : IntKind.u16.wrap (n : Int) = n := by
  have e : (2 : Int) ^ 16 = 65536 := by decide
  simp only [IntKind.wrap, IntKind.signed, IntKind.bits, e, Bool.false_and, Bool.false_eq_true, if_false]
  omega
theorem u32_wrap_nat {n : Nat} (h : n < 4294967296) : IntKind.u32.wrap (n : Int) = n := by
  have e : (2 : Int) ^ 32 = 4294967296 := by decide
  simp only [IntKind.wrap, IntKind.signed, IntKind.bits, e, Bool.false_and, Bool.false_eq_true, if_false]
  omega
def widN (k : Nat) : Nat := wideN (wid.getD k 0)
def tkR (l : List UInt8) : Nat → List UInt8
  | 0 => l
  | k + 1 => restB (tkR l k) (widN k)
def tkV (l : List UInt8) (k : Nat) : Nat := takeV (tkR l k) (widN k)
theorem widN_of {k : Nat} {m : Int} (h : wid[k]? = some m) : widN k = wideN m := by unfold widN; rw [List.getD_eq_getElem?_getD, h]; rfl
theorem takeV_lt (l : List UInt8) (W : Nat) : takeV l W < 256 ^ W := by
  unfold takeV
  split
  · exact Nat.pow_pos (by decide)
  · refine Nat.lt_of_lt_of_le (valB_lt _) (Nat.pow_le_pow_right (by decide) ?_)
    rw [List.length_take]; omega
theorem tkV_lt (l : List UInt8) (k : Nat) : tkV l k < 256 ^ widN k := takeV_lt _ _
theorem tkV_0 (l : List UInt8) : tkV l 0 < 256 := tkV_lt l 0
theorem tkV_1 (l : List UInt8) : tkV l 1 < 65536 := tkV_lt l 1
theorem tkV_2 (l : List UInt8) : tkV l 2 < 65536 := tkV_lt l 2
theorem tkV_3 (l : List UInt8) : tkV l 3 < 4294967296 := tkV_lt l 3
theorem tkV_4 (l : List UInt8) : tkV l 4 < 18446744073709551616 := tkV_lt l 4
def tkC (l : List UInt8) (i : Nat) : List Value := (List.range 5).map fun j => .int .u64 (if j < i then ((tkV l j : Nat) : Int) else 0)
theorem tkC_zero (l : List UInt8) : tkC l 0 = [.int .u64 0, .int .u64 0, .int .u64 0, .int .u64 0, .int .u64 0] := rfl
theorem tkC_all (l : List UInt8) : tkC l 5 = [.int .u64 ((tkV l 0 : Nat) : Int), .int .u64 ((tkV l 1 : Nat) : Int), .int .u64 ((tkV l 2 : Nat) : Int), .int .u64 ((tkV l 3 : Nat) : Int), .int .u64 ((tkV l 4 : Nat) : Int)] := rfl
theorem tkC_size (l : List UInt8) (i : Nat) : (tkC l i).toArray.size = 5 := by unfold tkC; rw [List.size_toArray, List.length_map, List.length_range]
theorem tkC_step {l : List UInt8} {i : Nat} (hi : i < 5) : (tkC l i).toArray.setIfInBounds i (.int .u64 ((tkV l i : Nat) : Int)) = (tkC l (i + 1)).toArray := by
  rw [List.setIfInBounds_toArray]
  congr 1
  refine List.ext_getElem? fun j => ?_
  rw [List.getElem?_set]
  unfold tkC
  simp only [List.getElem?_map, List.length_map, List.length_range]
  by_cases h : i = j
  · subst h
    rw [if_pos rfl, if_pos hi, List.getElem?_range hi]
    simp
  · rw [if_neg h]
    rcases Nat.lt_or_ge j 5 with h5 | h5
    · rw [List.getElem?_range h5]
      simp only [Option.map_some]
      congr 3
      exact propext (by constructor <;> intro _ <;> omega)
    · rw [List.getElem?_eq_none (by rw [List.length_range]; exact h5)]; rfl
def tkQ (l : List UInt8) : Pt := (((tkV l 0 : Nat) : Int), ((tkV l 1 : Nat) : Int), ((tkV l 2 : Nat) : Int), ((tkV l 3 : Nat) : Int), ((tkV l 4 : Nat) : Int))
def ptZ : Pt := (0, 0, 0, 0, 0)
theorem ptZ_ok : PtOk ptZ := by unfold PtOk ptZ; decide
theorem tkQ_ok (l : List UInt8) : PtOk (tkQ l) := by
  have := tkV_0 l; have := tkV_1 l; have := tkV_2 l; have := tkV_3 l; have := tkV_4 l
  unfold PtOk tkQ
  dsimp only
  omega
def takeQ (l : List UInt8) : Pt := if l.length < 17 then ptZ else tkQ l
def takeQR (l : List UInt8) : List UInt8 := if l.length < 17 then l else tkR l 5
def takeQE (l : List UInt8) : Int := if l.length < 17 then 20 else 0
theorem takeQ_ok (l : List UInt8) : PtOk (takeQ l) := by unfold takeQ; split; exact ptZ_ok; exact tkQ_ok l
theorem built37 (a b : Int) : Tryd.prog.built 37 [(0, .int .u16 a), (1, .int .u16 b)] = some #[.int .u16 a, .int .u16 b] := by kernel_rfl
theorem built41 (q : Pt) : Tryd.prog.built 41 [(0, .int .u8 q.1), (1, .agg #[.int .u16 q.2.1, .int .u16 q.2.2.1]), (2, .int .u32 q.2.2.2.1), (3, .int .u64 q.2.2.2.2)] = some (ptC q).toArray := by kernel_rfl

theorem c_ptrTake (b : Value) (l : List UInt8) (w : World) (hb : Rd w 1 b l.length (l.map byteV)) (hT : TabR w) : CT Tryd.prog 48 #[b] w fun v w' => ∃ r, v = .tuple #[.agg (ptC (takeQ l)).toArray, r, .int .i64 (takeQE l)] ∧ Rd w' 1 r (takeQR l).length ((takeQR l).map byteV) ∧ (∀ b', rbk r = some b' → rbk b = some b') ∧ Ext w w' := by
  obtain ⟨n0, hn0⟩ : ∃ n, n = w.heap.size := ⟨_, rfl⟩
  have hU : Upd (fun i => n0 ≤ i) w w := Upd.refl _ _
  have hb_b : ∀ i, rbk b = some i → i < n0 := by rw [hn0]; exact fun i hi => hb.bound (by decide) hi
  refine CT_of Tryd.func48 rfl rfl rfl ?_
  refine W_seq ?_
  refine W_reg ?_
  refine L_op rfl (X_alloc (z := (.agg #[(.int .u8 (0)), (.int .u16 (0)), (.int .u16 (0)), (.int .u32 (0)), (.int .u64 (0))])) (c := #[(.int .u8 (0)), (.int .u16 (0)), (.int .u16 (0)), (.int .u32 (0)), (.int .u64 (0))]) Zv41 rfl ?_)
  intro b1 w1 hn1
  have hbn1 := hn1.num; have hbs1 := hn1.size
  replace hb := hb.ext hn1.ext
  replace hU := hU.trans (Ext.upd hn1.ext)
  replace hT := hT.ext hn1.ext
  have hB1 := hn1.blk
  refine L_op rfl (X_assign (v := (.slice none 0 0)) rfl ?_)
  refine L_op rfl (X_assign (v := (.int .i64 (0))) rfl ?_)
  refine L_nil ?_
  refine T_n ?_
  refine W_seq ?_
  refine W_seq ?_
  refine W_reg ?_
  refine L_op rfl (X_move (v := b) rfl ?_)
  refine L_op rfl (X_len (v := b) (n := l.length) Tryd.underlying35 rfl hb.sv ?_)
  by_cases hc2 : (((l.length : Nat) : Int) : Int) < (17)
  · refine L_op rfl (X_cmp (k := .i64) (a := ((l.length : Nat) : Int)) (b := 17) (r := true) rfl rfl rfl (decide_eq_true (p := ((((l.length : Nat) : Int)) : Int) < ((17) : Int)) (by omega)) ?_)
    refine L_nil ?_
    refine T_n ?_
    refine W_ct rfl ?_
    refine W_seq ?_
    refine W_reg ?_
    refine L_op rfl (X_loadA (p := (ptr b1 (0))) (xs := [(.int .u8 (0)), (.int .u16 (0)), (.int .u16 (0)), (.int .u32 (0)), (.int .u64 (0))]) A41 rfl hB1.atAll rfl ?_)
    refine L_op rfl (X_move (v := b) rfl ?_)
    refine L_op0 (X_storeSameW A41 rfl rfl (ptC_one ptZ) rfl hB1 ?_)
    refine L_op rfl (X_assign (v := b) rfl ?_)
    refine L_op rfl (X_assign (v := (.int .i64 (20))) rfl ?_)
    refine L_nil ?_
    refine T_n ?_
    refine W_ret ?_
    refine T_r ?_
    exact BQ_r (End_3 Tryd.results48 (RV_A A41 rfl hB1.atAll rfl) (v2 := b) rfl (v3 := .int .i64 20) rfl ⟨b, by rw [show takeQ l = ptZ from if_pos (by omega), show takeQE l = 20 from if_pos (by omega)]; rfl, by rw [show takeQR l = l from if_pos (by omega)]; exact hb, fun _ h => h, hU.own hn0⟩)
  · refine L_op rfl (X_cmp (k := .i64) (a := ((l.length : Nat) : Int)) (b := 17) (r := false) rfl rfl rfl (decide_eq_false (p := ((((l.length : Nat) : Int)) : Int) < ((17) : Int)) (by omega)) ?_)
    refine L_nil ?_
    refine T_n ?_
    refine W_cf rfl ?_
    refine W_skip ?_
    refine T_n ?_
    refine W_seq ?_
    refine W_reg ?_
    refine L_op rfl (X_alloc (z := (.agg #[(.int .u64 (0)), (.int .u64 (0)), (.int .u64 (0)), (.int .u64 (0)), (.int .u64 (0))])) (c := #[(.int .u64 (0)), (.int .u64 (0)), (.int .u64 (0)), (.int .u64 (0)), (.int .u64 (0))]) Zv69 rfl ?_)
    intro b3 w3 hn3
    have hbn3 := hn3.num; have hbs3 := hn3.size
    replace hb := hb.ext hn3.ext
    replace hU := hU.trans (Ext.upd hn3.ext)
    replace hT := hT.ext hn3.ext
    replace hB1 := hB1.ext hn3.ext
    have hB3 := hn3.blk
    refine L_nil ?_
    refine T_n ?_
    refine W_seq ?_
    refine W_reg ?_
    refine L_op rfl (X_move (v := b) rfl ?_)
    refine L_op rfl (X_assign (v := b) rfl ?_)
    refine L_nil ?_
    refine T_n ?_
    refine W_seq ?_
    refine W_seq ?_
    refine W_reg ?_
    refine L_op rfl (X_loadA (p := ptr 0 0) (xs := wid.map fun n => Value.int .i64 n) A70 rfl (tab_all hT) rfl ?_)
    refine L_op rfl (X_move (v := (.int .i64 (0))) rfl ?_)
    refine L_nil ?_
    refine T_n ?_
    refine W_block ?_
    refine W_loop (α := Nat × Value) [3, 6, 7, 15, 16, 17, 18, 19, 20, 21, 22, 23, 24, 25, 26, 27, 28] (fun ⟨i, u⟩ => [(15, (.int .i64 (((i : Nat) : Int)))), (3, u)]) (fun ⟨i, u⟩ w_ => i ≤ 5 ∧ Rd w_ 1 u (tkR l i).length ((tkR l i).map byteV) ∧ (∀ b', rbk u = some b' → rbk b = some b') ∧ Blk w_ b3 (tkC l i).toArray 69 ∧ Blk w_ b1 #[.int .u8 0, .int .u16 0, .int .u16 0, .int .u32 0, .int .u64 0] 41 ∧ Upd (fun i => n0 ≤ i) w w_) (fun ⟨i, u⟩ => 5 - i) ⟨rfl, (0, b), ⟨Nat.zero_le _, hb, fun _ h => h, hB3, hB1, hU⟩, Out.refl _ _, ⟨rfl, rfl, trivial⟩⟩ ?_
    rintro ⟨i, u⟩ w4 _ ⟨hil, hR, hrb, hB3, hB1, hU⟩
    have hsz_ := hU.size
    have hRb : ∀ b_, rbk u = some b_ → b_ < n0 := fun b_ h => hb_b _ (hrb _ h)
    refine W_seq ?_
    refine W_reg ?_
    by_cases hc5 : (((i : Nat) : Int) : Int) < (5)
    · refine L_op rfl (X_cmp (k := .i64) (a := ((i : Nat) : Int)) (b := 5) (r := true) rfl rfl rfl (decide_eq_true (p := ((((i : Nat) : Int)) : Int) < ((5) : Int)) (by omega)) ?_)
      have hi : i < 5 := by omega
      obtain ⟨m, hmi, hm1, hm8⟩ := wid_at hi
      refine L_nil ?_
      refine T_n ?_
      refine W_seq ?_
      refine W_ct rfl ?_
      refine W_skip ?_
      refine T_n ?_
      refine W_seq ?_
      refine W_block ?_
      refine W_seq ?_
      refine W_reg ?_
      refine L_op rfl (X_move (v := (.int .i64 (((i : Nat) : Int)))) rfl ?_)
      refine L_op rfl (X_idxV (v := .int .i64 m) (i := ((i : Nat) : Int)) (k := .i64) (cs := (wid.map fun n => Value.int .i64 n).toArray) Tryd.underlying70 T3 rfl rfl (by omega) (by omega) (by rw [Int.toNat_natCast, List.getElem?_toArray, List.getElem?_map, hmi]; rfl) ?_)
      refine L_op rfl (X_assign (v := (.int .i64 (((i : Nat) : Int)))) rfl ?_)
      refine L_op rfl (X_assign (v := (.int .i64 (m))) rfl ?_)
      refine L_nil ?_
      refine T_n ?_
      refine W_reg ?_
      refine L_op rfl (X_move (v := (.int .i64 (((i : Nat) : Int)))) rfl ?_)
      refine L_op rfl (X_move (v := u) rfl ?_)
      refine L_op rfl (X_move (v := (.int .i64 (m))) rfl ?_)
      refine L_op rfl (X_fn (vs := [u, (.int .i64 (m))]) en61 rfl (CT.mono (c_take u (tkR l i) m _ hR) ?_))
      rintro _ w6 ⟨r6, rfl, hR6, hrb6, hu6⟩
      have hz6 := hu6.size
      rw [← widN_of hmi] at hR6 ⊢
      replace hR6 : Rd w6 1 r6 (tkR l (i + 1)).length ((tkR l (i + 1)).map byteV) := hR6
      replace hB3 := hB3.ext hu6
      replace hB1 := hB1.ext hu6
      replace hU := hU.trans (Ext.upd hu6)
      have hR6_b : ∀ b_, rbk r6 = some b_ → b_ < n0 := fun b_ h => hRb _ (hrb6 _ h)
      refine L_op rfl (X_move (v := (.tuple #[(.int .u64 (((takeV (tkR l i) (widN i) : Nat) : Int))), r6, (.int .i64 ((if (tkR l i).length < widN i then 20 else 0)))])) rfl ?_)
      refine L_op rfl (X_extract (l := [(.int .u64 (((takeV (tkR l i) (widN i) : Nat) : Int))), r6, (.int .i64 ((if (tkR l i).length < widN i then 20 else 0)))]) (v := (.int .u64 (((takeV (tkR l i) (widN i) : Nat) : Int)))) rfl rfl ?_)
      refine L_op rfl (X_extract (l := [(.int .u64 (((takeV (tkR l i) (widN i) : Nat) : Int))), r6, (.int .i64 ((if (tkR l i).length < widN i then 20 else 0)))]) (v := r6) rfl rfl ?_)
      refine L_op rfl (X_extract (l := [(.int .u64 (((takeV (tkR l i) (widN i) : Nat) : Int))), r6, (.int .i64 ((if (tkR l i).length < widN i then 20 else 0)))]) (v := (.int .i64 ((if (tkR l i).length < widN i then 20 else 0)))) rfl rfl ?_)
      refine L_op rfl (X_idxAP (len := 5) (sz := 1) (b := b3) (o := 0) (k := .i64) (i := ((i : Nat) : Int)) (r := (((i : Nat) : Int) : Int).toNat) Tryd.underlying69 Z39 rfl rfl (by omega) (by omega) (by omega) ?_)
      refine L_op0 (X_store (b := b3) (o := i) T39 (by show ptr _ _ = ptr _ _; rw [Int.toNat_natCast]) rfl rfl hB3 (by rw [tkC_size]; exact hi) ?_)
      intro w5 hu5 hb5
      have hz5 := hu5.size
      replace hb5 : Blk w5 b3 ((tkC l i).toArray.setIfInBounds i (.int .u64 ((tkV l i : Nat) : Int))) 69 := hb5
      rw [tkC_step hi] at hb5
      replace hB1 := hB1.upd hu5 fun h => by have h : b1 = b3 := h; omega
      replace hU := hU.trans (hu5.mono fun i _ h => by have h : i = b3 := h; show n0 ≤ i; omega)
      replace hR6 := hR6.upd hu5 fun i hi h => by have hi := hR6_b _ hi; have h : i = b3 := h; omega
      replace hB3 := hb5
      refine L_op rfl (X_assign (v := r6) rfl ?_)
      refine L_nil ?_
      refine B_n ?_
      refine T_n ?_
      refine W_reg ?_
      refine L_op rfl (X_arith (k := .i64) (a := ((i : Nat) : Int)) (b := 1) (r := ((i + 1 : Nat) : Int)) rfl rfl rfl (iadd64 (by omega) (by omega) (by omega)) ?_)
      refine L_op rfl (X_move (v := (.int .i64 (((i + 1 : Nat) : Int)))) rfl ?_)
      refine L_nil ?_
      refine T_n ?_
      exact ⟨rfl, (i + 1, r6), ⟨⟨hi, hR6, fun b_ hb_ => hrb _ (hrb6 _ hb_), hB3, hB1, hU⟩, (by show 5 - (i + 1) < 5 - i; omega)⟩, (Out.mk rfl), ⟨rfl, rfl, trivial⟩⟩
    · refine L_op rfl (X_cmp (k := .i64) (a := ((i : Nat) : Int)) (b := 5) (r := false) rfl rfl rfl (decide_eq_false (p := ((((i : Nat) : Int)) : Int) < ((5) : Int)) (by omega)) ?_)
      obtain rfl : i = 5 := by omega
      rw [tkC_all] at hB3
      have ht0 := tkV_0 l
      have ht1 := tkV_1 l
      have ht2 := tkV_2 l
      have ht3 := tkV_3 l
      have ht4 := tkV_4 l
      refine L_nil ?_
      refine T_n ?_
      refine W_seq ?_
      refine W_cf rfl ?_
      refine W_exit ?_
      refine T_e ?_
      refine T_e ?_
      refine B_x ?_
      refine T_n ?_
      refine W_seq ?_
      refine W_reg ?_
      refine L_op rfl (X_idxAP (len := 5) (sz := 1) (b := b3) (o := 0) (k := .i64) (i := 0) (r := 0) Tryd.underlying69 Z39 rfl rfl (by omega) (by omega) rfl ?_)
      refine L_op rfl (X_load (p := (ptr b3 (0))) (v := (.int .u64 (((tkV l 0 : Nat) : Int)))) T39 rfl (hB3.at1 rfl) ?_)
      refine L_op rfl (X_convInt (k := .u64) (a := ((tkV l 0 : Nat) : Int)) (r := ((tkV l 0 : Nat) : Int)) (by rw [Tryd.underlying39]; rfl) Tryd.underlying5 rfl (u8_wrap_nat ht0) ?_)
      refine L_op rfl (X_idxAP (len := 5) (sz := 1) (b := b3) (o := 0) (k := .i64) (i := 1) (r := 1) Tryd.underlying69 Z39 rfl rfl (by omega) (by omega) rfl ?_)
      refine L_op rfl (X_load (p := (ptr b3 (1))) (v := (.int .u64 (((tkV l 1 : Nat) : Int)))) T39 rfl (hB3.at1 rfl) ?_)
      refine L_op rfl (X_convInt (k := .u64) (a := ((tkV l 1 : Nat) : Int)) (r := ((tkV l 1 : Nat) : Int)) (by rw [Tryd.underlying39]; rfl) Tryd.underlying36 rfl (u16_wrap_nat ht1) ?_)
      refine L_op rfl (X_idxAP (len := 5) (sz := 1) (b := b3) (o := 0) (k := .i64) (i := 2) (r := 2) Tryd.underlying69 Z39 rfl rfl (by omega) (by omega) rfl ?_)
      refine L_op rfl (X_load (p := (ptr b3 (2))) (v := (.int .u64 (((tkV l 2 : Nat) : Int)))) T39 rfl (hB3.at1 rfl) ?_)
      refine L_op rfl (X_convInt (k := .u64) (a := ((tkV l 2 : Nat) : Int)) (r := ((tkV l 2 : Nat) : Int)) (by rw [Tryd.underlying39]; rfl) Tryd.underlying36 rfl (u16_wrap_nat ht2) ?_)
      refine L_op rfl (X_build (built37 _ _) ?_)
      refine L_op rfl (X_idxAP (len := 5) (sz := 1) (b := b3) (o := 0) (k := .i64) (i := 3) (r := 3) Tryd.underlying69 Z39 rfl rfl (by omega) (by omega) rfl ?_)
      refine L_op rfl (X_load (p := (ptr b3 (3))) (v := (.int .u64 (((tkV l 3 : Nat) : Int)))) T39 rfl (hB3.at1 rfl) ?_)
      refine L_op rfl (X_convInt (k := .u64) (a := ((tkV l 3 : Nat) : Int)) (r := ((tkV l 3 : Nat) : Int)) (by rw [Tryd.underlying39]; rfl) Tryd.underlying38 rfl (u32_wrap_nat ht3) ?_)
      refine L_op rfl (X_idxAP (len := 5) (sz := 1) (b := b3) (o := 0) (k := .i64) (i := 4) (r := 4) Tryd.underlying69 Z39 rfl rfl (by omega) (by omega) rfl ?_)
      refine L_op rfl (X_load (p := (ptr b3 (4))) (v := (.int .u64 (((tkV l 4 : Nat) : Int)))) T39 rfl (hB3.at1 rfl) ?_)
      refine L_op rfl (X_build (built41 (tkQ l)) ?_)
      refine L_op rfl (X_move (v := u) rfl ?_)
      refine L_op0 (X_storeW (b := b1) (ys := ptC (tkQ l)) A41 rfl rfl (ptC_one _) rfl hB1 rfl ?_)
      intro w7 hu7 hb7
      replace hR := hR.upd hu7 fun i hi h => by have hi := hRb _ hi; have h : i = b1 := h; omega
      replace hB3 := hB3.upd hu7 fun h => by have h : b3 = b1 := h; omega
      replace hU := hU.trans (hu7.mono fun i _ h => by have h : i = b1 := h; show n0 ≤ i; omega)
      refine L_op rfl (X_assign (v := u) rfl ?_)
      refine L_op rfl (X_assign (v := (.int .i64 (0))) rfl ?_)
      refine L_nil ?_
      refine T_n ?_
      refine W_ret ?_
      exact BQ_r (End_3 Tryd.results48 (RV_A A41 rfl hb7.atAll rfl) (v2 := u) rfl (v3 := .int .i64 0) rfl ⟨u, by rw [show takeQ l = tkQ l from if_neg (by omega), show takeQE l = 0 from if_neg (by omega)], by rw [show takeQR l = tkR l 5 from if_neg (by omega)]; exact hR, hrb, hU.own hn0⟩)
end Go.Proofs.YtmddmghgkkjbiaaDoor
