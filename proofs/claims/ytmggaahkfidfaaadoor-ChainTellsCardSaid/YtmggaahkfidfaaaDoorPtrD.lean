/-
  The contracts of pointers: Take. (Printed by wip/gen/t08f.py of this repo.)
-/
import Derived.Test.YtmggaahkfidfaaaDoorPtrC
namespace Go.Proofs.YtmggaahkfidfaaaDoor
open Go Go.SL Go.Proofs
set_option linter.unusedVariables false

theorem u16_wrap_nat {n : Nat} (h : n < 65536) : IntKind.u16.wrap (n : Int) = n := by
  have e : (2 : Int) ^ 16 = 65536 := by decide
  simp only [IntKind.wrap, IntKind.signed, IntKind.bits, e, Bool.false_and, Bool.false_eq_true, if_false]
  omega
theorem u32_wrap_nat {n : Nat} (h : n < 4294967296) : IntKind.u32.wrap (n : Int) = n := by
  have e : (2 : Int) ^ 32 = 4294967296 := by decide
  simp only [IntKind.wrap, IntKind.signed, IntKind.bits, e, Bool.false_and, Bool.false_eq_true, if_false]
  omega
def widN (k : Nat) : Nat := wideN (wid.getD k 0)
def tkR (l : List UInt8) : Nat → List UInt8
  | 0 => l
  | k + 1 => restB (tkR l k) (widN k)
def tkV (l : List UInt8) (k : Nat) : Nat := takeV (tkR l k) (widN k)
theorem widN_of {k : Nat} {m : Int} (h : wid[k]? = some m) : widN k = wideN m := by unfold widN; rw [List.getD_eq_getElem?_getD, h]; rfl
theorem takeV_lt (l : List UInt8) (W : Nat) : takeV l W < 256 ^ W := by
  unfold takeV
  split
  · exact Nat.pow_pos (by decide)
  · refine Nat.lt_of_lt_of_le (valB_lt _) (Nat.pow_le_pow_right (by decide) ?_)
    rw [List.length_take]; omega
theorem tkV_lt (l : List UInt8) (k : Nat) : tkV l k < 256 ^ widN k := takeV_lt _ _
theorem tkV_0 (l : List UInt8) : tkV l 0 < 256 := tkV_lt l 0
theorem tkV_1 (l : List UInt8) : tkV l 1 < 65536 := tkV_lt l 1
theorem tkV_2 (l : List UInt8) : tkV l 2 < 65536 := tkV_lt l 2
theorem tkV_3 (l : List UInt8) : tkV l 3 < 4294967296 := tkV_lt l 3
theorem tkV_4 (l : List UInt8) : tkV l 4 < 18446744073709551616 := tkV_lt l 4
def tkC (l : List UInt8) (i : Nat) : List Value := (List.range 5).map fun j => .int .u64 (if j < i then ((tkV l j : Nat) : Int) else 0)
theorem tkC_zero (l : List UInt8) : tkC l 0 = [.int .u64 0, .int .u64 0, .int .u64 0, .int .u64 0, .int .u64 0] := rfl
theorem tkC_all (l : List UInt8) : tkC l 5 = [.int .u64 ((tkV l 0 : Nat) : Int), .int .u64 ((tkV l 1 : Nat) : Int), .int .u64 ((tkV l 2 : Nat) : Int), .int .u64 ((tkV l 3 : Nat) : Int), .int .u64 ((tkV l 4 : Nat) : Int)] := rfl
theorem tkC_size (l : List UInt8) (i : Nat) : (tkC l i).toArray.size = 5 := by unfold tkC; rw [List.size_toArray, List.length_map, List.length_range]
theorem tkC_step {l : List UInt8} {i : Nat} (hi : i < 5) : (tkC l i).toArray.setIfInBounds i (.int .u64 ((tkV l i : Nat) : Int)) = (tkC l (i + 1)).toArray := by
  rw [List.setIfInBounds_toArray]
  congr 1
  refine List.ext_getElem? fun j => ?_
  rw [List.getElem?_set]
  unfold tkC
  simp only [List.getElem?_map, List.length_map, List.length_range]
  by_cases h : i = j
  · subst h
    rw [if_pos rfl, if_pos hi, List.getElem?_range hi]
    simp
  · rw [if_neg h]
    rcases Nat.lt_or_ge j 5 with h5 | h5
    · rw [List.getElem?_range h5]
      simp only [Option.map_some]
      congr 3
      exact propext (by constructor <;> intro _ <;> omega)
    · rw [List.getElem?_eq_none (by rw [List.length_range]; exact h5)]; rfl
def tkQ (l : List UInt8) : Pt := (((tkV l 0 : Nat) : Int), ((tkV l 1 : Nat) : Int), ((tkV l 2 : Nat) : Int), ((tkV l 3 : Nat) : Int), ((tkV l 4 : Nat) : Int))
def ptZ : Pt := (0, 0, 0, 0, 0)
theorem ptZ_ok : PtOk ptZ := by unfold PtOk ptZ; decide
theorem tkQ_ok (l : List UInt8) : PtOk (tkQ l) := by
  have := tkV_0 l; have := tkV_1 l; have := tkV_2 l; have := tkV_3 l; have := tkV_4 l
  unfold PtOk tkQ
  dsimp only
  omega
def takeQ (l : List UInt8) : Pt := if l.length < 17 then ptZ else tkQ l
def takeQR (l : List UInt8) : List UInt8 := if l.length < 17 then l else tkR l 5
def takeQE (l : List UInt8) : Int := if l.length < 17 then 20 else 0
theorem takeQ_ok (l : List UInt8) : PtOk (takeQ l) := by unfold takeQ; split; exact ptZ_ok; exact tkQ_ok l
theorem built24 (a b : Int) : Tryd.prog.built 24 [(0, .int .u16 a), (1, .int .u16 b)] = some #[.int .u16 a, .int .u16 b] := by kernel_rfl
theorem built28 (q : Pt) : Tryd.prog.built 28 [(0, .int .u8 q.1), (1, .agg #[.int .u16 q.2.1, .int .u16 q.2.2.1]), (2, .int .u32 q.2.2.2.1), (3, .int .u64 q.2.2.2.2)] = some (ptC q).toArray := by kernel_rfl

theorem c_ptrTake (b : Value) (l : List UInt8) (w : World) (hb : Rd w 1 b l.length (l.map byteV)) (hT : TabR w) : CT Tryd.prog 24 #[b] w fun v w' => ∃ r, v = .tuple #[.agg (ptC (takeQ l)).toArray, r, .int .i64 (takeQE l)] ∧ Rd w' 1 r (takeQR l).length ((takeQR l).map byteV) ∧ (∀ b', rbk r = some b' → rbk b = some b') ∧ Ext w w' := by
  obtain ⟨n0, hn0⟩ : ∃ n, n = w.heap.size := ⟨_, rfl⟩
  have hU : Upd (fun i => n0 ≤ i) w w := Upd.refl _ _
  have hb_b : ∀ i, rbk b = some i → i < n0 := by rw [hn0]; exact fun i hi => hb.bound (by decide) hi
  refine CT_of Tryd.func24 rfl rfl rfl ?_
  refine W_seq ?_
  refine W_reg ?_
  refine L_op rfl (X_alloc (z := (.agg #[(.int .u8 (0)), (.int .u16 (0)), (.int .u16 (0)), (.int .u32 (0)), (.int .u64 (0))])) (c := #[(.int .u8 (0)), (.int .u16 (0)), (.int .u16 (0)), (.int .u32 (0)), (.int .u64 (0))]) Zv28 rfl ?_)
  intro b1 w1 hn1
  have hbn1 := hn1.num; have hbs1 := hn1.size
  replace hb := hb.ext hn1.ext
  replace hU := hU.trans (Ext.upd hn1.ext)
  replace hT := hT.ext hn1.ext
  have hB1 := hn1.blk
  refine L_op rfl (X_assign (v := (.slice none 0 0)) rfl ?_)
  refine L_op rfl (X_assign (v := (.int .i64 (0))) rfl ?_)
  refine L_nil ?_
  refine T_n ?_
  refine W_seq ?_
  refine W_seq ?_
  refine W_reg ?_
  refine L_op rfl (X_move (v := b) rfl ?_)
  refine L_op rfl (X_len (v := b) (n := l.length) Tryd.underlying22 rfl hb.sv ?_)
  by_cases hc2 : (((l.length : Nat) : Int) : Int) < (17)
  · refine L_op rfl (X_cmp (k := .i64) (a := ((l.length : Nat) : Int)) (b := 17) (r := true) rfl rfl rfl (decide_eq_true (p := ((((l.length : Nat) : Int)) : Int) < ((17) : Int)) (by omega)) ?_)
    refine L_nil ?_
    refine T_n ?_
    refine W_ct rfl ?_
    refine W_seq ?_
    refine W_reg ?_
    refine L_op rfl (X_loadA (p := (ptr b1 (0))) (xs := [(.int .u8 (0)), (.int .u16 (0)), (.int .u16 (0)), (.int .u32 (0)), (.int .u64 (0))]) A28 rfl hB1.atAll rfl ?_)
    refine L_op rfl (X_move (v := b) rfl ?_)
    refine L_op0 (X_storeSameW A28 rfl rfl (ptC_one ptZ) rfl hB1 ?_)
    refine L_op rfl (X_assign (v := b) rfl ?_)
    refine L_op rfl (X_assign (v := (.int .i64 (20))) rfl ?_)
    refine L_nil ?_
    refine T_n ?_
    refine W_ret ?_
    refine T_r ?_
    exact BQ_r (End_3 Tryd.results24 (RV_A A28 rfl hB1.atAll rfl) (v2 := b) rfl (v3 := .int .i64 20) rfl ⟨b, by rw [show takeQ l = ptZ from if_pos (by omega), show takeQE l = 20 from if_pos (by omega)]; rfl, by rw [show takeQR l = l from if_pos (by omega)]; exact hb, fun _ h => h, hU.own hn0⟩)
  · refine L_op rfl (X_cmp (k := .i64) (a := ((l.length : Nat) : Int)) (b := 17) (r := false) rfl rfl rfl (decide_eq_false (p := ((((l.length : Nat) : Int)) : Int) < ((17) : Int)) (by omega)) ?_)
    refine L_nil ?_
    refine T_n ?_
    refine W_cf rfl ?_
    refine W_skip ?_
    refine T_n ?_
    refine W_seq ?_
    refine W_reg ?_
    refine L_op rfl (X_alloc (z := (.agg #[(.int .u64 (0)), (.int .u64 (0)), (.int .u64 (0)), (.int .u64 (0)), (.int .u64 (0))])) (c := #[(.int .u64 (0)), (.int .u64 (0)), (.int .u64 (0)), (.int .u64 (0)), (.int .u64 (0))]) Zv61 rfl ?_)
    intro b3 w3 hn3
    have hbn3 := hn3.num; have hbs3 := hn3.size
    replace hb := hb.ext hn3.ext
    replace hU := hU.trans (Ext.upd hn3.ext)
    replace hT := hT.ext hn3.ext
    replace hB1 := hB1.ext hn3.ext
    have hB3 := hn3.blk
    refine L_nil ?_
    refine T_n ?_
    refine W_seq ?_
    refine W_reg ?_
    refine L_op rfl (X_move (v := b) rfl ?_)
    refine L_op rfl (X_assign (v := b) rfl ?_)
    refine L_nil ?_
    refine T_n ?_
    refine W_seq ?_
    refine W_seq ?_
    refine W_reg ?_
    refine L_op rfl (X_loadA (p := ptr 0 0) (xs := wid.map fun n => Value.int .i64 n) A63 rfl (tab_all hT) rfl ?_)
    refine L_op rfl (X_move (v := (.int .i64 (0))) rfl ?_)
    refine L_nil ?_
    refine T_n ?_
    refine W_block ?_
    refine W_loop (α := Nat × Value) [3, 6, 7, 15, 16, 17, 18, 19, 20, 21, 22, 23, 24, 25, 26, 27, 28] (fun ⟨i, u⟩ => [(15, (.int .i64 (((i : Nat) : Int)))), (3, u)]) (fun ⟨i, u⟩ w_ => i ≤ 5 ∧ Rd w_ 1 u (tkR l i).length ((tkR l i).map byteV) ∧ (∀ b', rbk u = some b' → rbk b = some b') ∧ Blk w_ b3 (tkC l i).toArray 61 ∧ Blk w_ b1 #[.int .u8 0, .int .u16 0, .int .u16 0, .int .u32 0, .int .u64 0] 28 ∧ Upd (fun i => n0 ≤ i) w w_) (fun ⟨i, u⟩ => 5 - i) ⟨rfl, (0, b), ⟨Nat.zero_le _, hb, fun _ h => h, hB3, hB1, hU⟩, Out.refl _ _, ⟨rfl, rfl, trivial⟩⟩ ?_
    rintro ⟨i, u⟩ w4 _ ⟨hil, hR, hrb, hB3, hB1, hU⟩
    have hsz_ := hU.size
    have hRb : ∀ b_, rbk u = some b_ → b_ < n0 := fun b_ h => hb_b _ (hrb _ h)
    refine W_seq ?_
    refine W_reg ?_
    by_cases hc5 : (((i : Nat) : Int) : Int) < (5)
    · refine L_op rfl (X_cmp (k := .i64) (a := ((i : Nat) : Int)) (b := 5) (r := true) rfl rfl rfl (decide_eq_true (p := ((((i : Nat) : Int)) : Int) < ((5) : Int)) (by omega)) ?_)
      have hi : i < 5 := by omega
      obtain ⟨m, hmi, hm1, hm8⟩ := wid_at hi
      refine L_nil ?_
      refine T_n ?_
      refine W_seq ?_
      refine W_ct rfl ?_
      refine W_skip ?_
      refine T_n ?_
      refine W_seq ?_
      refine W_block ?_
      refine W_seq ?_
      refine W_reg ?_
      refine L_op rfl (X_move (v := (.int .i64 (((i : Nat) : Int)))) rfl ?_)
      refine L_op rfl (X_idxV (v := .int .i64 m) (i := ((i : Nat) : Int)) (k := .i64) (cs := (wid.map fun n => Value.int .i64 n).toArray) Tryd.underlying63 T3 rfl rfl (by omega) (by omega) (by rw [Int.toNat_natCast, List.getElem?_toArray, List.getElem?_map, hmi]; rfl) ?_)
      refine L_op rfl (X_assign (v := (.int .i64 (((i : Nat) : Int)))) rfl ?_)
      refine L_op rfl (X_assign (v := (.int .i64 (m))) rfl ?_)
      refine L_nil ?_
      refine T_n ?_
      refine W_reg ?_
      refine L_op rfl (X_move (v := (.int .i64 (((i : Nat) : Int)))) rfl ?_)
      refine L_op rfl (X_move (v := u) rfl ?_)
      refine L_op rfl (X_move (v := (.int .i64 (m))) rfl ?_)
      refine L_op rfl (X_fn (vs := [u, (.int .i64 (m))]) en37 rfl (CT.mono (c_take u (tkR l i) m _ hR) ?_))
      rintro _ w6 ⟨r6, rfl, hR6, hrb6, hu6⟩
      have hz6 := hu6.size
      rw [← widN_of hmi] at hR6 ⊢
      replace hR6 : Rd w6 1 r6 (tkR l (i + 1)).length ((tkR l (i + 1)).map byteV) := hR6
      replace hB3 := hB3.ext hu6
      replace hB1 := hB1.ext hu6
      replace hU := hU.trans (Ext.upd hu6)
      have hR6_b : ∀ b_, rbk r6 = some b_ → b_ < n0 := fun b_ h => hRb _ (hrb6 _ h)
      refine L_op rfl (X_move (v := (.tuple #[(.int .u64 (((takeV (tkR l i) (widN i) : Nat) : Int))), r6, (.int .i64 ((if (tkR l i).length < widN i then 20 else 0)))])) rfl ?_)
      refine L_op rfl (X_extract (l := [(.int .u64 (((takeV (tkR l i) (widN i) : Nat) : Int))), r6, (.int .i64 ((if (tkR l i).length < widN i then 20 else 0)))]) (v := (.int .u64 (((takeV (tkR l i) (widN i) : Nat) : Int)))) rfl rfl ?_)
      refine L_op rfl (X_extract (l := [(.int .u64 (((takeV (tkR l i) (widN i) : Nat) : Int))), r6, (.int .i64 ((if (tkR l i).length < widN i then 20 else 0)))]) (v := r6) rfl rfl ?_)
      refine L_op rfl (X_extract (l := [(.int .u64 (((takeV (tkR l i) (widN i) : Nat) : Int))), r6, (.int .i64 ((if (tkR l i).length < widN i then 20 else 0)))]) (v := (.int .i64 ((if (tkR l i).length < widN i then 20 else 0)))) rfl rfl ?_)
      refine L_op rfl (X_idxAP (len := 5) (sz := 1) (b := b3) (o := 0) (k := .i64) (i := ((i : Nat) : Int)) (r := (((i : Nat) : Int) : Int).toNat) Tryd.underlying61 Z26 rfl rfl (by omega) (by omega) (by omega) ?_)
      refine L_op0 (X_store (b := b3) (o := i) T26 (by show ptr _ _ = ptr _ _; rw [Int.toNat_natCast]) rfl rfl hB3 (by rw [tkC_size]; exact hi) ?_)
      intro w5 hu5 hb5
      have hz5 := hu5.size
      replace hb5 : Blk w5 b3 ((tkC l i).toArray.setIfInBounds i (.int .u64 ((tkV l i : Nat) : Int))) 61 := hb5
      rw [tkC_step hi] at hb5
      replace hB1 := hB1.upd hu5 fun h => by have h : b1 = b3 := h; omega
      replace hU := hU.trans (hu5.mono fun i _ h => by have h : i = b3 := h; show n0 ≤ i; omega)
      replace hR6 := hR6.upd hu5 fun i hi h => by have hi := hR6_b _ hi; have h : i = b3 := h; omega
      replace hB3 := hb5
      refine L_op rfl (X_assign (v := r6) rfl ?_)
      refine L_nil ?_
      refine B_n ?_
      refine T_n ?_
      refine W_reg ?_
      refine L_op rfl (X_arith (k := .i64) (a := ((i : Nat) : Int)) (b := 1) (r := ((i + 1 : Nat) : Int)) rfl rfl rfl (iadd64 (by omega) (by omega) (by omega)) ?_)
      refine L_op rfl (X_move (v := (.int .i64 (((i + 1 : Nat) : Int)))) rfl ?_)
      refine L_nil ?_
      refine T_n ?_
      exact ⟨rfl, (i + 1, r6), ⟨⟨hi, hR6, fun b_ hb_ => hrb _ (hrb6 _ hb_), hB3, hB1, hU⟩, (by show 5 - (i + 1) < 5 - i; omega)⟩, (Out.mk rfl), ⟨rfl, rfl, trivial⟩⟩
    · refine L_op rfl (X_cmp (k := .i64) (a := ((i : Nat) : Int)) (b := 5) (r := false) rfl rfl rfl (decide_eq_false (p := ((((i : Nat) : Int)) : Int) < ((5) : Int)) (by omega)) ?_)
      obtain rfl : i = 5 := by omega
      rw [tkC_all] at hB3
      have ht0 := tkV_0 l
      have ht1 := tkV_1 l
      have ht2 := tkV_2 l
      have ht3 := tkV_3 l
      have ht4 := tkV_4 l
      refine L_nil ?_
      refine T_n ?_
      refine W_seq ?_
      refine W_cf rfl ?_
      refine W_exit ?_
      refine T_e ?_
      refine T_e ?_
      refine B_x ?_
      refine T_n ?_
      refine W_seq ?_
      refine W_reg ?_
      refine L_op rfl (X_idxAP (len := 5) (sz := 1) (b := b3) (o := 0) (k := .i64) (i := 0) (r := 0) Tryd.underlying61 Z26 rfl rfl (by omega) (by omega) rfl ?_)
      refine L_op rfl (X_load (p := (ptr b3 (0))) (v := (.int .u64 (((tkV l 0 : Nat) : Int)))) T26 rfl (hB3.at1 rfl) ?_)
      refine L_op rfl (X_convInt (k := .u64) (a := ((tkV l 0 : Nat) : Int)) (r := ((tkV l 0 : Nat) : Int)) (by rw [Tryd.underlying26]; rfl) Tryd.underlying5 rfl (u8_wrap_nat ht0) ?_)
      refine L_op rfl (X_idxAP (len := 5) (sz := 1) (b := b3) (o := 0) (k := .i64) (i := 1) (r := 1) Tryd.underlying61 Z26 rfl rfl (by omega) (by omega) rfl ?_)
      refine L_op rfl (X_load (p := (ptr b3 (1))) (v := (.int .u64 (((tkV l 1 : Nat) : Int)))) T26 rfl (hB3.at1 rfl) ?_)
      refine L_op rfl (X_convInt (k := .u64) (a := ((tkV l 1 : Nat) : Int)) (r := ((tkV l 1 : Nat) : Int)) (by rw [Tryd.underlying26]; rfl) Tryd.underlying23 rfl (u16_wrap_nat ht1) ?_)
      refine L_op rfl (X_idxAP (len := 5) (sz := 1) (b := b3) (o := 0) (k := .i64) (i := 2) (r := 2) Tryd.underlying61 Z26 rfl rfl (by omega) (by omega) rfl ?_)
      refine L_op rfl (X_load (p := (ptr b3 (2))) (v := (.int .u64 (((tkV l 2 : Nat) : Int)))) T26 rfl (hB3.at1 rfl) ?_)
      refine L_op rfl (X_convInt (k := .u64) (a := ((tkV l 2 : Nat) : Int)) (r := ((tkV l 2 : Nat) : Int)) (by rw [Tryd.underlying26]; rfl) Tryd.underlying23 rfl (u16_wrap_nat ht2) ?_)
      refine L_op rfl (X_build (built24 _ _) ?_)
      refine L_op rfl (X_idxAP (len := 5) (sz := 1) (b := b3) (o := 0) (k := .i64) (i := 3) (r := 3) Tryd.underlying61 Z26 rfl rfl (by omega) (by omega) rfl ?_)
      refine L_op rfl (X_load (p := (ptr b3 (3))) (v := (.int .u64 (((tkV l 3 : Nat) : Int)))) T26 rfl (hB3.at1 rfl) ?_)
      refine L_op rfl (X_convInt (k := .u64) (a := ((tkV l 3 : Nat) : Int)) (r := ((tkV l 3 : Nat) : Int)) (by rw [Tryd.underlying26]; rfl) Tryd.underlying25 rfl (u32_wrap_nat ht3) ?_)
      refine L_op rfl (X_idxAP (len := 5) (sz := 1) (b := b3) (o := 0) (k := .i64) (i := 4) (r := 4) Tryd.underlying61 Z26 rfl rfl (by omega) (by omega) rfl ?_)
      refine L_op rfl (X_load (p := (ptr b3 (4))) (v := (.int .u64 (((tkV l 4 : Nat) : Int)))) T26 rfl (hB3.at1 rfl) ?_)
      refine L_op rfl (X_build (built28 (tkQ l)) ?_)
      refine L_op rfl (X_move (v := u) rfl ?_)
      refine L_op0 (X_storeW (b := b1) (ys := ptC (tkQ l)) A28 rfl rfl (ptC_one _) rfl hB1 rfl ?_)
      intro w7 hu7 hb7
      replace hR := hR.upd hu7 fun i hi h => by have hi := hRb _ hi; have h : i = b1 := h; omega
      replace hB3 := hB3.upd hu7 fun h => by have h : b3 = b1 := h; omega
      replace hU := hU.trans (hu7.mono fun i _ h => by have h : i = b1 := h; show n0 ≤ i; omega)
      refine L_op rfl (X_assign (v := u) rfl ?_)
      refine L_op rfl (X_assign (v := (.int .i64 (0))) rfl ?_)
      refine L_nil ?_
      refine T_n ?_
      refine W_ret ?_
      exact BQ_r (End_3 Tryd.results24 (RV_A A28 rfl hb7.atAll rfl) (v2 := u) rfl (v3 := .int .i64 0) rfl ⟨u, by rw [show takeQ l = tkQ l from if_neg (by omega), show takeQE l = 0 from if_neg (by omega)], by rw [show takeQR l = tkR l 5 from if_neg (by omega)]; exact hR, hrb, hU.own hn0⟩)
end Go.Proofs.YtmggaahkfidfaaaDoor
