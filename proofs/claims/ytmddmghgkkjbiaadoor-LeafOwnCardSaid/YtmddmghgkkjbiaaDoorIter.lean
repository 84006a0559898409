/-
  The contracts of leaves: the iterator of items. (Printed by wip/gen/t06i.py of this repo.)
-/
import Derived.Test.YtmddmghgkkjbiaaDoorReader
namespace Go.Proofs.YtmddmghgkkjbiaaDoor
open Go Go.SL Go.Proofs
set_option linter.unusedVariables false

theorem drop_head {α : Type} {l m : List α} {i : Nat} {x : α} (h : x :: m = l.drop i) : i < l.length ∧ l[i]? = some x ∧ m = l.drop (i + 1) := by
  have hi : i < l.length := by
    rcases Nat.lt_or_ge i l.length with h1 | h1
    · exact h1
    · rw [List.drop_of_length_le h1] at h; cases h
  rw [List.drop_eq_getElem_cons hi] at h
  injection h with h1 h2
  exact ⟨hi, by rw [List.getElem?_eq_getElem hi, h1], h2⟩
theorem drop_none {α : Type} {l : List α} {i : Nat} (h : [] = l.drop i) (hi : i ≤ l.length) : i = l.length := by
  have := congrArg List.length h
  rw [List.length_drop, List.length_nil] at this
  omega
theorem itC_one {e : IE} (h1 : e.1.oneCell' = true) (h2 : e.2.1.oneCell' = true) : ∀ u ∈ itC e, u.oneCell' = true := LT.one e fun s hs => by
  have h : s = (e.1, e.2.2.1) ∨ s = (e.2.1, e.2.2.2.1) := by simpa [LT] using hs
  rcases h with rfl | rfl
  · exact h1
  · exact h2
theorem built43 (a : Option Addr) (n c : Nat) : Tryd.prog.built 43 [(0, .slice a n c)] = some (itC (.slice a n c, .slice none 0 0, [], [], ptZ, 0)).toArray := by kernel_rfl
theorem built43' {v : Value} {n : Nat} (h : SV v n) (k : List UInt8) : Tryd.prog.built 43 [(0, v)] = some (itC (v, .slice none 0 0, k, [], ptZ, 0)).toArray := by
  obtain ⟨a, c, rfl, _⟩ := h
  exact built43 a n c
theorem built55 (a : Option Addr) (n c : Nat) : Tryd.prog.built 55 [(0, .slice a n c)] = some #[.slice a n c, .int .i64 0] := by kernel_rfl
theorem built55' {v : Value} {n : Nat} (h : SV v n) : Tryd.prog.built 55 [(0, v)] = some #[v, .int .i64 0] := by
  obtain ⟨a, c, rfl, _⟩ := h
  exact built55 a n c
theorem rdN_lt {st : RS} {n : Nat} {s : RS} (h : rdN st 2 = (n, s)) : n < 65536 := by
  have hn : (rdN st 2).1 < 65536 := by
    unfold rdN
    split
    · exact takeV_lt st.1 (wideN 2)
    · exact (by decide : 0 < 65536)
  rw [h] at hn; exact hn
/-- what a round over items is handed -/
def YI (L : List ID) : Nat → List Value → World → World → Prop := fun k x W0 W => ∃ e : IE, x = [.agg (itC e).toArray] ∧ L[k]? = some e.2.2 ∧ BOwn W 5 W0.heap.size W.heap.size (e.1, e.2.2.1) ∧ BOwn W 5 W0.heap.size W.heap.size (e.2.1, e.2.2.2.1)
/-- the reader has not failed, or has failed as it does in the end -/
def GI (br : Nat) (E : Int) (W : World) : Prop := ∃ (r : Value) (e : Int), Blk W br #[r, .int .i64 e] 55 ∧ (e = 0 ∨ e = E)
theorem GI.upd {br : Nat} {E : Int} {W W' : World} (h : GI br E W) (hu : Upd (fun b => ¬ b = br) W W') : GI br E W' := by
  obtain ⟨r, e, hB, he⟩ := h
  exact ⟨r, e, hB.upd hu fun h => h rfl, he⟩

theorem c_items (br : Nat) (m : Int) (w : World) : CT Tryd.prog 26 #[(ptr br (0)), (.int .i64 (m))] w fun v w' => v = .func (.func 45) #[] #[ptr (w.heap.size + 1) 0, ptr w.heap.size 0] ∧ Blk w' w.heap.size #[ptr br 0] 53 ∧ Blk w' (w.heap.size + 1) #[.int .i64 m] 3 ∧ Ext w w' ∧ w'.heap.size = w.heap.size + 2 := by
  obtain ⟨n0, hn0⟩ : ∃ n, n = w.heap.size := ⟨_, rfl⟩
  have hU : Upd (fun i => n0 ≤ i) w w := Upd.refl _ _
  refine CT_of Tryd.func26 rfl rfl rfl ?_
  refine W_seq ?_
  refine W_reg ?_
  refine L_op rfl (X_box (v := (ptr br (0))) (c := #[(ptr br (0))]) rfl rfl ?_)
  intro b1 w1 hn1
  have hbn1 := hn1.num; have hbs1 := hn1.size
  replace hU := hU.trans (Ext.upd hn1.ext)
  have hB1 := hn1.blk
  refine L_op rfl (X_box (v := (.int .i64 (m))) (c := #[(.int .i64 (m))]) rfl rfl ?_)
  intro b2 w2 hn2
  have hbn2 := hn2.num; have hbs2 := hn2.size
  replace hU := hU.trans (Ext.upd hn2.ext)
  replace hB1 := hB1.ext hn2.ext
  have hB2 := hn2.blk
  refine L_op rfl (X_assign (v := .nilFunc) rfl ?_)
  refine L_nil ?_
  refine T_n ?_
  refine W_seq ?_
  refine W_reg ?_
  refine L_op rfl (X_makeFunc (vs := [ptr b2 0, ptr b1 0]) rfl ?_)
  refine L_op rfl (X_assign (v := (.func (.func 45) #[] #[ptr b2 0, ptr b1 0])) rfl ?_)
  refine L_nil ?_
  refine T_n ?_
  refine W_ret ?_
  exact BQ_r (End_1 Tryd.results26 (v := .func (.func 45) #[] #[ptr b2 0, ptr b1 0]) rfl ⟨by rw [hbn2, hbs1, hbn1], hbn1 ▸ hB1, by rw [← hbn1]; exact (show b2 = b1 + 1 by omega) ▸ hB2, hU.own hn0, by omega⟩)

set_option maxRecDepth 10000 in
set_option maxHeartbeats 2000000 in
theorem c_items1 (r0 : Value) (b0 : List UInt8) (N xr xm br : Nat) (L : List ID) (fin : RS) (w : World) (hN : N < 4294967296) (hL : L = (itemsI (b0, 0) N).1) (hF : fin = (itemsI (b0, 0) N).2) (hM : Blk w xm #[.int .i64 ((N : Nat) : Int)] 3) (hP : Blk w xr #[ptr br 0] 53) (hB : Blk w br #[r0, .int .i64 0] 55) (hR : Rd w 1 r0 b0.length (b0.map byteV)) (hlt : ∀ b, rbk r0 = some b → b < br) (hbr : br < xr) (hx : xm = xr + 1) (hb0 : 0 < br) (hT : TabR w) :
    IterV Tryd.prog 45 [ptr xm 0, ptr xr 0] L.length (YI L) w (fun b => b < w.heap.size) (fun b => b = br) (GI br fin.2) := by
  subst hL
  subst hF
  obtain ⟨L, hL⟩ : ∃ x, x = (itemsI (b0, 0) N).1 := ⟨_, rfl⟩
  obtain ⟨fin, hF⟩ : ∃ x, x = (itemsI (b0, 0) N).2 := ⟨_, rfl⟩
  rw [← hL, ← hF]
  intro lp J Jx W Db hu0 hDb hJs hJxs hy hJ0
  obtain ⟨n0, hn0⟩ : ∃ n, n = w.heap.size := ⟨_, rfl⟩
  have hxm0 := hM.lt; have hxr0 := hP.lt; have htab := tab_pos hT
  rw [← hn0] at hxm0 hxr0 htab
  have hbr0 := hB.lt
  have hM := hM.upd hu0 fun h => h (by omega)
  have hP := hP.upd hu0 fun h => h (by omega)
  have hB := hB.upd hu0 fun h => h (by omega)
  have hR := hR.upd hu0 fun i hi h => h (by have := hlt i hi; omega)
  have hT := hT.upd hu0 fun i h1 h2 h => h (by omega)
  rw [← hn0] at hDb
  show CT Tryd.prog 45 #[.func (.yield lp) #[] #[], ptr xm 0, ptr xr 0] W _
  refine CT_of Tryd.func45 rfl rfl rfl ?_
  refine W_seq ?_
  refine W_reg ?_
  refine L_op rfl (X_load (p := (ptr xm (0))) (v := (.int .i64 (((N : Nat) : Int)))) T3 rfl (hM.at1 rfl) ?_)
  refine L_op rfl (X_move (v := (.int .i64 (0))) rfl ?_)
  refine L_nil ?_
  refine T_n ?_
  refine W_block ?_
  refine W_loop (α := Nat × Value × List UInt8) [4, 6, 7, 8, 9, 10, 11, 12, 13, 14, 15, 16, 17, 18, 19, 20, 21, 22, 23, 24, 25, 26, 27, 28, 29, 30, 31, 32, 33, 34, 35, 36, 37, 38, 39, 40, 41, 42, 43, 44, 45, 46, 47, 48, 49, 50, 51, 52, 53, 54, 55, 56, 57, 58, 59] (fun ⟨i, r, bi⟩ => [(6, (.int .i64 (((i : Nat) : Int))))]) (fun ⟨i, r, bi⟩ w_ => i ≤ N ∧ i ≤ L.length ∧ J i w_ ∧ (itemsI (bi, 0) (N - i)).1 = L.drop i ∧ (itemsI (bi, 0) (N - i)).2 = fin ∧ Blk w_ xm #[.int .i64 ((N : Nat) : Int)] 3 ∧ Blk w_ xr #[ptr br 0] 53 ∧ Blk w_ br #[r, .int .i64 0] 55 ∧ Rd w_ 1 r bi.length (bi.map byteV) ∧ (∀ b, rbk r = some b → rbk r0 = some b) ∧ TabR w_) (fun ⟨i, r, bi⟩ => N - i) ⟨rfl, (0, r0, b0), ⟨Nat.zero_le _, Nat.zero_le _, hJ0, hL.symm, hF.symm, hM, hP, hB, hR, fun b hb => hb, hT⟩, Out.refl _ _, ⟨rfl, trivial⟩⟩ ?_
  rintro ⟨i, r, bi⟩ w1 _ ⟨hiN, hil, hJ, hps1, hps2, hM, hP, hB, hR, hrb, hT⟩
  have hX := Upd.refl (fun b => b = br) w1
  have hr_b : ∀ b, rbk r = some b → b < br := fun b hb => hlt b (hrb b hb)
  have hxm := hM.lt; have hxr := hP.lt
  refine W_seq ?_
  refine W_reg ?_
  by_cases hc2 : (((i : Nat) : Int) : Int) < (((N : Nat) : Int))
  · refine L_op rfl (X_cmp (k := .i64) (a := ((i : Nat) : Int)) (b := ((N : Nat) : Int)) (r := true) rfl rfl rfl (decide_eq_true (p := ((((i : Nat) : Int)) : Int) < ((((N : Nat) : Int)) : Int)) (by omega)) ?_)
    have hi : i < N := by omega
    rw [show N - i = (N - (i + 1)) + 1 by omega] at hps1 hps2
    refine L_nil ?_
    refine T_n ?_
    refine W_seq ?_
    refine W_ct rfl ?_
    refine W_skip ?_
    refine T_n ?_
    refine W_seq ?_
    refine W_block ?_
    refine W_seq ?_
    refine W_reg ?_
    refine L_op rfl (X_load (p := (ptr xr (0))) (v := (ptr br (0))) T53 rfl (hP.at1 rfl) ?_)
    obtain ⟨⟨K1, B1, E1⟩, hk1⟩ : ∃ x, rdB (bi, 0) 8 = x := ⟨_, rfl⟩
    obtain ⟨sk1, hsk1⟩ : ∃ n, n = w1.heap.size := ⟨_, rfl⟩
    refine L_op rfl (X_fn (vs := [(ptr br (0)), (.int .i64 (8))]) en46 rfl (CT.mono (c_rbytes br r _ _ 8 K1 B1 E1 _ hB hR hr_b hk1) ?_))
    rintro v1 w3 ⟨r1, hV1, hB9, hR9, hrb1, hu3⟩
    have hz3 := hu3.size
    rw [← hsk1] at hV1
    replace hM := hM.upd hu3 fun h => by have h : xm = br := h; omega
    replace hP := hP.upd hu3 fun h => by have h : xr = br := h; omega
    replace hT := hT.upd hu3 fun i h1 h2 h => by have h : i = br := h; omega
    replace hX := hX.comp hu3 (fun _ _ h => h) fun i hi h => by have h : i = br := h; show i = br; omega
    replace hB := hB9; replace hR := hR9; replace hr_b : ∀ b, rbk r1 = some b → b < br := fun b hb => hr_b b (hrb1 b hb); replace hrb : ∀ b, rbk r1 = some b → rbk r0 = some b := fun b hb => hrb b (hrb1 b hb)
    have hV1_c : ∀ b, obk v1 = some b → sk1 ≤ b ∧ b < w3.heap.size := fun b hb => hV1.lt hb
    refine L_op rfl (X_build (built43' hV1.sv K1) ?_)
    refine L_op rfl (X_alloc (z := (.agg #[(.slice none 0 0), (.slice none 0 0), (.int .u8 (0)), (.int .u16 (0)), (.int .u16 (0)), (.int .u32 (0)), (.int .u64 (0)), (.int .u16 (0))])) (c := #[(.slice none 0 0), (.slice none 0 0), (.int .u8 (0)), (.int .u16 (0)), (.int .u16 (0)), (.int .u32 (0)), (.int .u64 (0)), (.int .u16 (0))]) Zv43 rfl ?_)
    intro b4 w4 hn4
    have hbn4 := hn4.num; have hbs4 := hn4.size
    replace hM := hM.ext hn4.ext
    replace hP := hP.ext hn4.ext
    replace hT := hT.ext hn4.ext
    replace hX := hX.trans (Ext.upd hn4.ext)
    replace hB := hB.ext hn4.ext
    replace hR := hR.ext hn4.ext
    replace hV1 := hV1.ext hn4.ext
    have hB4 := hn4.blk
    obtain ⟨bx, hbx⟩ : ∃ n, n = b4 := ⟨_, rfl⟩
    rw [← hbx] at hB4 ⊢
    have hBX := hB4
    refine L_op0 (X_storeW (b := bx) (ys := itC (v1, .slice none 0 0, K1, [], ptZ, 0)) A43 rfl rfl (itC_one hV1.sv.one rfl) rfl hBX rfl ?_)
    intro w3 hu3 hb3
    have hz3 := hu3.size
    replace hM := hM.upd hu3 fun h => by have h : xm = bx := h; omega
    replace hP := hP.upd hu3 fun h => by have h : xr = bx := h; omega
    replace hT := hT.upd hu3 fun i h1 h2 h => by have h : i = bx := h; omega
    replace hX := hX.comp hu3 (fun _ _ h => h) fun i hi h => by have h : i = bx := h; show i = br; omega
    replace hB := hB.upd hu3 fun h => by have h : br = bx := h; omega
    replace hR := hR.upd hu3 fun i hi h => by have hi := hr_b _ hi; have h : i = bx := h; omega
    replace hV1 := hV1.upd hu3 fun i hi h => by have hi := hV1_c _ hi; have h : i = bx := h; omega
    replace hBX : Blk w3 bx #[v1, (.slice none 0 0), (.int .u8 (ptZ.1)), (.int .u16 (ptZ.2.1)), (.int .u16 (ptZ.2.2.1)), (.int .u32 (ptZ.2.2.2.1)), (.int .u64 (ptZ.2.2.2.2)), (.int .u16 (0))] 43 := hb3
    refine L_nil ?_
    refine T_n ?_
    refine W_seq ?_
    refine W_seq ?_
    refine W_reg ?_
    refine L_op rfl (X_load (p := (ptr xr (0))) (v := (ptr br (0))) T53 rfl (hP.at1 rfl) ?_)
    obtain ⟨⟨K2, B2, E2⟩, hk2⟩ : ∃ x, rdN (B1, E1) 1 = x := ⟨_, rfl⟩
    obtain ⟨sk2, hsk2⟩ : ∃ n, n = w3.heap.size := ⟨_, rfl⟩
    refine L_op rfl (X_fn (vs := [(ptr br (0)), (.int .i64 (1))]) en47 rfl (CT.mono (c_rnum br r1 _ _ 1 K2 B2 E2 _ hB hR hr_b hk2) ?_))
    rintro _ w5 ⟨r2, rfl, hB9, hR9, hrb2, hu5⟩
    have hz5 := hu5.size
    replace hM := hM.upd hu5 fun h => by have h : xm = br := h; omega
    replace hP := hP.upd hu5 fun h => by have h : xr = br := h; omega
    replace hT := hT.upd hu5 fun i h1 h2 h => by have h : i = br := h; omega
    replace hX := hX.comp hu5 (fun _ _ h => h) fun i hi h => by have h : i = br := h; show i = br; omega
    replace hV1 := hV1.upd hu5 fun i hi h => by have hi := hV1_c _ hi; have h : i = br := h; omega
    replace hBX := hBX.upd hu5 fun h => by have h : bx = br := h; omega
    replace hB := hB9; replace hR := hR9; replace hr_b : ∀ b, rbk r2 = some b → b < br := fun b hb => hr_b b (hrb2 b hb); replace hrb : ∀ b, rbk r2 = some b → rbk r0 = some b := fun b hb => hrb b (hrb2 b hb)
    refine L_nil ?_
    refine T_n ?_
    refine W_block ?_
    refine W_seq ?_
    refine W_reg ?_
    by_cases hc6 : (((K2 : Nat) : Int) : Int) = (0)
    · refine L_op rfl (X_cmp (k := .u64) (a := ((K2 : Nat) : Int)) (b := 0) (r := true) rfl rfl rfl (decide_eq_true (p := ((((K2 : Nat) : Int)) : Int) = ((0) : Int)) (by omega)) ?_)
      refine L_op rfl (X_assign (v := (.bool (true))) rfl ?_)
      refine L_nil ?_
      refine T_n ?_
      refine W_ct rfl ?_
      refine W_reg ?_
      refine L_op rfl (X_load (p := (ptr xr (0))) (v := (ptr br (0))) T53 rfl (hP.at1 rfl) ?_)
      obtain ⟨⟨K3, B3, E3⟩, hk3⟩ : ∃ x, rdB (B2, E2) 16 = x := ⟨_, rfl⟩
      obtain ⟨sk3, hsk3⟩ : ∃ n, n = w5.heap.size := ⟨_, rfl⟩
      refine L_op rfl (X_fn (vs := [(ptr br (0)), (.int .i64 (16))]) en46 rfl (CT.mono (c_rbytes br r2 _ _ 16 K3 B3 E3 _ hB hR hr_b hk3) ?_))
      rintro v3 w7 ⟨r3, hV3, hB9, hR9, hrb3, hu7⟩
      have hz7 := hu7.size
      rw [← hsk3] at hV3
      replace hM := hM.upd hu7 fun h => by have h : xm = br := h; omega
      replace hP := hP.upd hu7 fun h => by have h : xr = br := h; omega
      replace hT := hT.upd hu7 fun i h1 h2 h => by have h : i = br := h; omega
      replace hX := hX.comp hu7 (fun _ _ h => h) fun i hi h => by have h : i = br := h; show i = br; omega
      replace hV1 := hV1.upd hu7 fun i hi h => by have hi := hV1_c _ hi; have h : i = br := h; omega
      replace hBX := hBX.upd hu7 fun h => by have h : bx = br := h; omega
      replace hB := hB9; replace hR := hR9; replace hr_b : ∀ b, rbk r3 = some b → b < br := fun b hb => hr_b b (hrb3 b hb); replace hrb : ∀ b, rbk r3 = some b → rbk r0 = some b := fun b hb => hrb b (hrb3 b hb)
      have hV3_c : ∀ b, obk v3 = some b → sk3 ≤ b ∧ b < w7.heap.size := fun b hb => hV3.lt hb
      refine L_op rfl (X_fldP (b := bx) (o := 0) (r := 1) Fd43_1 rfl rfl ?_)
      refine L_op0 (X_store (b := bx) (o := 1) T35 rfl rfl (hV3.sv.one) hBX (by show (1 : Nat) < 8; decide) ?_)
      intro w8 hu8 hb8
      have hz8 := hu8.size
      replace hM := hM.upd hu8 fun h => by have h : xm = bx := h; omega
      replace hP := hP.upd hu8 fun h => by have h : xr = bx := h; omega
      replace hT := hT.upd hu8 fun i h1 h2 h => by have h : i = bx := h; omega
      replace hX := hX.comp hu8 (fun _ _ h => h) fun i hi h => by have h : i = bx := h; show i = br; omega
      replace hV1 := hV1.upd hu8 fun i hi h => by have hi := hV1_c _ hi; have h : i = bx := h; omega
      replace hB := hB.upd hu8 fun h => by have h : br = bx := h; omega
      replace hR := hR.upd hu8 fun i hi h => by have hi := hr_b _ hi; have h : i = bx := h; omega
      replace hV3 := hV3.upd hu8 fun i hi h => by have hi := hV3_c _ hi; have h : i = bx := h; omega
      replace hBX : Blk w8 bx #[v1, v3, (.int .u8 (ptZ.1)), (.int .u16 (ptZ.2.1)), (.int .u16 (ptZ.2.2.1)), (.int .u32 (ptZ.2.2.2.1)), (.int .u64 (ptZ.2.2.2.2)), (.int .u16 (0))] 43 := hb8
      refine L_nil ?_
      refine B_n ?_
      refine T_n ?_
      refine W_seq ?_
      have hst : stepI (bi, 0) = ((K1, K3, ptZ, 0), (B3, E3)) := by unfold stepI; rw [hk1]; dsimp only; rw [hk2]; dsimp only; rw [if_pos (show K2 = 0 by omega), hk3]
      refine W_reg ?_
      refine L_op rfl (X_load (p := (ptr xr (0))) (v := (ptr br (0))) T53 rfl (hP.at1 rfl) ?_)
      refine L_op rfl (X_nilCheck (v := (ptr br (0))) rfl ⟨_, _, rfl⟩ ?_)
      refine L_op rfl (X_fldP (b := br) (o := 0) (r := 1) Fd55_1 rfl rfl ?_)
      refine L_op rfl (X_load (p := (ptr br (1))) (v := (.int .i64 (E3))) T27 rfl (hB.at1 rfl) ?_)
      by_cases hc9 : (E3 : Int) ≠ (0)
      · refine L_op rfl (X_cmp (k := .i64) (a := E3) (b := 0) (r := true) rfl rfl rfl (decide_eq_true (p := ((E3) : Int) ≠ ((0) : Int)) (by omega)) ?_)
        refine L_op rfl (X_move (v := (.bool (true))) rfl ?_)
        refine L_gn (dj := 53) (t := true) rfl rfl rfl rfl ?_
        refine L_gn (dj := 53) (t := true) rfl rfl rfl rfl ?_
        refine L_gn (dj := 53) (t := true) rfl rfl rfl rfl ?_
        refine L_gn (dj := 53) (t := true) rfl rfl rfl rfl ?_
        refine L_op rfl (X_pick (t := true) (v := (.bool (true))) rfl rfl ?_)
        refine L_nil ?_
        refine T_n ?_
        refine W_ct rfl ?_
        refine W_ret ?_
        refine B_r ?_
        refine T_r ?_
        refine T_r ?_
        refine B_r ?_
        rw [items_no hst (by show E3 ≠ 0; omega)] at hps1 hps2
        have hin := drop_none hps1 hil
        have hJ9 := hJs _ _ _ hJ hX ⟨_, _, hB, .inr (by rw [← hps2])⟩
        exact BQ_r (End_0 Tryd.results45 (.inl (hin ▸ hJ9)))
      · refine L_op rfl (X_cmp (k := .i64) (a := E3) (b := 0) (r := false) rfl rfl rfl (decide_eq_false (p := ((E3) : Int) ≠ ((0) : Int)) (by omega)) ?_)
        refine L_op rfl (X_move (v := (.bool (false))) rfl ?_)
        refine L_gy (dj := 53) rfl rfl rfl (X_move (v := (.func (.yield lp) #[] #[])) rfl ?_)
        refine L_gy (dj := 53) rfl rfl rfl (X_loadA (p := (ptr bx (0))) (xs := [v1, v3, (.int .u8 (ptZ.1)), (.int .u16 (ptZ.2.1)), (.int .u16 (ptZ.2.2.1)), (.int .u32 (ptZ.2.2.2.1)), (.int .u64 (ptZ.2.2.2.2)), (.int .u16 (0))]) A43 rfl hBX.atAll rfl ?_)
        have hE0 : E3 = 0 := by omega
        rw [hE0] at hst hB
        rw [items_yes hst rfl] at hps1 hps2
        obtain ⟨hil2, hat, hps1⟩ := drop_head hps1
        have hYI : YI L i [.agg (itC ((v1, v3, (K1, K3, ptZ, 0)) : IE)).toArray] w1 w8 := ⟨((v1, v3, (K1, K3, ptZ, 0)) : IE), rfl, hat, ⟨hV1.more (by omega), fun b hb => (hV1.lt hb).2⟩, ⟨hV3.more (by omega), fun b hb => (hV3.lt hb).2⟩⟩
        refine L_gy (dj := 53) rfl rfl rfl (X_yield (vs := [.agg (itC ((v1, v3, (K1, K3, ptZ, 0)) : IE)).toArray]) rfl rfl (YieldC.mono (hy i _ _ _ ⟨hil2, hYI⟩ hJ hX ⟨_, 0, hB, .inl rfl⟩) ?_))
        rintro _ W2 (⟨rfl, hJ2, hu⟩ | ⟨rfl, hJx⟩)
        · replace hM := hM.upd hu fun h => hDb _ h (by omega)
          replace hP := hP.upd hu fun h => hDb _ h (by omega)
          replace hB := hB.upd hu fun h => hDb _ h (by omega)
          replace hR := hR.upd hu fun i hi h => hDb _ h (by have := hr_b i hi; omega)
          replace hT := hT.upd hu fun i h1 h2 h => hDb _ h (by omega)
          refine L_gy (dj := 53) rfl rfl rfl (X_not (b := true) (r := false) rfl rfl ?_)
          refine L_op rfl (X_pick (t := false) (v := (.bool (false))) rfl rfl ?_)
          refine L_nil ?_
          refine T_n ?_
          refine W_cf rfl ?_
          refine W_skip ?_
          refine B_n ?_
          refine T_n ?_
          refine W_reg ?_
          refine L_op rfl (X_arith (k := .i64) (a := ((i : Nat) : Int)) (b := 1) (r := ((i + 1 : Nat) : Int)) rfl rfl rfl (iadd64 (by omega) (by omega) (by omega)) ?_)
          refine L_op rfl (X_move (v := (.int .i64 (((i + 1 : Nat) : Int)))) rfl ?_)
          refine L_nil ?_
          refine T_n ?_
          exact ⟨rfl, (i + 1, r3, B3), ⟨⟨hi, hil2, hJ2, hps1, hps2, hM, hP, hB, hR, hrb, hT⟩, (by show N - (i + 1) < N - i; omega)⟩, (Out.mk rfl), ⟨rfl, trivial⟩⟩
        · refine L_gy (dj := 53) rfl rfl rfl (X_not (b := false) (r := true) rfl rfl ?_)
          refine L_op rfl (X_pick (t := false) (v := (.bool (true))) rfl rfl ?_)
          refine L_nil ?_
          refine T_n ?_
          refine W_ct rfl ?_
          refine W_ret ?_
          refine B_r ?_
          refine T_r ?_
          refine T_r ?_
          refine B_r ?_
          exact BQ_r (End_0 Tryd.results45 (.inr ⟨i, hil2, hJx⟩))
    · refine L_op rfl (X_cmp (k := .u64) (a := ((K2 : Nat) : Int)) (b := 0) (r := false) rfl rfl rfl (decide_eq_false (p := ((((K2 : Nat) : Int)) : Int) = ((0) : Int)) (by omega)) ?_)
      refine L_op rfl (X_assign (v := (.bool (false))) rfl ?_)
      refine L_nil ?_
      refine T_n ?_
      refine W_cf rfl ?_
      refine W_seq ?_
      refine W_reg ?_
      by_cases hc10 : (((K2 : Nat) : Int) : Int) = (1)
      · refine L_op rfl (X_cmp (k := .u64) (a := ((K2 : Nat) : Int)) (b := 1) (r := true) rfl rfl rfl (decide_eq_true (p := ((((K2 : Nat) : Int)) : Int) = ((1) : Int)) (by omega)) ?_)
        refine L_op rfl (X_assign (v := (.bool (true))) rfl ?_)
        refine L_nil ?_
        refine T_n ?_
        refine W_ct rfl ?_
        refine W_seq ?_
        refine W_reg ?_
        refine L_op rfl (X_load (p := (ptr xr (0))) (v := (ptr br (0))) T53 rfl (hP.at1 rfl) ?_)
        obtain ⟨⟨K4, B4, E4⟩, hk4⟩ : ∃ x, rdN (B2, E2) 2 = x := ⟨_, rfl⟩
        obtain ⟨sk4, hsk4⟩ : ∃ n, n = w5.heap.size := ⟨_, rfl⟩
        refine L_op rfl (X_fn (vs := [(ptr br (0)), (.int .i64 (2))]) en47 rfl (CT.mono (c_rnum br r2 _ _ 2 K4 B4 E4 _ hB hR hr_b hk4) ?_))
        rintro _ w11 ⟨r4, rfl, hB9, hR9, hrb4, hu11⟩
        have hz11 := hu11.size
        replace hM := hM.upd hu11 fun h => by have h : xm = br := h; omega
        replace hP := hP.upd hu11 fun h => by have h : xr = br := h; omega
        replace hT := hT.upd hu11 fun i h1 h2 h => by have h : i = br := h; omega
        replace hX := hX.comp hu11 (fun _ _ h => h) fun i hi h => by have h : i = br := h; show i = br; omega
        replace hV1 := hV1.upd hu11 fun i hi h => by have hi := hV1_c _ hi; have h : i = br := h; omega
        replace hBX := hBX.upd hu11 fun h => by have h : bx = br := h; omega
        replace hB := hB9; replace hR := hR9; replace hr_b : ∀ b, rbk r4 = some b → b < br := fun b hb => hr_b b (hrb4 b hb); replace hrb : ∀ b, rbk r4 = some b → rbk r0 = some b := fun b hb => hrb b (hrb4 b hb)
        refine L_op rfl (X_convInt (k := .u64) (a := ((K4 : Nat) : Int)) (r := ((K4 : Nat) : Int)) (by rw [Tryd.underlying39]; rfl) Tryd.underlying36 rfl (u16_wrap_nat (rdN_lt hk4)) ?_)
        refine L_op rfl (X_fldP (b := bx) (o := 0) (r := 7) Fd43_3 rfl rfl ?_)
        refine L_op0 (X_store (b := bx) (o := 7) T36 rfl rfl rfl hBX (by show (7 : Nat) < 8; decide) ?_)
        intro w12 hu12 hb12
        have hz12 := hu12.size
        replace hM := hM.upd hu12 fun h => by have h : xm = bx := h; omega
        replace hP := hP.upd hu12 fun h => by have h : xr = bx := h; omega
        replace hT := hT.upd hu12 fun i h1 h2 h => by have h : i = bx := h; omega
        replace hX := hX.comp hu12 (fun _ _ h => h) fun i hi h => by have h : i = bx := h; show i = br; omega
        replace hV1 := hV1.upd hu12 fun i hi h => by have hi := hV1_c _ hi; have h : i = bx := h; omega
        replace hB := hB.upd hu12 fun h => by have h : br = bx := h; omega
        replace hR := hR.upd hu12 fun i hi h => by have hi := hr_b _ hi; have h : i = bx := h; omega
        replace hBX : Blk w12 bx #[v1, (.slice none 0 0), (.int .u8 (ptZ.1)), (.int .u16 (ptZ.2.1)), (.int .u16 (ptZ.2.2.1)), (.int .u32 (ptZ.2.2.2.1)), (.int .u64 (ptZ.2.2.2.2)), (.int .u16 (((K4 : Nat) : Int)))] 43 := hb12
        refine L_nil ?_
        refine T_n ?_
        refine W_seq ?_
        refine W_reg ?_
        refine L_op rfl (X_load (p := (ptr xr (0))) (v := (ptr br (0))) T53 rfl (hP.at1 rfl) ?_)
        refine L_op rfl (X_nilCheck (v := (ptr br (0))) rfl ⟨_, _, rfl⟩ ?_)
        refine L_op rfl (X_fldP (b := br) (o := 0) (r := 1) Fd55_1 rfl rfl ?_)
        refine L_op rfl (X_load (p := (ptr br (1))) (v := (.int .i64 (E4))) T27 rfl (hB.at1 rfl) ?_)
        by_cases hc13 : (E4 : Int) = (0)
        · refine L_op rfl (X_cmp (k := .i64) (a := E4) (b := 0) (r := true) rfl rfl rfl (decide_eq_true (p := ((E4) : Int) = ((0) : Int)) (by omega)) ?_)
          refine L_nil ?_
          refine T_n ?_
          refine W_ct rfl ?_
          refine W_drawS 16 [[], [], [], [2], [2, 3], [2, 3, 4], [2, 3, 4, 5], [2, 3, 4, 5, 6], [2, 3, 4, 5, 6, 7], [2, 3, 4, 5, 6, 7], [2, 3, 4, 5, 6, 7], [2, 3, 4, 5, 6, 7, 8], [2, 3, 4, 5, 6, 7, 8, 11], [0, 2, 3, 4, 5, 6, 7, 8, 9, 11, 12], [0, 2, 3, 4, 5, 6, 7, 8, 9, 11, 12, 13], [0, 2, 3, 4, 5, 6, 7, 8, 9, 11, 12, 13, 14], [0, 1, 2, 3, 4, 5, 6, 7, 8, 9, 10, 11, 12, 13, 14, 15], [0, 1, 2, 3, 4, 5, 6, 7, 8, 9, 10, 11, 12, 13, 14, 15, 16], [0, 1, 2, 3, 4, 5, 6, 7, 8, 9, 10, 11, 12, 13, 14, 15, 16, 17]] (fun j b => (j = 12 ∧ b = bx) ∨ (j = 15 ∧ b = br)) mixed (by kernel_rfl) ?_
          refine ⟨.det (fun val => (ptr br (0))), ⟨fun _ _ hv => rfl, fun _ _ _ _ _ => trivial⟩, fun val h_ W hx he => ⟨trivial, ?_⟩, ?_⟩
          · replace hx := (Upd.drew _ _).trans hx
            replace hx : Upd (fun b => (b = bx)) w12 W := hx.mono fun b _ h_ => by obtain ⟨j, _, hne, hm_, hS⟩ := h_; rcases hS with ⟨rfl, hS⟩ | ⟨rfl, hS⟩; (· exact hS); (· exact absurd hm_ (by decide))
            replace hM := hM.upd hx fun h => by have h : xm = bx := h; omega
            replace hP := hP.upd hx fun h => by have h : xr = bx := h; omega
            replace hT := hT.upd hx fun i h1 h2 h => by have h : i = bx := h; omega
            replace hV1 := hV1.upd hx fun i hi h => by have hi := hV1_c _ hi; have h : i = bx := h; omega
            replace hB := hB.upd hx fun h => by have h : br = bx := h; omega
            replace hR := hR.upd hx fun i hi h => by have hi := hr_b _ hi; have h : i = bx := h; omega
            have hE := Upd.refl (fun _ => False) W
            refine id (X_load (p := (ptr xr (0))) (v := (ptr br (0))) T53 rfl (hP.at1 rfl) ?_)
            exact ⟨Ext.upd hE, rfl⟩
          refine ⟨.det (fun val => (ptr br (0))), ⟨fun _ _ hv => rfl, fun _ _ _ _ _ => trivial⟩, fun val h_ W hx he => ⟨trivial, ?_⟩, ?_⟩
          · replace hx := (Upd.drew _ _).trans hx
            replace hx : Upd (fun b => (b = bx) ∨ (b = br)) w12 W := hx.mono fun b _ h_ => by obtain ⟨j, _, hne, hm_, hS⟩ := h_; rcases hS with ⟨rfl, hS⟩ | ⟨rfl, hS⟩; (· exact .inl hS); (· exact .inr (hS))
            replace hM := hM.upd hx fun h => by have h : (xm = bx) ∨ (xm = br) := h; omega
            replace hP := hP.upd hx fun h => by have h : (xr = bx) ∨ (xr = br) := h; omega
            replace hT := hT.upd hx fun i h1 h2 h => by have h : (i = bx) ∨ (i = br) := h; omega
            replace hV1 := hV1.upd hx fun i hi h => by have hi := hV1_c _ hi; have h : (i = bx) ∨ (i = br) := h; omega
            replace hR := hR.upd hx fun i hi h => by have hi := hr_b _ hi; have h : (i = bx) ∨ (i = br) := h; omega
            have hE := Upd.refl (fun _ => False) W
            refine id (X_load (p := (ptr xr (0))) (v := (ptr br (0))) T53 rfl (hP.at1 rfl) ?_)
            exact ⟨Ext.upd hE, rfl⟩
          refine ⟨.det (fun val => (ptr br (0))), ⟨fun _ _ hv => rfl, fun _ _ _ _ _ => trivial⟩, fun val h_ W hx he => ⟨trivial, ?_⟩, ?_⟩
          · replace hx := (Upd.drew _ _).trans hx
            replace hx : Upd (fun b => False) w12 W := hx.mono fun b _ h_ => by obtain ⟨j, _, hne, hm_, hS⟩ := h_; rcases hS with ⟨rfl, hS⟩ | ⟨rfl, hS⟩; (· exact absurd hm_ (by decide)); (· exact absurd hm_ (by decide))
            replace hM := hM.ext hx
            replace hP := hP.ext hx
            replace hT := hT.ext hx
            replace hV1 := hV1.ext hx
            replace hB := hB.ext hx
            replace hR := hR.ext hx
            replace hBX := hBX.ext hx
            have hE := Upd.refl (fun _ => False) W
            refine id (X_load (p := (ptr xr (0))) (v := (ptr br (0))) T53 rfl (hP.at1 rfl) ?_)
            exact ⟨Ext.upd hE, rfl⟩
          refine ⟨.det (fun val => (ptr br (0))), ⟨fun _ _ hv => rfl, fun _ _ _ _ _ => trivial⟩, fun val h_ W hx he => ⟨trivial, ?_⟩, ?_⟩
          · replace hx := (Upd.drew _ _).trans hx
            replace hx : Upd (fun b => False) w12 W := hx.mono fun b _ h_ => by obtain ⟨j, _, hne, hm_, hS⟩ := h_; rcases hS with ⟨rfl, hS⟩ | ⟨rfl, hS⟩; (· exact absurd hm_ (by decide)); (· exact absurd hm_ (by decide))
            replace hM := hM.ext hx
            replace hP := hP.ext hx
            replace hT := hT.ext hx
            replace hV1 := hV1.ext hx
            replace hB := hB.ext hx
            replace hR := hR.ext hx
            replace hBX := hBX.ext hx
            have hE := Upd.refl (fun _ => False) W
            refine id (X_nilCheck (v := (ptr br (0))) rfl ⟨_, _, rfl⟩ ?_)
            exact ⟨Ext.upd hE, rfl⟩
          refine ⟨.det (fun val => (ptr br (0))), ⟨fun _ _ hv => rfl, fun _ _ _ _ _ => trivial⟩, fun val h_ W hx he => ⟨trivial, ?_⟩, ?_⟩
          · replace hx := (Upd.drew _ _).trans hx
            replace hx : Upd (fun b => False) w12 W := hx.mono fun b _ h_ => by obtain ⟨j, _, hne, hm_, hS⟩ := h_; rcases hS with ⟨rfl, hS⟩ | ⟨rfl, hS⟩; (· exact absurd hm_ (by decide)); (· exact absurd hm_ (by decide))
            replace hM := hM.ext hx
            replace hP := hP.ext hx
            replace hT := hT.ext hx
            replace hV1 := hV1.ext hx
            replace hB := hB.ext hx
            replace hR := hR.ext hx
            replace hBX := hBX.ext hx
            have hE := Upd.refl (fun _ => False) W
            refine id (X_fldP (b := br) (o := 0) (r := 0) Fd55_0 rfl rfl ?_)
            exact ⟨Ext.upd hE, rfl⟩
          refine ⟨.det (fun val => r4), ⟨fun _ _ hv => rfl, fun _ _ _ _ _ => trivial⟩, fun val h_ W hx he => ⟨trivial, ?_⟩, ?_⟩
          · replace hx := (Upd.drew _ _).trans hx
            replace hx : Upd (fun b => False) w12 W := hx.mono fun b _ h_ => by obtain ⟨j, _, hne, hm_, hS⟩ := h_; rcases hS with ⟨rfl, hS⟩ | ⟨rfl, hS⟩; (· exact absurd hm_ (by decide)); (· exact absurd hm_ (by decide))
            replace hM := hM.ext hx
            replace hP := hP.ext hx
            replace hT := hT.ext hx
            replace hV1 := hV1.ext hx
            replace hB := hB.ext hx
            replace hR := hR.ext hx
            replace hBX := hBX.ext hx
            have hE := Upd.refl (fun _ => False) W
            refine id (X_load (p := (ptr br (0))) (v := r4) T35 rfl (hB.at1 rfl) ?_)
            exact ⟨Ext.upd hE, rfl⟩
          refine ⟨.abs (fun _ x_ W_ => ∃ r9, x_ = .tuple #[.agg (ptC (takeQ B4)).toArray, r9, .int .i64 (takeQE B4)] ∧ Rd W_ 1 r9 (takeQR B4).length ((takeQR B4).map byteV) ∧ (∀ b, rbk r9 = some b → b < br) ∧ (∀ b, rbk r9 = some b → rbk r0 = some b)), ⟨fun _ _ _ => rfl, fun _ _ _ _ hu0 h => have hu : Upd (fun b => (b = bx) ∨ (b = br)) _ _ := hu0.mono fun b _ h_ => (by obtain ⟨j, _, hne, hm_, hS⟩ := h_; rcases hS with ⟨rfl, hS⟩ | ⟨rfl, hS⟩; (· exact .inl hS); (· exact .inr (hS)))
             (by obtain ⟨r9, e1, e2, e3, e4⟩ := h; exact ⟨r9, e1, e2.upd hu fun i hi h => by { have := e3 i hi; omega }, e3, e4⟩)⟩, fun val h_ W hx he => ⟨trivial, ?_⟩, ?_⟩
          · replace hx := (Upd.drew _ _).trans hx
            replace hx : Upd (fun b => False) w12 W := hx.mono fun b _ h_ => by obtain ⟨j, _, hne, hm_, hS⟩ := h_; rcases hS with ⟨rfl, hS⟩ | ⟨rfl, hS⟩; (· exact absurd hm_ (by decide)); (· exact absurd hm_ (by decide))
            replace hM := hM.ext hx
            replace hP := hP.ext hx
            replace hT := hT.ext hx
            replace hV1 := hV1.ext hx
            replace hB := hB.ext hx
            replace hR := hR.ext hx
            replace hBX := hBX.ext hx
            have hE := Upd.refl (fun _ => False) W
            refine X_fn (vs := [r4]) en48 rfl (CT.mono (c_ptrTake r4 B4 _ hR hT) ?_)
            rintro _ w9 ⟨r9, rfl, hR9, hrb9, hu9⟩
            exact ⟨Ext.upd hu9, r9, rfl, hR9, fun b hb => hr_b b (hrb9 b hb), fun b hb => hrb b (hrb9 b hb)⟩
          refine ⟨.det (fun val => (val 6)), ⟨fun _ _ hv => (by simp only [hv 6 rfl]), fun _ _ _ _ _ => trivial⟩, fun val h_ W hx he => ⟨trivial, ?_⟩, ?_⟩
          · replace hx := (Upd.drew _ _).trans hx
            replace hx : Upd (fun b => False) w12 W := hx.mono fun b _ h_ => by obtain ⟨j, _, hne, hm_, hS⟩ := h_; rcases hS with ⟨rfl, hS⟩ | ⟨rfl, hS⟩; (· exact absurd hm_ (by decide)); (· exact absurd hm_ (by decide))
            replace hM := hM.ext hx
            replace hP := hP.ext hx
            replace hT := hT.ext hx
            replace hV1 := hV1.ext hx
            replace hB := hB.ext hx
            replace hR := hR.ext hx
            replace hBX := hBX.ext hx
            have hE := Upd.refl (fun _ => False) W
            obtain ⟨⟨r9, hv6, hR9, hr9_b, hrb9⟩, he⟩ := he
            refine id (X_move (v := (val 6)) rfl ?_)
            exact ⟨Ext.upd hE, rfl⟩
          refine ⟨.det (fun _ => (.agg (ptC (takeQ B4)).toArray)), ⟨fun _ _ _ => rfl, fun _ _ _ _ _ => trivial⟩, fun val h_ W hx he => ⟨trivial, ?_⟩, ?_⟩
          · replace hx := (Upd.drew _ _).trans hx
            replace hx : Upd (fun b => False) w12 W := hx.mono fun b _ h_ => by obtain ⟨j, _, hne, hm_, hS⟩ := h_; rcases hS with ⟨rfl, hS⟩ | ⟨rfl, hS⟩; (· exact absurd hm_ (by decide)); (· exact absurd hm_ (by decide))
            replace hM := hM.ext hx
            replace hP := hP.ext hx
            replace hT := hT.ext hx
            replace hV1 := hV1.ext hx
            replace hB := hB.ext hx
            replace hR := hR.ext hx
            replace hBX := hBX.ext hx
            have hE := Upd.refl (fun _ => False) W
            obtain ⟨⟨r9, hv6, _, _, _⟩, _⟩ := he
            refine X_extract (l := [.agg (ptC (takeQ B4)).toArray, r9, .int .i64 (takeQE B4)]) (v := (.agg (ptC (takeQ B4)).toArray)) hv6 rfl ?_
            exact ⟨Ext.upd hE, rfl⟩
          refine ⟨.det (fun val => tup2 (val 6)), ⟨fun _ _ hv => (by simp only [hv 6 rfl]), fun _ _ _ _ _ => trivial⟩, fun val h_ W hx he => ⟨trivial, ?_⟩, ?_⟩
          · replace hx := (Upd.drew _ _).trans hx
            replace hx : Upd (fun b => (b = bx)) w12 W := hx.mono fun b _ h_ => by obtain ⟨j, _, hne, hm_, hS⟩ := h_; rcases hS with ⟨rfl, hS⟩ | ⟨rfl, hS⟩; (· exact hS); (· exact absurd hm_ (by decide))
            replace hM := hM.upd hx fun h => by have h : xm = bx := h; omega
            replace hP := hP.upd hx fun h => by have h : xr = bx := h; omega
            replace hT := hT.upd hx fun i h1 h2 h => by have h : i = bx := h; omega
            replace hV1 := hV1.upd hx fun i hi h => by have hi := hV1_c _ hi; have h : i = bx := h; omega
            replace hB := hB.upd hx fun h => by have h : br = bx := h; omega
            replace hR := hR.upd hx fun i hi h => by have hi := hr_b _ hi; have h : i = bx := h; omega
            have hE := Upd.refl (fun _ => False) W
            obtain ⟨⟨r9, hv6, _, _, _⟩, _⟩ := he
            refine X_extract (l := [.agg (ptC (takeQ B4)).toArray, r9, .int .i64 (takeQE B4)]) (v := r9) hv6 rfl ?_
            exact ⟨Ext.upd hE, by show r9 = tup2 (val 6); rw [hv6]; rfl⟩
          refine ⟨.det (fun _ => (.int .i64 (takeQE B4))), ⟨fun _ _ _ => rfl, fun _ _ _ _ _ => trivial⟩, fun val h_ W hx he => ⟨trivial, ?_⟩, ?_⟩
          · replace hx := (Upd.drew _ _).trans hx
            replace hx : Upd (fun b => (b = bx) ∨ (b = br)) w12 W := hx.mono fun b _ h_ => by obtain ⟨j, _, hne, hm_, hS⟩ := h_; rcases hS with ⟨rfl, hS⟩ | ⟨rfl, hS⟩; (· exact .inl hS); (· exact .inr (hS))
            replace hM := hM.upd hx fun h => by have h : (xm = bx) ∨ (xm = br) := h; omega
            replace hP := hP.upd hx fun h => by have h : (xr = bx) ∨ (xr = br) := h; omega
            replace hT := hT.upd hx fun i h1 h2 h => by have h : (i = bx) ∨ (i = br) := h; omega
            replace hV1 := hV1.upd hx fun i hi h => by have hi := hV1_c _ hi; have h : (i = bx) ∨ (i = br) := h; omega
            replace hR := hR.upd hx fun i hi h => by have hi := hr_b _ hi; have h : (i = bx) ∨ (i = br) := h; omega
            have hE := Upd.refl (fun _ => False) W
            obtain ⟨⟨r9, hv6, _, _, _⟩, _⟩ := he
            refine X_extract (l := [.agg (ptC (takeQ B4)).toArray, r9, .int .i64 (takeQE B4)]) (v := (.int .i64 (takeQE B4))) hv6 rfl ?_
            exact ⟨Ext.upd hE, rfl⟩
          refine ⟨.det (fun val => (ptr bx (2))), ⟨fun _ _ hv => rfl, fun _ _ _ _ _ => trivial⟩, fun val h_ W hx he => ⟨trivial, ?_⟩, ?_⟩
          · replace hx := (Upd.drew _ _).trans hx
            replace hx : Upd (fun b => False) w12 W := hx.mono fun b _ h_ => by obtain ⟨j, _, hne, hm_, hS⟩ := h_; rcases hS with ⟨rfl, hS⟩ | ⟨rfl, hS⟩; (· exact absurd hm_ (by decide)); (· exact absurd hm_ (by decide))
            replace hM := hM.ext hx
            replace hP := hP.ext hx
            replace hT := hT.ext hx
            replace hV1 := hV1.ext hx
            replace hB := hB.ext hx
            replace hR := hR.ext hx
            replace hBX := hBX.ext hx
            have hE := Upd.refl (fun _ => False) W
            obtain ⟨⟨r9, hv6, hR9, hr9_b, hrb9⟩, he⟩ := he
            refine id (X_fldP (b := bx) (o := 0) (r := 2) Fd43_2 rfl rfl ?_)
            exact ⟨Ext.upd hE, rfl⟩
          refine ⟨.abs (fun _ _ W_ => Blk W_ bx #[v1, .slice none 0 0, .int .u8 (takeQ B4).1, .int .u16 (takeQ B4).2.1, .int .u16 (takeQ B4).2.2.1, .int .u32 (takeQ B4).2.2.2.1, .int .u64 (takeQ B4).2.2.2.2, .int .u16 ((K4 : Nat) : Int)] 43), ⟨fun _ _ _ => rfl, fun _ _ _ _ hu0 h => have hu : Upd (fun b => (b = br)) _ _ := hu0.mono fun b _ h_ => (by obtain ⟨j, _, hne, hm_, hS⟩ := h_; rcases hS with ⟨rfl, hS⟩ | ⟨rfl, hS⟩; (· exact absurd rfl hne); (· exact hS))
             h.upd hu fun h => by omega⟩, fun val h_ W hx he => ⟨trivial, ?_⟩, ?_⟩
          · replace hx := (Upd.drew _ _).trans hx
            replace hx : Upd (fun b => False) w12 W := hx.mono fun b _ h_ => by obtain ⟨j, _, hne, hm_, hS⟩ := h_; rcases hS with ⟨rfl, hS⟩ | ⟨rfl, hS⟩; (· exact absurd rfl hne); (· exact absurd hm_ (by decide))
            replace hM := hM.ext hx
            replace hP := hP.ext hx
            replace hT := hT.ext hx
            replace hV1 := hV1.ext hx
            replace hB := hB.ext hx
            replace hR := hR.ext hx
            replace hBX := hBX.ext hx
            have hE := Upd.refl (fun _ => False) W
            refine X_storeA (b := bx) (o := 2) (ys := ptC (takeQ B4)) A41 rfl rfl (ptC_one _) rfl hBX (by show 2 + 5 ≤ 8; decide) ?_
            intro w8 hu8 hb8
            exact ⟨hu8.mono fun b _ h => .inl ⟨rfl, h⟩, hb8⟩
          refine ⟨.det (fun val => (ptr br (0))), ⟨fun _ _ hv => rfl, fun _ _ _ _ _ => trivial⟩, fun val h_ W hx he => ⟨trivial, ?_⟩, ?_⟩
          · replace hx := (Upd.drew _ _).trans hx
            replace hx : Upd (fun b => (b = bx)) w12 W := hx.mono fun b _ h_ => by obtain ⟨j, _, hne, hm_, hS⟩ := h_; rcases hS with ⟨rfl, hS⟩ | ⟨rfl, hS⟩; (· exact hS); (· exact absurd hm_ (by decide))
            replace hM := hM.upd hx fun h => by have h : xm = bx := h; omega
            replace hP := hP.upd hx fun h => by have h : xr = bx := h; omega
            replace hT := hT.upd hx fun i h1 h2 h => by have h : i = bx := h; omega
            replace hV1 := hV1.upd hx fun i hi h => by have hi := hV1_c _ hi; have h : i = bx := h; omega
            replace hB := hB.upd hx fun h => by have h : br = bx := h; omega
            replace hR := hR.upd hx fun i hi h => by have hi := hr_b _ hi; have h : i = bx := h; omega
            have hE := Upd.refl (fun _ => False) W
            obtain ⟨hBX, he⟩ := he
            obtain ⟨⟨r9, hv6, hR9, hr9_b, hrb9⟩, he⟩ := he
            refine id (X_nilCheck (v := (ptr br (0))) rfl ⟨_, _, rfl⟩ ?_)
            exact ⟨Ext.upd hE, rfl⟩
          refine ⟨.det (fun val => (ptr br (0))), ⟨fun _ _ hv => rfl, fun _ _ _ _ _ => trivial⟩, fun val h_ W hx he => ⟨trivial, ?_⟩, ?_⟩
          · replace hx := (Upd.drew _ _).trans hx
            replace hx : Upd (fun b => (b = bx)) w12 W := hx.mono fun b _ h_ => by obtain ⟨j, _, hne, hm_, hS⟩ := h_; rcases hS with ⟨rfl, hS⟩ | ⟨rfl, hS⟩; (· exact hS); (· exact absurd hm_ (by decide))
            replace hM := hM.upd hx fun h => by have h : xm = bx := h; omega
            replace hP := hP.upd hx fun h => by have h : xr = bx := h; omega
            replace hT := hT.upd hx fun i h1 h2 h => by have h : i = bx := h; omega
            replace hV1 := hV1.upd hx fun i hi h => by have hi := hV1_c _ hi; have h : i = bx := h; omega
            replace hB := hB.upd hx fun h => by have h : br = bx := h; omega
            replace hR := hR.upd hx fun i hi h => by have hi := hr_b _ hi; have h : i = bx := h; omega
            have hE := Upd.refl (fun _ => False) W
            obtain ⟨hBX, he⟩ := he
            obtain ⟨⟨r9, hv6, hR9, hr9_b, hrb9⟩, he⟩ := he
            refine id (X_fldP (b := br) (o := 0) (r := 0) Fd55_0 rfl rfl ?_)
            exact ⟨Ext.upd hE, rfl⟩
          refine ⟨.abs (fun val _ W_ => Blk W_ br #[tup2 (val 6), .int .i64 E4] 55), ⟨fun _ _ hv => (by simp only [hv 6 rfl]), fun _ _ _ _ hu0 h => have hu : Upd (fun b => False) _ _ := hu0.mono fun b _ h_ => (by obtain ⟨j, _, hne, hm_, hS⟩ := h_; rcases hS with ⟨rfl, hS⟩ | ⟨rfl, hS⟩; (· exact absurd hm_ (by decide)); (· exact absurd rfl hne))
             h.ext hu⟩, fun val h_ W hx he => ⟨trivial, ?_⟩, ?_⟩
          · replace hx := (Upd.drew _ _).trans hx
            replace hx : Upd (fun b => (b = bx)) w12 W := hx.mono fun b _ h_ => by obtain ⟨j, _, hne, hm_, hS⟩ := h_; rcases hS with ⟨rfl, hS⟩ | ⟨rfl, hS⟩; (· exact hS); (· exact absurd rfl hne)
            replace hM := hM.upd hx fun h => by have h : xm = bx := h; omega
            replace hP := hP.upd hx fun h => by have h : xr = bx := h; omega
            replace hT := hT.upd hx fun i h1 h2 h => by have h : i = bx := h; omega
            replace hV1 := hV1.upd hx fun i hi h => by have hi := hV1_c _ hi; have h : i = bx := h; omega
            replace hB := hB.upd hx fun h => by have h : br = bx := h; omega
            replace hR := hR.upd hx fun i hi h => by have hi := hr_b _ hi; have h : i = bx := h; omega
            have hE := Upd.refl (fun _ => False) W
            obtain ⟨_, ⟨r9, hv6, hR9, _, _⟩, _⟩ := he
            refine X_store (b := br) (o := 0) (v := tup2 (val 6)) T35 rfl rfl (by rw [hv6]; exact hR9.sv.one) hB (by show (0 : Nat) < 2; decide) ?_
            intro w8 hu8 hb8
            exact ⟨hu8.mono fun b _ h => .inr ⟨rfl, h⟩, hb8⟩
          intro val W14 hx14 he14
          replace hx14 := (Upd.drew _ _).trans hx14
          replace hx14 : Upd (fun b => (b = bx) ∨ (b = br)) w12 W14 := hx14.mono fun b _ h_ => by obtain ⟨j, _, hS⟩ := h_; rcases hS with ⟨rfl, hS⟩ | ⟨rfl, hS⟩; (· exact .inl hS); (· exact .inr (hS))
          have hz14 := hx14.size
          replace hM := hM.upd hx14 fun h => by have h : (xm = bx) ∨ (xm = br) := h; omega
          replace hP := hP.upd hx14 fun h => by have h : (xr = bx) ∨ (xr = br) := h; omega
          replace hT := hT.upd hx14 fun i h1 h2 h => by have h : (i = bx) ∨ (i = br) := h; omega
          replace hX := hX.comp hx14 (fun _ _ h => h) fun i hi h => by have h : (i = bx) ∨ (i = br) := h; show i = br; omega
          replace hV1 := hV1.upd hx14 fun i hi h => by have hi := hV1_c _ hi; have h : (i = bx) ∨ (i = br) := h; omega
          replace hR := hR.upd hx14 fun i hi h => by have hi := hr_b _ hi; have h : (i = bx) ∨ (i = br) := h; omega
          obtain ⟨hB, he14⟩ := he14
          obtain ⟨hBX, he14⟩ := he14
          obtain ⟨⟨r9, hv6, hR9, hr9_b, hrb9⟩, he14⟩ := he14
          rw [show tup2 (val 6) = r9 by rw [hv6]; rfl] at hB
          replace hR := hR9; replace hr_b := hr9_b; replace hrb := hrb9
          refine L_op rfl (X_nilCheck (v := (ptr br (0))) rfl ⟨_, _, rfl⟩ ?_)
          refine L_op rfl (X_fldP (b := br) (o := 0) (r := 1) Fd55_1 rfl rfl ?_)
          refine L_op0 (X_store (b := br) (o := 1) T27 rfl rfl rfl hB (by show (1 : Nat) < 2; decide) ?_)
          intro w15 hu15 hb15
          have hz15 := hu15.size
          replace hM := hM.upd hu15 fun h => by have h : xm = br := h; omega
          replace hP := hP.upd hu15 fun h => by have h : xr = br := h; omega
          replace hT := hT.upd hu15 fun i h1 h2 h => by have h : i = br := h; omega
          replace hX := hX.comp hu15 (fun _ _ h => h) fun i hi h => by have h : i = br := h; show i = br; omega
          replace hV1 := hV1.upd hu15 fun i hi h => by have hi := hV1_c _ hi; have h : i = br := h; omega
          replace hR := hR.upd hu15 fun i hi h => by have hi := hr_b _ hi; have h : i = br := h; omega
          replace hBX := hBX.upd hu15 fun h => by have h : bx = br := h; omega
          replace hB : Blk w15 br #[r9, (.int .i64 ((takeQE B4)))] 55 := hb15
          refine L_nil ?_
          refine B_n ?_
          refine T_n ?_
          refine W_seq ?_
          have hst : stepI (bi, 0) = ((K1, [], takeQ B4, ((K4 : Nat) : Int)), ((takeQR B4), (takeQE B4))) := by unfold stepI; rw [hk1]; dsimp only; rw [hk2]; dsimp only; rw [if_neg (show ¬ K2 = 0 by omega), if_pos (show K2 = 1 by omega), hk4]; dsimp only; rw [if_pos (show E4 = 0 by omega)]
          refine W_reg ?_
          refine L_op rfl (X_load (p := (ptr xr (0))) (v := (ptr br (0))) T53 rfl (hP.at1 rfl) ?_)
          refine L_op rfl (X_nilCheck (v := (ptr br (0))) rfl ⟨_, _, rfl⟩ ?_)
          refine L_op rfl (X_fldP (b := br) (o := 0) (r := 1) Fd55_1 rfl rfl ?_)
          refine L_op rfl (X_load (p := (ptr br (1))) (v := (.int .i64 ((takeQE B4)))) T27 rfl (hB.at1 rfl) ?_)
          by_cases hc16 : ((takeQE B4) : Int) ≠ (0)
          · refine L_op rfl (X_cmp (k := .i64) (a := (takeQE B4)) (b := 0) (r := true) rfl rfl rfl (decide_eq_true (p := (((takeQE B4)) : Int) ≠ ((0) : Int)) (by omega)) ?_)
            refine L_op rfl (X_move (v := (.bool (true))) rfl ?_)
            refine L_gn (dj := 53) (t := true) rfl rfl rfl rfl ?_
            refine L_gn (dj := 53) (t := true) rfl rfl rfl rfl ?_
            refine L_gn (dj := 53) (t := true) rfl rfl rfl rfl ?_
            refine L_gn (dj := 53) (t := true) rfl rfl rfl rfl ?_
            refine L_op rfl (X_pick (t := true) (v := (.bool (true))) rfl rfl ?_)
            refine L_nil ?_
            refine T_n ?_
            refine W_ct rfl ?_
            refine W_ret ?_
            refine B_r ?_
            refine T_r ?_
            refine T_r ?_
            refine B_r ?_
            rw [items_no hst (by show (takeQE B4) ≠ 0; omega)] at hps1 hps2
            have hin := drop_none hps1 hil
            have hJ9 := hJs _ _ _ hJ hX ⟨_, _, hB, .inr (by rw [← hps2])⟩
            exact BQ_r (End_0 Tryd.results45 (.inl (hin ▸ hJ9)))
          · refine L_op rfl (X_cmp (k := .i64) (a := (takeQE B4)) (b := 0) (r := false) rfl rfl rfl (decide_eq_false (p := (((takeQE B4)) : Int) ≠ ((0) : Int)) (by omega)) ?_)
            refine L_op rfl (X_move (v := (.bool (false))) rfl ?_)
            refine L_gy (dj := 53) rfl rfl rfl (X_move (v := (.func (.yield lp) #[] #[])) rfl ?_)
            refine L_gy (dj := 53) rfl rfl rfl (X_loadA (p := (ptr bx (0))) (xs := [v1, (.slice none 0 0), (.int .u8 ((takeQ B4).1)), (.int .u16 ((takeQ B4).2.1)), (.int .u16 ((takeQ B4).2.2.1)), (.int .u32 ((takeQ B4).2.2.2.1)), (.int .u64 ((takeQ B4).2.2.2.2)), (.int .u16 (((K4 : Nat) : Int)))]) A43 rfl hBX.atAll rfl ?_)
            have hE0 : (takeQE B4) = 0 := by omega
            rw [hE0] at hst hB
            rw [items_yes hst rfl] at hps1 hps2
            obtain ⟨hil2, hat, hps1⟩ := drop_head hps1
            have hYI : YI L i [.agg (itC ((v1, .slice none 0 0, (K1, [], takeQ B4, ((K4 : Nat) : Int))) : IE)).toArray] w1 w15 := ⟨((v1, .slice none 0 0, (K1, [], takeQ B4, ((K4 : Nat) : Int))) : IE), rfl, hat, ⟨hV1.more (by omega), fun b hb => (hV1.lt hb).2⟩, BOwn.nil _ _ _ _⟩
            refine L_gy (dj := 53) rfl rfl rfl (X_yield (vs := [.agg (itC ((v1, .slice none 0 0, (K1, [], takeQ B4, ((K4 : Nat) : Int))) : IE)).toArray]) rfl rfl (YieldC.mono (hy i _ _ _ ⟨hil2, hYI⟩ hJ hX ⟨_, 0, hB, .inl rfl⟩) ?_))
            rintro _ W2 (⟨rfl, hJ2, hu⟩ | ⟨rfl, hJx⟩)
            · replace hM := hM.upd hu fun h => hDb _ h (by omega)
              replace hP := hP.upd hu fun h => hDb _ h (by omega)
              replace hB := hB.upd hu fun h => hDb _ h (by omega)
              replace hR := hR.upd hu fun i hi h => hDb _ h (by have := hr_b i hi; omega)
              replace hT := hT.upd hu fun i h1 h2 h => hDb _ h (by omega)
              refine L_gy (dj := 53) rfl rfl rfl (X_not (b := true) (r := false) rfl rfl ?_)
              refine L_op rfl (X_pick (t := false) (v := (.bool (false))) rfl rfl ?_)
              refine L_nil ?_
              refine T_n ?_
              refine W_cf rfl ?_
              refine W_skip ?_
              refine B_n ?_
              refine T_n ?_
              refine W_reg ?_
              refine L_op rfl (X_arith (k := .i64) (a := ((i : Nat) : Int)) (b := 1) (r := ((i + 1 : Nat) : Int)) rfl rfl rfl (iadd64 (by omega) (by omega) (by omega)) ?_)
              refine L_op rfl (X_move (v := (.int .i64 (((i + 1 : Nat) : Int)))) rfl ?_)
              refine L_nil ?_
              refine T_n ?_
              exact ⟨rfl, (i + 1, r9, (takeQR B4)), ⟨⟨hi, hil2, hJ2, hps1, hps2, hM, hP, hB, hR, hrb, hT⟩, (by show N - (i + 1) < N - i; omega)⟩, (Out.mk rfl), ⟨rfl, trivial⟩⟩
            · refine L_gy (dj := 53) rfl rfl rfl (X_not (b := false) (r := true) rfl rfl ?_)
              refine L_op rfl (X_pick (t := false) (v := (.bool (true))) rfl rfl ?_)
              refine L_nil ?_
              refine T_n ?_
              refine W_ct rfl ?_
              refine W_ret ?_
              refine B_r ?_
              refine T_r ?_
              refine T_r ?_
              refine B_r ?_
              exact BQ_r (End_0 Tryd.results45 (.inr ⟨i, hil2, hJx⟩))
        · refine L_op rfl (X_cmp (k := .i64) (a := E4) (b := 0) (r := false) rfl rfl rfl (decide_eq_false (p := ((E4) : Int) = ((0) : Int)) (by omega)) ?_)
          refine L_nil ?_
          refine T_n ?_
          refine W_cf rfl ?_
          refine W_skip ?_
          refine B_n ?_
          refine T_n ?_
          refine W_seq ?_
          have hst : stepI (bi, 0) = ((K1, [], ptZ, ((K4 : Nat) : Int)), (B4, E4)) := by unfold stepI; rw [hk1]; dsimp only; rw [hk2]; dsimp only; rw [if_neg (show ¬ K2 = 0 by omega), if_pos (show K2 = 1 by omega), hk4]; dsimp only; rw [if_neg (show ¬ E4 = 0 by omega)]
          refine W_reg ?_
          refine L_op rfl (X_load (p := (ptr xr (0))) (v := (ptr br (0))) T53 rfl (hP.at1 rfl) ?_)
          refine L_op rfl (X_nilCheck (v := (ptr br (0))) rfl ⟨_, _, rfl⟩ ?_)
          refine L_op rfl (X_fldP (b := br) (o := 0) (r := 1) Fd55_1 rfl rfl ?_)
          refine L_op rfl (X_load (p := (ptr br (1))) (v := (.int .i64 (E4))) T27 rfl (hB.at1 rfl) ?_)
          by_cases hc17 : (E4 : Int) ≠ (0)
          · refine L_op rfl (X_cmp (k := .i64) (a := E4) (b := 0) (r := true) rfl rfl rfl (decide_eq_true (p := ((E4) : Int) ≠ ((0) : Int)) (by omega)) ?_)
            refine L_op rfl (X_move (v := (.bool (true))) rfl ?_)
            refine L_gn (dj := 53) (t := true) rfl rfl rfl rfl ?_
            refine L_gn (dj := 53) (t := true) rfl rfl rfl rfl ?_
            refine L_gn (dj := 53) (t := true) rfl rfl rfl rfl ?_
            refine L_gn (dj := 53) (t := true) rfl rfl rfl rfl ?_
            refine L_op rfl (X_pick (t := true) (v := (.bool (true))) rfl rfl ?_)
            refine L_nil ?_
            refine T_n ?_
            refine W_ct rfl ?_
            refine W_ret ?_
            refine B_r ?_
            refine T_r ?_
            refine T_r ?_
            refine B_r ?_
            rw [items_no hst (by show E4 ≠ 0; omega)] at hps1 hps2
            have hin := drop_none hps1 hil
            have hJ9 := hJs _ _ _ hJ hX ⟨_, _, hB, .inr (by rw [← hps2])⟩
            exact BQ_r (End_0 Tryd.results45 (.inl (hin ▸ hJ9)))
          · refine L_op rfl (X_cmp (k := .i64) (a := E4) (b := 0) (r := false) rfl rfl rfl (decide_eq_false (p := ((E4) : Int) ≠ ((0) : Int)) (by omega)) ?_)
            refine L_op rfl (X_move (v := (.bool (false))) rfl ?_)
            refine L_gy (dj := 53) rfl rfl rfl (X_move (v := (.func (.yield lp) #[] #[])) rfl ?_)
            refine L_gy (dj := 53) rfl rfl rfl (X_loadA (p := (ptr bx (0))) (xs := [v1, (.slice none 0 0), (.int .u8 (ptZ.1)), (.int .u16 (ptZ.2.1)), (.int .u16 (ptZ.2.2.1)), (.int .u32 (ptZ.2.2.2.1)), (.int .u64 (ptZ.2.2.2.2)), (.int .u16 (((K4 : Nat) : Int)))]) A43 rfl hBX.atAll rfl ?_)
            have hE0 : E4 = 0 := by omega
            rw [hE0] at hst hB
            rw [items_yes hst rfl] at hps1 hps2
            obtain ⟨hil2, hat, hps1⟩ := drop_head hps1
            have hYI : YI L i [.agg (itC ((v1, .slice none 0 0, (K1, [], ptZ, ((K4 : Nat) : Int))) : IE)).toArray] w1 w12 := ⟨((v1, .slice none 0 0, (K1, [], ptZ, ((K4 : Nat) : Int))) : IE), rfl, hat, ⟨hV1.more (by omega), fun b hb => (hV1.lt hb).2⟩, BOwn.nil _ _ _ _⟩
            refine L_gy (dj := 53) rfl rfl rfl (X_yield (vs := [.agg (itC ((v1, .slice none 0 0, (K1, [], ptZ, ((K4 : Nat) : Int))) : IE)).toArray]) rfl rfl (YieldC.mono (hy i _ _ _ ⟨hil2, hYI⟩ hJ hX ⟨_, 0, hB, .inl rfl⟩) ?_))
            rintro _ W2 (⟨rfl, hJ2, hu⟩ | ⟨rfl, hJx⟩)
            · replace hM := hM.upd hu fun h => hDb _ h (by omega)
              replace hP := hP.upd hu fun h => hDb _ h (by omega)
              replace hB := hB.upd hu fun h => hDb _ h (by omega)
              replace hR := hR.upd hu fun i hi h => hDb _ h (by have := hr_b i hi; omega)
              replace hT := hT.upd hu fun i h1 h2 h => hDb _ h (by omega)
              refine L_gy (dj := 53) rfl rfl rfl (X_not (b := true) (r := false) rfl rfl ?_)
              refine L_op rfl (X_pick (t := false) (v := (.bool (false))) rfl rfl ?_)
              refine L_nil ?_
              refine T_n ?_
              refine W_cf rfl ?_
              refine W_skip ?_
              refine B_n ?_
              refine T_n ?_
              refine W_reg ?_
              refine L_op rfl (X_arith (k := .i64) (a := ((i : Nat) : Int)) (b := 1) (r := ((i + 1 : Nat) : Int)) rfl rfl rfl (iadd64 (by omega) (by omega) (by omega)) ?_)
              refine L_op rfl (X_move (v := (.int .i64 (((i + 1 : Nat) : Int)))) rfl ?_)
              refine L_nil ?_
              refine T_n ?_
              exact ⟨rfl, (i + 1, r4, B4), ⟨⟨hi, hil2, hJ2, hps1, hps2, hM, hP, hB, hR, hrb, hT⟩, (by show N - (i + 1) < N - i; omega)⟩, (Out.mk rfl), ⟨rfl, trivial⟩⟩
            · refine L_gy (dj := 53) rfl rfl rfl (X_not (b := false) (r := true) rfl rfl ?_)
              refine L_op rfl (X_pick (t := false) (v := (.bool (true))) rfl rfl ?_)
              refine L_nil ?_
              refine T_n ?_
              refine W_ct rfl ?_
              refine W_ret ?_
              refine B_r ?_
              refine T_r ?_
              refine T_r ?_
              refine B_r ?_
              exact BQ_r (End_0 Tryd.results45 (.inr ⟨i, hil2, hJx⟩))
      · refine L_op rfl (X_cmp (k := .u64) (a := ((K2 : Nat) : Int)) (b := 1) (r := false) rfl rfl rfl (decide_eq_false (p := ((((K2 : Nat) : Int)) : Int) = ((1) : Int)) (by omega)) ?_)
        refine L_op rfl (X_assign (v := (.bool (false))) rfl ?_)
        refine L_nil ?_
        refine T_n ?_
        refine W_cf rfl ?_
        refine W_reg ?_
        refine L_op rfl (X_load (p := (ptr xr (0))) (v := (ptr br (0))) T53 rfl (hP.at1 rfl) ?_)
        refine L_op rfl (X_nilCheck (v := (ptr br (0))) rfl ⟨_, _, rfl⟩ ?_)
        refine L_op rfl (X_fldP (b := br) (o := 0) (r := 1) Fd55_1 rfl rfl ?_)
        refine L_op0 (X_store (b := br) (o := 1) T27 rfl rfl rfl hB (by show (1 : Nat) < 2; decide) ?_)
        intro w18 hu18 hb18
        have hz18 := hu18.size
        replace hM := hM.upd hu18 fun h => by have h : xm = br := h; omega
        replace hP := hP.upd hu18 fun h => by have h : xr = br := h; omega
        replace hT := hT.upd hu18 fun i h1 h2 h => by have h : i = br := h; omega
        replace hX := hX.comp hu18 (fun _ _ h => h) fun i hi h => by have h : i = br := h; show i = br; omega
        replace hV1 := hV1.upd hu18 fun i hi h => by have hi := hV1_c _ hi; have h : i = br := h; omega
        replace hBX := hBX.upd hu18 fun h => by have h : bx = br := h; omega
        replace hR := hR.upd hu18 fun i hi h => by have hi := hr_b _ hi; have h : i = br := h; omega
        replace hB : Blk w18 br #[r2, (.int .i64 (50))] 55 := hb18
        refine L_nil ?_
        refine B_n ?_
        refine T_n ?_
        refine W_seq ?_
        have hst : stepI (bi, 0) = ((K1, [], ptZ, 0), (B2, 50)) := by unfold stepI; rw [hk1]; dsimp only; rw [hk2]; dsimp only; rw [if_neg (show ¬ K2 = 0 by omega), if_neg (show ¬ K2 = 1 by omega)]
        refine W_reg ?_
        refine L_op rfl (X_load (p := (ptr xr (0))) (v := (ptr br (0))) T53 rfl (hP.at1 rfl) ?_)
        refine L_op rfl (X_nilCheck (v := (ptr br (0))) rfl ⟨_, _, rfl⟩ ?_)
        refine L_op rfl (X_fldP (b := br) (o := 0) (r := 1) Fd55_1 rfl rfl ?_)
        refine L_op rfl (X_load (p := (ptr br (1))) (v := (.int .i64 (50))) T27 rfl (hB.at1 rfl) ?_)
        refine L_op rfl (X_cmp (k := .i64) (a := 50) (b := 0) (r := true) rfl rfl rfl rfl ?_)
        refine L_op rfl (X_move (v := (.bool (true))) rfl ?_)
        refine L_gn (dj := 53) (t := true) rfl rfl rfl rfl ?_
        refine L_gn (dj := 53) (t := true) rfl rfl rfl rfl ?_
        refine L_gn (dj := 53) (t := true) rfl rfl rfl rfl ?_
        refine L_gn (dj := 53) (t := true) rfl rfl rfl rfl ?_
        refine L_op rfl (X_pick (t := true) (v := (.bool (true))) rfl rfl ?_)
        refine L_nil ?_
        refine T_n ?_
        refine W_ct rfl ?_
        refine W_ret ?_
        refine B_r ?_
        refine T_r ?_
        refine T_r ?_
        refine B_r ?_
        rw [items_no hst (by show 50 ≠ 0; omega)] at hps1 hps2
        have hin := drop_none hps1 hil
        have hJ9 := hJs _ _ _ hJ hX ⟨_, _, hB, .inr (by rw [← hps2])⟩
        exact BQ_r (End_0 Tryd.results45 (.inl (hin ▸ hJ9)))
  · refine L_op rfl (X_cmp (k := .i64) (a := ((i : Nat) : Int)) (b := ((N : Nat) : Int)) (r := false) rfl rfl rfl (decide_eq_false (p := ((((i : Nat) : Int)) : Int) < ((((N : Nat) : Int)) : Int)) (by omega)) ?_)
    refine L_nil ?_
    refine T_n ?_
    refine W_seq ?_
    refine W_cf rfl ?_
    refine W_exit ?_
    refine T_e ?_
    refine T_e ?_
    refine B_x ?_
    rw [show N - i = 0 by omega] at hps1
    have hin := drop_none hps1 hil
    exact BQ_n (End_0 Tryd.results45 (.inl (hin ▸ hJ)))
end Go.Proofs.YtmddmghgkkjbiaaDoor
