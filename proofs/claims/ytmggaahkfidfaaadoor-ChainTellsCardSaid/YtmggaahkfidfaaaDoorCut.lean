/-
  The contracts of chains: pieces of a value. (Printed by wip/gen/t08m.py of this repo.)
-/
import Derived.Test.YtmggaahkfidfaaaDoorBytes
import Derived.Test.YtmggaahkfidfaaaDoorBaseZ
namespace Go.Proofs.YtmggaahkfidfaaaDoor
open Go Go.SL Go.Proofs
set_option linter.unusedVariables false

/-- a value's pieces -/
def pcN (l : List UInt8) : Nat := (l.length + 199) / 200
def pcL (l : List UInt8) (k : Nat) : List UInt8 := (l.drop (200 * k)).take 200
theorem pcL_len (l : List UInt8) (k : Nat) : (pcL l k).length = min 200 (l.length - 200 * k) := by unfold pcL; rw [List.length_take, List.length_drop]
theorem pcN_lt {l : List UInt8} {k : Nat} : k < pcN l ↔ 200 * k < l.length := by unfold pcN; omega
def chX (s : Value) (l : List UInt8) : List (List Value) := (List.range (pcN l)).map fun k => [cut3v s 1 (200 * k) (200 * k + (pcL l k).length) (200 * k + (pcL l k).length)]
theorem chX_length (s : Value) (l : List UInt8) : (chX s l).length = pcN l := by unfold chX; rw [List.length_map, List.length_range]
theorem chX_at {s : Value} {l : List UInt8} {k : Nat} (hk : k < pcN l) : (chX s l)[k]? = some [cut3v s 1 (200 * k) (200 * k + (pcL l k).length) (200 * k + (pcL l k).length)] := by
  unfold chX
  rw [List.getElem?_map, List.getElem?_range hk]; rfl
theorem pc_rd {w : World} {s : Value} {l : List UInt8} (hs : Rd w 1 s l.length (l.map byteV)) {k : Nat} (hk : k < pcN l) : Rd w 1 (cut3v s 1 (200 * k) (200 * k + (pcL l k).length) (200 * k + (pcL l k).length)) (pcL l k).length ((pcL l k).map byteV) := by
  have h1 := pcN_lt.1 hk
  have h2 := pcL_len l k
  refine hs.cut3B (Nat.le_add_right _ _) (Nat.le_refl _) (by omega) ?_
  show (l.drop (200 * k)).take (200 * k + (pcL l k).length - 200 * k) = pcL l k
  rw [Nat.add_sub_cancel_left, h2]
  unfold pcL
  rw [List.take_eq_take_iff, List.length_drop]
  omega

theorem c_chunk (s : Value) (n : Nat) (w : World) (hs : SV s n) : CT Tryd.prog 42 #[s, (.int .i64 (200))] w fun v w' => v = .func (.func 51) #[] #[ptr w.heap.size 0, ptr (w.heap.size + 1) 0] ∧ Blk w' w.heap.size #[s] 22 ∧ Blk w' (w.heap.size + 1) #[.int .i64 200] 3 ∧ Ext w w' ∧ w'.heap.size = w.heap.size + 2 := by
  obtain ⟨n0, hn0⟩ : ∃ n, n = w.heap.size := ⟨_, rfl⟩
  have hU : Upd (fun i => n0 ≤ i) w w := Upd.refl _ _
  refine CT_of Tryd.func42 rfl rfl rfl ?_
  refine W_seq ?_
  refine W_reg ?_
  refine L_op rfl (X_box (v := s) (c := #[s]) rfl (hs.cells) ?_)
  intro b1 w1 hn1
  have hbn1 := hn1.num; have hbs1 := hn1.size
  replace hU := hU.trans (Ext.upd hn1.ext)
  have hB1 := hn1.blk
  refine L_op rfl (X_box (v := (.int .i64 (200))) (c := #[(.int .i64 (200))]) rfl rfl ?_)
  intro b2 w2 hn2
  have hbn2 := hn2.num; have hbs2 := hn2.size
  replace hU := hU.trans (Ext.upd hn2.ext)
  replace hB1 := hB1.ext hn2.ext
  have hB2 := hn2.blk
  refine L_op rfl (X_assign (v := .nilFunc) rfl ?_)
  refine L_nil ?_
  refine T_n ?_
  refine W_seq ?_
  refine W_seq ?_
  refine W_reg ?_
  refine L_op rfl (X_load (p := (ptr b2 (0))) (v := (.int .i64 (200))) T3 rfl (hB2.at1 rfl) ?_)
  refine L_op rfl (X_cmp (k := .i64) (a := 200) (b := 1) (r := false) rfl rfl rfl rfl ?_)
  refine L_nil ?_
  refine T_n ?_
  refine W_cf rfl ?_
  refine W_skip ?_
  refine T_n ?_
  refine W_seq ?_
  refine W_reg ?_
  refine L_op rfl (X_makeFunc (vs := [ptr b1 0, ptr b2 0]) rfl ?_)
  refine L_op rfl (X_assign (v := (.func (.func 51) #[] #[ptr b1 0, ptr b2 0])) rfl ?_)
  refine L_nil ?_
  refine T_n ?_
  refine W_ret ?_
  exact BQ_r (End_1 Tryd.results42 (v := .func (.func 51) #[] #[ptr b1 0, ptr b2 0]) rfl ⟨by rw [hbn2, hbs1, hbn1], hbn1 ▸ hB1, by rw [← hbn1]; exact (show b2 = b1 + 1 by omega) ▸ hB2, hU.own hn0, by omega⟩)

theorem c_chunk1 (s : Value) (l : List UInt8) (b1 b2 : Nat) (w w9 : World) (hlb : l.length ≤ 140737488355328) (hB : Blk w b1 #[s] 22) (hC : Blk w b2 #[.int .i64 200] 3) (hs : Rd w9 1 s l.length (l.map byteV)) :
    IterC Tryd.prog 51 [ptr b1 0, ptr b2 0] (chX s l) w (fun b => b = b1 ∨ b = b2) (fun _ => False) := by
  intro lp J Jx W Db hu0 hDb hJs hJxs hy hJ0
  have hmx := hs.len
  replace hB := hB.upd hu0 fun h => h (.inl rfl)
  replace hC := hC.upd hu0 fun h => h (.inr rfl)
  show CT Tryd.prog 51 #[.func (.yield lp) #[] #[], ptr b1 0, ptr b2 0] W _
  refine CT_of Tryd.func51 rfl rfl rfl ?_
  refine W_seq ?_
  refine W_reg ?_
  refine L_op rfl (X_assign (v := (.int .i64 (0))) rfl ?_)
  refine L_nil ?_
  refine T_n ?_
  refine W_block ?_
  refine W_loop (α := Nat) [4, 5, 6, 7, 8, 9, 10, 11, 12, 13, 14, 15, 16, 17, 18, 19, 20, 21, 22, 23, 24, 25, 26, 27, 28, 29, 30] (fun k => [(4, (.int .i64 (((200 * k : Nat) : Int))))]) (fun k w_ => k ≤ pcN l ∧ J k w_ ∧ Blk w_ b1 #[s] 22 ∧ Blk w_ b2 #[.int .i64 200] 3) (fun k => pcN l - k) ⟨rfl, 0, ⟨Nat.zero_le _, hJ0, hB, hC⟩, Out.refl _ _, ⟨rfl, trivial⟩⟩ ?_
  rintro k w1 _ ⟨hkl, hJ, hB, hC⟩
  refine W_seq ?_
  refine W_seq ?_
  refine W_reg ?_
  refine L_op rfl (X_move (v := (.int .i64 (((200 * k : Nat) : Int)))) rfl ?_)
  refine L_op rfl (X_load (p := (ptr b1 (0))) (v := s) T22 rfl (hB.at1 rfl) ?_)
  refine L_op rfl (X_len (v := s) (n := l.length) Tryd.underlying22 rfl hs.sv ?_)
  by_cases hc2 : (((200 * k : Nat) : Int) : Int) < (((l.length : Nat) : Int))
  · refine L_op rfl (X_cmp (k := .i64) (a := ((200 * k : Nat) : Int)) (b := ((l.length : Nat) : Int)) (r := true) rfl rfl rfl (decide_eq_true (p := ((((200 * k : Nat) : Int)) : Int) < ((((l.length : Nat) : Int)) : Int)) (by omega)) ?_)
    have hk : 200 * k < l.length := by omega
    have hpl := pcL_len l k
    refine L_nil ?_
    refine T_n ?_
    refine W_ct rfl ?_
    refine W_skip ?_
    refine T_n ?_
    refine W_seq ?_
    refine W_block ?_
    refine W_seq ?_
    refine W_draw 5 [[], [], [], [1, 2], [1, 2, 3], [0, 1, 2, 3, 4], [0, 1, 2, 3, 4, 5]] mixed (by kernel_rfl) ?_
    refine ⟨.det (fun val => (.int .i64 (200))), ⟨fun _ _ hv => rfl, fun _ _ _ _ _ => trivial⟩, fun val h_ W hx he => ⟨trivial, ?_⟩, ?_⟩
    · replace hx := (Upd.drew _ _).trans hx
      replace hB := hB.ext hx
      replace hC := hC.ext hx
      have hE := Upd.refl (fun _ => False) W
      refine id (X_load (p := (ptr b2 (0))) (v := (.int .i64 (200))) T3 rfl (hC.at1 rfl) ?_)
      exact ⟨hE, rfl⟩
    refine ⟨.det (fun val => s), ⟨fun _ _ hv => rfl, fun _ _ _ _ _ => trivial⟩, fun val h_ W hx he => ⟨trivial, ?_⟩, ?_⟩
    · replace hx := (Upd.drew _ _).trans hx
      replace hB := hB.ext hx
      replace hC := hC.ext hx
      have hE := Upd.refl (fun _ => False) W
      refine id (X_load (p := (ptr b1 (0))) (v := s) T22 rfl (hB.at1 rfl) ?_)
      exact ⟨hE, rfl⟩
    refine ⟨.det (fun val => (.int .i64 (((200 * k : Nat) : Int)))), ⟨fun _ _ hv => rfl, fun _ _ _ _ _ => trivial⟩, fun val h_ W hx he => ⟨trivial, ?_⟩, ?_⟩
    · replace hx := (Upd.drew _ _).trans hx
      replace hB := hB.ext hx
      replace hC := hC.ext hx
      have hE := Upd.refl (fun _ => False) W
      refine id (X_move (v := (.int .i64 (((200 * k : Nat) : Int)))) rfl ?_)
      exact ⟨hE, rfl⟩
    refine ⟨.det (fun val => (cutv s 1 (200 * k) l.length)), ⟨fun _ _ hv => rfl, fun _ _ _ _ _ => trivial⟩, fun val h_ W hx he => ⟨trivial, ?_⟩, ?_⟩
    · replace hx := (Upd.drew _ _).trans hx
      replace hB := hB.ext hx
      replace hC := hC.ext hx
      have hE := Upd.refl (fun _ => False) W
      refine id (X_slice (n := l.length) (l := 200 * k) (h' := l.length) (kl := .i64) (kh := .i64) S22 rfl hs.sv rfl rfl (by omega) (Nat.le_refl _) ?_)
      exact ⟨hE, rfl⟩
    refine ⟨.det (fun val => (.int .i64 ((((l.length - 200 * k) : Nat) : Int)))), ⟨fun _ _ hv => rfl, fun _ _ _ _ _ => trivial⟩, fun val h_ W hx he => ⟨trivial, ?_⟩, ?_⟩
    · replace hx := (Upd.drew _ _).trans hx
      replace hB := hB.ext hx
      replace hC := hC.ext hx
      have hE := Upd.refl (fun _ => False) W
      refine id (X_len (v := (cutv s 1 (200 * k) l.length)) (n := (l.length - 200 * k)) Tryd.underlying22 rfl (hs.cut (l := 200 * k) (h := l.length) (by omega) (Nat.le_refl _)).sv ?_)
      exact ⟨hE, rfl⟩
    intro val W3 hx3 he3
    replace hx3 := (Upd.drew _ _).trans hx3
    have hz3 := hx3.size
    replace hJ := hJs _ _ _ hJ (hx3.mono fun _ _ h => h.elim)
    replace hB := hB.ext hx3
    replace hC := hC.ext hx3
    refine L_op rfl (X_min (k := .i64) (a := 200) (b := (((l.length - 200 * k) : Nat) : Int)) (r := (((pcL l k).length : Nat) : Int)) rfl rfl (by rw [hpl]; split <;> omega) ?_)
    refine L_op rfl (X_assign (v := (.int .i64 ((((pcL l k).length : Nat) : Int)))) rfl ?_)
    refine L_nil ?_
    refine T_n ?_
    refine W_seq ?_
    refine W_reg ?_
    refine L_op rfl (X_move (v := (.func (.yield lp) #[] #[])) rfl ?_)
    refine L_op rfl (X_load (p := (ptr b1 (0))) (v := s) T22 rfl (hB.at1 rfl) ?_)
    refine L_op rfl (X_move (v := (.int .i64 (((200 * k : Nat) : Int)))) rfl ?_)
    refine L_op rfl (X_move (v := (.int .i64 (((200 * k : Nat) : Int)))) rfl ?_)
    refine L_op rfl (X_move (v := (.int .i64 ((((pcL l k).length : Nat) : Int)))) rfl ?_)
    refine L_op rfl (X_arith (k := .i64) (a := ((200 * k : Nat) : Int)) (b := (((pcL l k).length : Nat) : Int)) (r := ((200 * k + (pcL l k).length : Nat) : Int)) rfl rfl rfl (iadd64 (by omega) (by omega) (by omega)) ?_)
    refine L_op rfl (X_move (v := (.int .i64 (((200 * k : Nat) : Int)))) rfl ?_)
    refine L_op rfl (X_move (v := (.int .i64 ((((pcL l k).length : Nat) : Int)))) rfl ?_)
    refine L_op rfl (X_arith (k := .i64) (a := ((200 * k : Nat) : Int)) (b := (((pcL l k).length : Nat) : Int)) (r := ((200 * k + (pcL l k).length : Nat) : Int)) rfl rfl rfl (iadd64 (by omega) (by omega) (by omega)) ?_)
    refine L_op rfl (X_slice3L (n := l.length) (l := 200 * k) (h' := 200 * k + (pcL l k).length) (m := 200 * k + (pcL l k).length) (kl := .i64) (kh := .i64) (km := .i64) S22 rfl hs.sv rfl rfl rfl (Nat.le_add_right _ _) (Nat.le_refl _) (by omega) ?_)
    refine L_op rfl (X_yield (vs := [cut3v s 1 (200 * k) (200 * k + (pcL l k).length) (200 * k + (pcL l k).length)]) rfl rfl (YieldC.mono (hy k _ _ (chX_at (pcN_lt.2 hk)) hJ) ?_))
    rintro _ W2 (⟨rfl, hJ2, hu⟩ | ⟨rfl, hJx⟩)
    · replace hB := hB.upd hu fun h => hDb _ h (.inl rfl)
      replace hC := hC.upd hu fun h => hDb _ h (.inr rfl)
      refine L_op rfl (X_not (b := true) (r := false) rfl rfl ?_)
      refine L_nil ?_
      refine T_n ?_
      refine W_cf rfl ?_
      refine W_skip ?_
      refine B_n ?_
      refine T_n ?_
      refine W_reg ?_
      refine L_op rfl (X_move (v := (.int .i64 (((200 * k : Nat) : Int)))) rfl ?_)
      refine L_op rfl (X_load (p := (ptr b2 (0))) (v := (.int .i64 (200))) T3 rfl (hC.at1 rfl) ?_)
      refine L_op rfl (X_arith (k := .i64) (a := ((200 * k : Nat) : Int)) (b := 200) (r := ((200 * (k + 1) : Nat) : Int)) rfl rfl rfl (iadd64 (by omega) (by omega) (by omega)) ?_)
      refine L_op rfl (X_assign (v := (.int .i64 (((200 * (k + 1) : Nat) : Int)))) rfl ?_)
      refine L_nil ?_
      refine T_n ?_
      exact ⟨rfl, k + 1, ⟨⟨pcN_lt.2 hk, hJ2, hB, hC⟩, (by have := pcN_lt.2 hk; show pcN l - (k + 1) < pcN l - k; omega)⟩, (Out.mk rfl), ⟨rfl, trivial⟩⟩
    · refine L_op rfl (X_not (b := false) (r := true) rfl rfl ?_)
      refine L_nil ?_
      refine T_n ?_
      refine W_ct rfl ?_
      refine W_ret ?_
      refine B_r ?_
      refine T_r ?_
      refine T_r ?_
      refine B_r ?_
      exact BQ_r (End_0 Tryd.results51 (.inr ⟨k, by rw [chX_length]; exact pcN_lt.2 hk, hJx⟩))
  · refine L_op rfl (X_cmp (k := .i64) (a := ((200 * k : Nat) : Int)) (b := ((l.length : Nat) : Int)) (r := false) rfl rfl rfl (decide_eq_false (p := ((((200 * k : Nat) : Int)) : Int) < ((((l.length : Nat) : Int)) : Int)) (by omega)) ?_)
    refine L_nil ?_
    refine T_n ?_
    refine W_cf rfl ?_
    refine W_exit ?_
    refine T_e ?_
    refine T_e ?_
    refine B_x ?_
    obtain rfl : k = pcN l := by have := pcN_lt (l := l) (k := k); omega
    exact BQ_n (End_0 Tryd.results51 (.inl (by rw [chX_length]; exact hJ)))

theorem c_pieces (s : Value) (n : Nat) (w : World) (hs : SV s n) : CT Tryd.prog 32 #[s] w fun v w' => v = .func (.func 41) #[] #[ptr w.heap.size 0] ∧ Blk w' w.heap.size #[s] 22 ∧ Ext w w' ∧ w'.heap.size = w.heap.size + 1 := by
  obtain ⟨n0, hn0⟩ : ∃ n, n = w.heap.size := ⟨_, rfl⟩
  have hU : Upd (fun i => n0 ≤ i) w w := Upd.refl _ _
  refine CT_of Tryd.func32 rfl rfl rfl ?_
  refine W_seq ?_
  refine W_reg ?_
  refine L_op rfl (X_box (v := s) (c := #[s]) rfl (hs.cells) ?_)
  intro b1 w1 hn1
  have hbn1 := hn1.num; have hbs1 := hn1.size
  replace hU := hU.trans (Ext.upd hn1.ext)
  have hB1 := hn1.blk
  refine L_op rfl (X_assign (v := .nilFunc) rfl ?_)
  refine L_nil ?_
  refine T_n ?_
  refine W_seq ?_
  refine W_reg ?_
  refine L_op rfl (X_makeFunc (vs := [ptr b1 0]) rfl ?_)
  refine L_op rfl (X_assign (v := (.func (.func 41) #[] #[ptr b1 0])) rfl ?_)
  refine L_nil ?_
  refine T_n ?_
  refine W_ret ?_
  exact BQ_r (End_1 Tryd.results32 (v := .func (.func 41) #[] #[ptr b1 0]) rfl ⟨by rw [hbn1], hbn1 ▸ hB1, hU.own hn0, hbs1⟩)
end Go.Proofs.YtmggaahkfidfaaaDoor
