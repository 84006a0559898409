/-
  The walk of PackOwn. (Printed by wip/gen/t02own.py of this repo.)
-/
import Derived.Test.YtaalnnjdiaekdaaBack
import Derived.Test.YtaalnnjdiaekdaaBaseG
namespace Go.Proofs.Ytaalnnjdiaekdaa
open Go Go.SL Go.Proofs

theorem not_in3 {x y z : Value} {P : Value → Prop} (hx : P x) (hy : P y) (hz : P z) : ∀ v ∈ [x, y, z], P v :=
  List.forall_mem_cons.2 ⟨hx, List.forall_mem_cons.2 ⟨hy, List.forall_mem_cons.2 ⟨hz, fun _ h => by cases h⟩⟩⟩
theorem apart3 {x y z : Value} {a b : Nat} (hab : a ≤ b) (hx : ∀ k, obk x = some k → k < a) (hy : ∀ k, obk y = some k → a ≤ k ∧ k < b) (hz : ∀ k, obk z = some k → b ≤ k) :
    ∀ v ∈ [x, y, z], ∀ v' ∈ [x, y, z], v ≠ v' → ∀ k, obk v = some k → obk v' ≠ some k := by
  intro v hv v' hv' hne k h h'
  simp only [List.mem_cons, List.not_mem_nil, or_false] at hv hv'
  rcases hv with rfl | rfl | rfl <;> rcases hv' with rfl | rfl | rfl
  · exact hne rfl
  · have := hx k h; have := hy k h'; omega
  · have := hx k h; have := hz k h'; omega
  · have := hy k h; have := hx k h'; omega
  · exact hne rfl
  · have := hy k h; have := hz k h'; omega
  · have := hz k h; have := hx k h'; omega
  · have := hz k h; have := hy k h'; omega
  · exact hne rfl

theorem own_at (b i : Nat) : ptr b i = pof (.slice (some ⟨b, 0, none⟩) 3 3) (((i : Nat) : Int).toNat * 1) := by
  show _ = Value.pointer (some ((⟨b, 0, none⟩ : Addr).add (((i : Nat) : Int).toNat * 1)))
  rw [addr_add, Nat.zero_add, Nat.mul_one, Int.toNat_natCast]; rfl
theorem _root_.Go.SL.AnyOwn.sv {w : World} {e : TypeId} {v : Value} (h : AnyOwn w e v) : SV v (lenV v) := h.elim fun _ h => h.sv

theorem c_packOwn (bb bs : Value) (b s : List UInt8) (w : World) (hb : Rd w 1 bb b.length (b.map byteV)) (hs : Rd w 1 bs s.length (s.map byteV)) : CT Try.prog 4 #[bb, bs] w fun v w' => v = .bool true ∧ Ext w w' := by
  obtain ⟨n0, hn0⟩ : ∃ n, n = w.heap.size := ⟨_, rfl⟩
  have hU : Upd (fun i => n0 ≤ i) w w := Upd.refl _ _
  have hb_b : ∀ i, rbk bb = some i → i < n0 := by rw [hn0]; exact fun i hi => hb.bound (by decide) hi
  have hs_b : ∀ i, rbk bs = some i → i < n0 := by rw [hn0]; exact fun i hi => hs.bound (by decide) hi
  refine CT_of Try.func4 rfl rfl rfl ?_
  refine W_seq ?_
  refine W_reg ?_
  refine L_op rfl (X_assign (v := (.bool (false))) rfl ?_)
  refine L_nil ?_
  refine T_n ?_
  refine W_seq ?_
  refine W_seq ?_
  refine W_reg ?_
  refine L_op rfl (X_move (v := bb) rfl ?_)
  refine L_op rfl (X_len (v := bb) (n := b.length) Try.underlying22 rfl hb.sv ?_)
  by_cases hc1 : (((b.length : Nat) : Int) : Int) > (200)
  · refine L_op rfl (X_cmp (k := .i64) (a := ((b.length : Nat) : Int)) (b := 200) (r := true) rfl rfl rfl (decide_eq_true (p := ((200) : Int) < ((((b.length : Nat) : Int)) : Int)) (by omega)) ?_)
    refine L_op rfl (X_move (v := (.bool (true))) rfl ?_)
    refine L_gn (dj := 20) (t := true) rfl rfl rfl rfl ?_
    refine L_gn (dj := 20) (t := true) rfl rfl rfl rfl ?_
    refine L_gn (dj := 20) (t := true) rfl rfl rfl rfl ?_
    refine L_op rfl (X_pick (t := true) (v := (.bool (true))) rfl rfl ?_)
    refine L_nil ?_
    refine T_n ?_
    refine W_ct rfl ?_
    refine W_seq ?_
    refine W_reg ?_
    refine L_op rfl (X_fn (vs := []) en8 rfl (CT.mono (c_wakes _) ?_))
    rintro vb2 w2 ⟨hvb2, hu2⟩
    have hz2 := hu2.size
    replace hb := hb.ext hu2
    replace hs := hs.ext hu2
    replace hU := hU.trans (Ext.upd hu2)
    subst hvb2
    refine L_op rfl (X_assign (v := (.bool (true))) rfl ?_)
    refine L_nil ?_
    refine T_n ?_
    refine W_ret ?_
    refine T_r ?_
    exact BQ_r (End_1 Try.results4 (v := .bool true) rfl ⟨rfl, hU.own hn0⟩)
  · refine L_op rfl (X_cmp (k := .i64) (a := ((b.length : Nat) : Int)) (b := 200) (r := false) rfl rfl rfl (decide_eq_false (p := ((200) : Int) < ((((b.length : Nat) : Int)) : Int)) (by omega)) ?_)
    refine L_op rfl (X_move (v := (.bool (false))) rfl ?_)
    refine L_gy (dj := 20) rfl rfl rfl (X_move (v := bs) rfl ?_)
    refine L_gy (dj := 20) rfl rfl rfl (X_len (v := bs) (n := s.length) Try.underlying22 rfl hs.sv ?_)
    by_cases hc3 : (((s.length : Nat) : Int) : Int) > (200)
    · refine L_gy (dj := 20) rfl rfl rfl (X_cmp (k := .i64) (a := ((s.length : Nat) : Int)) (b := 200) (r := true) rfl rfl rfl (decide_eq_true (p := ((200) : Int) < ((((s.length : Nat) : Int)) : Int)) (by omega)) ?_)
      refine L_op rfl (X_pick (t := false) (v := (.bool (true))) rfl rfl ?_)
      refine L_nil ?_
      refine T_n ?_
      refine W_ct rfl ?_
      refine W_seq ?_
      refine W_reg ?_
      refine L_op rfl (X_fn (vs := []) en8 rfl (CT.mono (c_wakes _) ?_))
      rintro vb4 w4 ⟨hvb4, hu4⟩
      have hz4 := hu4.size
      replace hb := hb.ext hu4
      replace hs := hs.ext hu4
      replace hU := hU.trans (Ext.upd hu4)
      subst hvb4
      refine L_op rfl (X_assign (v := (.bool (true))) rfl ?_)
      refine L_nil ?_
      refine T_n ?_
      refine W_ret ?_
      refine T_r ?_
      exact BQ_r (End_1 Try.results4 (v := .bool true) rfl ⟨rfl, hU.own hn0⟩)
    · refine L_gy (dj := 20) rfl rfl rfl (X_cmp (k := .i64) (a := ((s.length : Nat) : Int)) (b := 200) (r := false) rfl rfl rfl (decide_eq_false (p := ((200) : Int) < ((((s.length : Nat) : Int)) : Int)) (by omega)) ?_)
      have hsl : s.length ≤ 255 := by omega
      refine L_op rfl (X_pick (t := false) (v := (.bool (false))) rfl rfl ?_)
      refine L_nil ?_
      refine T_n ?_
      refine W_cf rfl ?_
      refine W_skip ?_
      refine T_n ?_
      refine W_seq ?_
      refine W_draw 5 [[], [0], [], [2], [0, 1], [0, 1, 2, 3, 4]] mixed (by kernel_rfl) ?_
      refine ⟨.det (fun val => bb), ⟨fun _ _ hv => rfl, fun _ _ _ _ _ => trivial⟩, fun val h_ W hx he => ⟨trivial, ?_⟩, ?_⟩
      · replace hx := (Upd.drew _ _).trans hx
        replace hb := hb.ext hx
        replace hs := hs.ext hx
        have hE := Upd.refl (fun _ => False) W
        refine id (X_move (v := bb) rfl ?_)
        exact ⟨hE, rfl⟩
      refine ⟨.det (fun val => (strV (b))), ⟨fun _ _ hv => rfl, fun _ _ _ _ _ => trivial⟩, fun val h_ W hx he => ⟨trivial, ?_⟩, ?_⟩
      · replace hx := (Upd.drew _ _).trans hx
        replace hb := hb.ext hx
        replace hs := hs.ext hx
        have hE := Upd.refl (fun _ => False) W
        refine id (X_str (v := bb) (l := b) Try.underlying22 Try.underlying5 Try.underlying9 rfl hb ?_)
        exact ⟨hE, rfl⟩
      refine ⟨.det (fun val => bs), ⟨fun _ _ hv => rfl, fun _ _ _ _ _ => trivial⟩, fun val h_ W hx he => ⟨trivial, ?_⟩, ?_⟩
      · replace hx := (Upd.drew _ _).trans hx
        replace hb := hb.ext hx
        replace hs := hs.ext hx
        have hE := Upd.refl (fun _ => False) W
        refine id (X_move (v := bs) rfl ?_)
        exact ⟨hE, rfl⟩
      refine ⟨.det (fun val => (strV (s))), ⟨fun _ _ hv => rfl, fun _ _ _ _ _ => trivial⟩, fun val h_ W hx he => ⟨trivial, ?_⟩, ?_⟩
      · replace hx := (Upd.drew _ _).trans hx
        replace hb := hb.ext hx
        replace hs := hs.ext hx
        have hE := Upd.refl (fun _ => False) W
        refine id (X_str (v := bs) (l := s) Try.underlying22 Try.underlying5 Try.underlying9 rfl hs ?_)
        exact ⟨hE, rfl⟩
      refine ⟨.det (fun val => (strV (b))), ⟨fun _ _ hv => rfl, fun _ _ _ _ _ => trivial⟩, fun val h_ W hx he => ⟨trivial, ?_⟩, ?_⟩
      · replace hx := (Upd.drew _ _).trans hx
        replace hb := hb.ext hx
        replace hs := hs.ext hx
        have hE := Upd.refl (fun _ => False) W
        refine id (X_assign (v := (strV (b))) rfl ?_)
        exact ⟨hE, rfl⟩
      intro val W5 hx5 he5
      replace hx5 := (Upd.drew _ _).trans hx5
      have hz5 := hx5.size
      replace hb := hb.ext hx5
      replace hs := hs.ext hx5
      replace hU := hU.trans (Ext.upd hx5)
      refine L_op rfl (X_assign (v := (strV (s))) rfl ?_)
      refine L_nil ?_
      refine T_n ?_
      refine W_seq ?_
      refine W_reg ?_
      refine L_op rfl (X_move (v := bb) rfl ?_)
      refine L_op rfl (X_fn (vs := [bb, (.int .u64 (77)), (.int .i64 (3))]) en13 rfl (CT.mono (c_put _ b 77 3 _ (by omega) hb) ?_))
      rintro v6 w6 ⟨hO6, hu6⟩
      have hz6 := hu6.size
      replace hO6 := hO6.eq (n' := (b ++ numB 77 (wideN 3)).length) (xs' := (b ++ numB 77 (wideN 3)).map byteV) (by rw [List.length_append, numB_length]) rfl
      replace hb := hb.ext hu6
      replace hs := hs.ext hu6
      replace hU := hU.trans (Ext.upd hu6)
      have hO6_b : ∀ b, obk v6 = some b → b < w6.heap.size := fun b hb => (hO6.lt hb).2
      refine L_op rfl (X_move (v := bb) rfl ?_)
      refine L_op rfl (X_move (v := bs) rfl ?_)
      refine L_op rfl (X_fn (vs := [bb, bs]) en14 rfl (CT.mono (c_putBytes _ _ (b) (s) _ (by omega) hb hs) ?_))
      rintro v7 w7 ⟨hO7, hu7⟩
      have hz7 := hu7.size
      replace hO7 := hO7.eq (n' := (b ++ sizedB (s)).length) (xs' := (b ++ sizedB (s)).map byteV) rfl rfl
      replace hb := hb.ext hu7
      replace hs := hs.ext hu7
      replace hU := hU.trans (Ext.upd hu7)
      replace hO6 := hO6.ext hu7
      have hO7_b : ∀ b, obk v7 = some b → b < w7.heap.size := fun b hb => (hO7.lt hb).2
      refine L_op rfl (X_assign (v := v6) rfl ?_)
      refine L_op rfl (X_assign (v := v7) rfl ?_)
      refine L_nil ?_
      refine T_n ?_
      refine W_seq ?_
      refine W_reg ?_
      refine L_op rfl (X_move (v := bs) rfl ?_)
      refine L_op rfl (X_fn (vs := [(.slice none 0 0), bs]) en14 rfl (CT.mono (c_putBytes (.slice none 0 0) _ [] (s) _ (by decide) (Rd.nil _ 1) hs) ?_))
      rintro v8 w8 ⟨hO8, hu8⟩
      have hz8 := hu8.size
      replace hO8 := hO8.eq (n' := (sizedB (s)).length) (xs' := (sizedB (s)).map byteV) rfl rfl
      replace hb := hb.ext hu8
      replace hs := hs.ext hu8
      replace hU := hU.trans (Ext.upd hu8)
      replace hO6 := hO6.ext hu8
      replace hO7 := hO7.ext hu8
      have hO8_b : ∀ b, obk v8 = some b → b < w8.heap.size := fun b hb => (hO8.lt hb).2
      refine L_op rfl (X_assign (v := v8) rfl ?_)
      refine L_nil ?_
      refine T_n ?_
      refine W_seq ?_
      refine W_reg ?_
      refine L_op rfl (X_move (v := v8) rfl ?_)
      refine L_op rfl (X_str (v := v8) (l := sizedB s) Try.underlying22 Try.underlying5 Try.underlying9 rfl hO8.rd ?_)
      refine L_op rfl (X_assign (v := (strV (sizedB s))) rfl ?_)
      refine L_nil ?_
      refine T_n ?_
      refine W_seq ?_
      refine W_reg ?_
      refine L_op rfl (X_move (v := v8) rfl ?_)
      refine L_op rfl (X_fn (vs := [v8, (.int .i64 (255))]) en15 rfl (CT.mono (c_takeBytes _ (sizedB s) 255 _ hO8.rd) ?_))
      rintro vt9 w9 ⟨s9, r9, hvt9, hs9, hr9, hrb9, hu9⟩
      have hz9 := hu9.size
      rw [(show takeE (sizedB s) 255 = 0 from List.append_nil (sizedB s) ▸ pb_e (t := []) hsl)] at hvt9; subst hvt9; rw [(show takeS (sizedB s) 255 = s from List.append_nil (sizedB s) ▸ pb_s (t := []) hsl)] at hs9; rw [(show takeR (sizedB s) 255 = [] from List.append_nil (sizedB s) ▸ pb_r (t := []) hsl)] at hr9
      have hr9_b : ∀ b, rbk r9 = some b → b < w8.heap.size := fun b hb => (hO8.rd.bound (by decide) (hrb9 b hb))
      replace hb := hb.ext hu9
      replace hs := hs.ext hu9
      replace hU := hU.trans (Ext.upd hu9)
      replace hO6 := hO6.ext hu9
      replace hO7 := hO7.ext hu9
      replace hO8 := hO8.ext hu9
      have hs9_b : ∀ b, obk s9 = some b → b < w9.heap.size := fun b hb => (hs9.lt hb).2
      have hcsv := hs9.sv
      refine L_op rfl (X_move (v := (.tuple #[s9, r9, (.int .i64 (0))])) rfl ?_)
      refine L_op rfl (X_extract (l := [s9, r9, (.int .i64 (0))]) (v := s9) rfl rfl ?_)
      refine L_op rfl (X_extract (l := [s9, r9, (.int .i64 (0))]) (v := r9) rfl rfl ?_)
      refine L_op rfl (X_extract (l := [s9, r9, (.int .i64 (0))]) (v := (.int .i64 (0))) rfl rfl ?_)
      refine L_op rfl (X_assign (v := s9) rfl ?_)
      refine L_op rfl (X_assign (v := r9) rfl ?_)
      refine L_op rfl (X_assign (v := (.int .i64 (0))) rfl ?_)
      refine L_nil ?_
      refine T_n ?_
      refine W_seq ?_
      refine W_seq ?_
      refine W_reg ?_
      refine L_op rfl (X_move (v := v6) rfl ?_)
      refine L_op rfl (X_move (v := v7) rfl ?_)
      refine L_op rfl (X_move (v := s9) rfl ?_)
      refine L_op rfl (X_buildSlice1 (vs := [v6, v7, s9]) S38 (by decide) rfl rfl (List.forall_mem_cons.2 ⟨(hO6.sv.cells), (List.forall_mem_cons.2 ⟨(hO7.sv.cells), (List.forall_mem_cons.2 ⟨(hs9.sv.cells), (fun _ h => by cases h)⟩)⟩)⟩) ?_)
      intro b10 w10 hn10
      have hbn10 := hn10.num; have hbs10 := hn10.size
      replace hb := hb.ext hn10.ext
      replace hs := hs.ext hn10.ext
      replace hU := hU.trans (Ext.upd hn10.ext)
      replace hO6 := hO6.ext hn10.ext
      replace hO7 := hO7.ext hn10.ext
      replace hO8 := hO8.ext hn10.ext
      replace hs9 := hs9.ext hn10.ext
      replace hr9 := hr9.ext hn10.ext
      have hB10 := hn10.blk
      refine L_op rfl (X_len (v := (.slice (some ⟨b10, 0, none⟩) 3 3)) (n := 3) Try.underlying38 rfl (hB10.own (B := 0) (n := 3) (c := 3) (sz := 1) (Nat.zero_le _) (Nat.le_refl _) (by decide) (Nat.le_refl 3)).sv ?_)
      refine L_op rfl (X_move (v := (.int .i64 (0))) rfl ?_)
      refine L_nil ?_
      refine T_n ?_
      refine W_block ?_
      have hA0 : ∀ v ∈ [v6, v7, s9], AnyOwn w10 5 v := not_in3 (AnyOwn.of hO6) (AnyOwn.of hO7) (AnyOwn.of hs9)
      have hD := apart3 (x := v6) (y := v7) (z := s9) (a := w6.heap.size) (b := w8.heap.size) (by omega) hO6_b (fun k h => ⟨(hO7.lt h).1, by have := hO7_b k h; omega⟩) (fun k h => (hs9.lt h).1)
      have hN : ∀ v ∈ [v6, v7, s9], ∀ k, obk v = some k → n0 ≤ k ∧ k < b10 := not_in3 (fun k h => ⟨by have := (hO6.lt h).1; omega, by have := hO6_b k h; omega⟩) (fun k h => ⟨by have := (hO7.lt h).1; omega, by have := hO7_b k h; omega⟩) (fun k h => ⟨by have := (hs9.lt h).1; omega, by have := hs9_b k h; omega⟩)
      have hR : ∀ v ∈ [v6, v7, s9], ∀ k, obk v = some k → ¬ obk v8 = some k := not_in3 (fun k h h2 => by have := hO6_b k h; have := (hO8.lt h2).1; omega) (fun k h h2 => by have := hO7_b k h; have := (hO8.lt h2).1; omega) (fun k h h2 => by have := (hs9.lt h).1; have := hO8_b k h2; omega)
      have hL : Blk w10 b10 [v6, v7, s9].toArray 22 := hB10
      have hUl : Upd (fun k => ∃ v ∈ [v6, v7, s9], obk v = some k) w10 w10 := Upd.refl _ _
      refine W_loop (α := Nat) [15, 16, 50, 51, 52, 53, 54, 55, 56, 57, 58, 59, 60, 61, 62, 63, 64, 65, 66, 67, 68] (fun i => [(50, (.int .i64 (((i : Nat) : Int))))]) (fun i w_ => i ≤ 3 ∧ (∀ v ∈ [v6, v7, s9], AnyOwn w_ 5 v) ∧ Upd (fun k => ∃ v ∈ [v6, v7, s9], obk v = some k) w10 w_) (fun i => 3 - i) ⟨rfl, 0, ⟨by decide, hA0, hUl⟩, Out.refl _ _, ⟨rfl, trivial⟩⟩ ?_
      rintro i w11 _ ⟨hi3, hA, hUl⟩
      refine W_seq ?_
      refine W_reg ?_
      by_cases hc12 : (((i : Nat) : Int) : Int) < (3)
      · refine L_op rfl (X_cmp (k := .i64) (a := ((i : Nat) : Int)) (b := 3) (r := true) rfl rfl rfl (decide_eq_true (p := ((((i : Nat) : Int)) : Int) < ((3) : Int)) (by omega)) ?_)
        have hi : i < 3 := by omega
        refine L_nil ?_
        refine T_n ?_
        refine W_seq ?_
        refine W_ct rfl ?_
        refine W_skip ?_
        refine T_n ?_
        refine W_seq ?_
        refine W_block ?_
        refine W_seq ?_
        refine W_reg ?_
        refine L_op rfl (X_idx (v := (.slice (some ⟨b10, 0, none⟩) 3 3)) (n := 3) (k := .i64) (i := ((i : Nat) : Int)) S38 rfl (hB10.own (B := 0) (n := 3) (c := 3) (sz := 1) (Nat.zero_le _) (Nat.le_refl _) (by decide) (Nat.le_refl 3)).sv rfl (by omega) (by omega) ?_)
        have hLw := hL.upd hUl fun h => by obtain ⟨v, hv, h⟩ := h; have := hN v hv _ h; omega
        obtain ⟨v, hve⟩ : ∃ v, [v6, v7, s9][i]? = some v := ⟨_, List.getElem?_eq_getElem hi⟩
        have hvm : v ∈ [v6, v7, s9] := List.mem_of_getElem? hve
        refine L_op rfl (X_load (p := ptr b10 i) (v := v) T22 (by rw [show ptr b10 i = pof (.slice (some ⟨b10, 0, none⟩) 3 3) (((i : Nat) : Int).toNat * 1) from own_at b10 i]; rfl) (hLw.at1 (by simpa using hve)) ?_)
        refine L_op rfl (X_assign (v := v) rfl ?_)
        refine L_nil ?_
        refine T_n ?_
        refine W_seq ?_
        refine W_reg ?_
        refine L_op rfl (X_move (v := v) rfl ?_)
        refine L_op rfl (X_len (v := v) (n := lenV v) Try.underlying22 rfl (hA v hvm).sv ?_)
        refine L_op rfl (X_move (v := (.int .i64 (0))) rfl ?_)
        refine L_nil ?_
        refine T_n ?_
        refine W_block ?_
        refine W_loop (α := Nat) [16, 56, 57, 58, 59, 60, 61, 62, 63, 64, 65, 66, 67] (fun j => [(56, (.int .i64 (((j : Nat) : Int))))]) (fun j w_ => j ≤ lenV v ∧ (∀ v ∈ [v6, v7, s9], AnyOwn w_ 5 v) ∧ Upd (fun k => ∃ v ∈ [v6, v7, s9], obk v = some k) w10 w_) (fun j => lenV v - j) ⟨rfl, 0, ⟨Nat.zero_le _, hA, hUl⟩, Out.refl _ _, ⟨rfl, trivial⟩⟩ ?_
        rintro j w13 _ ⟨hjl, hA, hUl⟩
        have hmx := (hA v hvm).sv.len
        refine W_seq ?_
        refine W_reg ?_
        by_cases hc14 : (((j : Nat) : Int) : Int) < (((lenV v : Nat) : Int))
        · refine L_op rfl (X_cmp (k := .i64) (a := ((j : Nat) : Int)) (b := ((lenV v : Nat) : Int)) (r := true) rfl rfl rfl (decide_eq_true (p := ((((j : Nat) : Int)) : Int) < ((((lenV v : Nat) : Int)) : Int)) (by omega)) ?_)
          have hj : j < lenV v := by omega
          refine L_nil ?_
          refine T_n ?_
          refine W_seq ?_
          refine W_ct rfl ?_
          refine W_skip ?_
          refine T_n ?_
          refine W_seq ?_
          refine W_block ?_
          refine W_seq ?_
          refine W_reg ?_
          refine L_op rfl (X_move (v := (.int .i64 (((j : Nat) : Int)))) rfl ?_)
          refine L_op rfl (X_assign (v := (.int .i64 (((j : Nat) : Int)))) rfl ?_)
          refine L_nil ?_
          refine T_n ?_
          refine W_reg ?_
          refine L_op rfl (X_move (v := v) rfl ?_)
          refine L_op rfl (X_move (v := (.int .i64 (((j : Nat) : Int)))) rfl ?_)
          refine L_op rfl (X_move (v := v) rfl ?_)
          refine L_op rfl (X_move (v := (.int .i64 (((j : Nat) : Int)))) rfl ?_)
          refine L_op rfl (X_idx (v := v) (n := lenV v) (k := .i64) (i := ((j : Nat) : Int)) S22 rfl (hA v hvm).sv rfl (by omega) (by omega) ?_)
          obtain ⟨xs, hX⟩ := hA v hvm
          have hxl : xs.length = lenV v := by have := hX.1; rw [List.length_map, Nat.mul_one] at this; exact this
          refine L_op rfl (X_load (v := byteV (xs[j]'(by omega))) T5 rfl (hX.rd.cell (by rw [show (((j : Nat) : Int).toNat * 1) = j by omega, List.getElem?_map, List.getElem?_eq_getElem (by omega)]; rfl)) ?_)
          obtain ⟨y, hy⟩ := u8_any (BitVec.ofInt 8 ((xs[j]'(by omega)).toNat : Int) ^^^ BitVec.ofInt 8 255).toNat
          refine L_op rfl (X_arith (k := .u8) (a := ((xs[j]'(by omega)).toNat : Int)) (b := 255) (r := (y.toNat : Int)) rfl rfl rfl hy ?_)
          refine L_op rfl (X_idx (v := v) (n := lenV v) (k := .i64) (i := ((j : Nat) : Int)) S22 rfl (hA v hvm).sv rfl (by omega) (by omega) ?_)
          refine L_op0 (X_storeOwn (i := ((j : Nat) : Int).toNat * 1) (u := byteV y) T5 hX (by omega) rfl rfl rfl ?_)
          intro w9 hO9 hu9
          replace hA : ∀ v ∈ [v6, v7, s9], AnyOwn w9 5 v := fun v' hv' => by
            by_cases hvv : v' = v
            · subst hvv; rw [← List.map_set] at hO9; exact ⟨_, hO9⟩
            · obtain ⟨ys, hY⟩ := hA v' hv'; exact ⟨ys, hY.upd hu9 fun k hk h => hD v' hv' v hvm hvv k hk h⟩
          replace hUl := hUl.trans (hu9.mono fun k _ h => ⟨v, hvm, h⟩)
          refine L_nil ?_
          refine B_n ?_
          refine T_n ?_
          refine W_reg ?_
          refine L_op rfl (X_arith (k := .i64) (a := ((j : Nat) : Int)) (b := 1) (r := ((j + 1 : Nat) : Int)) rfl rfl rfl (iadd64 (by omega) (by omega) (by omega)) ?_)
          refine L_op rfl (X_move (v := (.int .i64 (((j + 1 : Nat) : Int)))) rfl ?_)
          refine L_nil ?_
          refine T_n ?_
          exact ⟨rfl, j + 1, ⟨⟨hj, hA, hUl⟩, (by show lenV v - (j + 1) < lenV v - j; omega)⟩, (Out.mk rfl), ⟨rfl, trivial⟩⟩
        · refine L_op rfl (X_cmp (k := .i64) (a := ((j : Nat) : Int)) (b := ((lenV v : Nat) : Int)) (r := false) rfl rfl rfl (decide_eq_false (p := ((((j : Nat) : Int)) : Int) < ((((lenV v : Nat) : Int)) : Int)) (by omega)) ?_)
          refine L_nil ?_
          refine T_n ?_
          refine W_seq ?_
          refine W_cf rfl ?_
          refine W_exit ?_
          refine T_e ?_
          refine T_e ?_
          refine B_x ?_
          refine B_n ?_
          refine T_n ?_
          refine W_reg ?_
          refine L_op rfl (X_arith (k := .i64) (a := ((i : Nat) : Int)) (b := 1) (r := ((i + 1 : Nat) : Int)) rfl rfl rfl (iadd64 (by omega) (by omega) (by omega)) ?_)
          refine L_op rfl (X_move (v := (.int .i64 (((i + 1 : Nat) : Int)))) rfl ?_)
          refine L_nil ?_
          refine T_n ?_
          exact ⟨rfl, i + 1, ⟨⟨hi, hA, hUl⟩, (by show 3 - (i + 1) < 3 - i; omega)⟩, (Out.in_ rfl rfl (Out.mk rfl)), ⟨rfl, trivial⟩⟩
      · refine L_op rfl (X_cmp (k := .i64) (a := ((i : Nat) : Int)) (b := 3) (r := false) rfl rfl rfl (decide_eq_false (p := ((((i : Nat) : Int)) : Int) < ((3) : Int)) (by omega)) ?_)
        have hUa := hUl.mono (D' := fun k => n0 ≤ k) fun k _ hk => by obtain ⟨v, hv, hk⟩ := hk; exact (hN v hv k hk).1
        replace hb := hb.upd hUl fun i hi hk => by obtain ⟨v, hv, hk⟩ := hk; have := hN v hv i hk; have := hb_b _ hi; omega
        replace hs := hs.upd hUl fun i hi hk => by obtain ⟨v, hv, hk⟩ := hk; have := hN v hv i hk; have := hs_b _ hi; omega
        replace hO8 := hO8.upd hUl fun i hi hk => by obtain ⟨v, hv, hk⟩ := hk; exact hR v hv i hk hi
        replace hU := hU.trans hUa
        refine L_nil ?_
        refine T_n ?_
        refine W_seq ?_
        refine W_cf rfl ?_
        refine W_exit ?_
        refine T_e ?_
        refine T_e ?_
        refine B_x ?_
        refine T_n ?_
        refine W_seq ?_
        refine W_reg ?_
        refine L_op rfl (X_move (v := bb) rfl ?_)
        refine L_op rfl (X_str (v := bb) (l := b) Try.underlying22 Try.underlying5 Try.underlying9 rfl hb ?_)
        refine L_op rfl (X_move (v := (strV (b))) rfl ?_)
        refine L_op rfl (X_scmp (a := b) (b := b) (r := true) rfl rfl rfl (by show ((b : List UInt8) == b) = true; exact beq_self_eq_true _) ?_)
        refine L_op rfl (X_move (v := (.bool (true))) rfl ?_)
        refine L_gy (dj := 73) rfl rfl rfl (X_move (v := bs) rfl ?_)
        refine L_gy (dj := 73) rfl rfl rfl (X_str (v := bs) (l := s) Try.underlying22 Try.underlying5 Try.underlying9 rfl hs ?_)
        refine L_gy (dj := 73) rfl rfl rfl (X_move (v := (strV (s))) rfl ?_)
        refine L_gy (dj := 73) rfl rfl rfl (X_scmp (a := s) (b := s) (r := true) rfl rfl rfl (by show ((s : List UInt8) == s) = true; exact beq_self_eq_true _) ?_)
        refine L_op rfl (X_pick (t := true) (v := (.bool (true))) rfl rfl ?_)
        refine L_op rfl (X_move (v := (.bool (true))) rfl ?_)
        refine L_gy (dj := 79) rfl rfl rfl (X_move (v := v8) rfl ?_)
        refine L_gy (dj := 79) rfl rfl rfl (X_str (v := v8) (l := sizedB s) Try.underlying22 Try.underlying5 Try.underlying9 rfl hO8.rd ?_)
        refine L_gy (dj := 79) rfl rfl rfl (X_move (v := (strV (sizedB s))) rfl ?_)
        refine L_gy (dj := 79) rfl rfl rfl (X_scmp (a := sizedB s) (b := sizedB s) (r := true) rfl rfl rfl (by show ((sizedB s : List UInt8) == sizedB s) = true; exact beq_self_eq_true _) ?_)
        refine L_op rfl (X_pick (t := true) (v := (.bool (true))) rfl rfl ?_)
        refine L_op rfl (X_move (v := (.bool (true))) rfl ?_)
        refine L_gy (dj := 85) rfl rfl rfl (X_move (v := s9) rfl ?_)
        obtain ⟨xc, hC⟩ := hA s9 (by simp)
        refine L_gy (dj := 85) rfl rfl rfl (X_len (v := s9) (n := s.length) Try.underlying22 rfl hcsv ?_)
        refine L_gy (dj := 85) rfl rfl rfl (X_move (v := bs) rfl ?_)
        refine L_gy (dj := 85) rfl rfl rfl (X_len (v := bs) (n := s.length) Try.underlying22 rfl hs.sv ?_)
        refine L_gy (dj := 85) rfl rfl rfl (X_cmp (k := .i64) (a := ((s.length : Nat) : Int)) (b := ((s.length : Nat) : Int)) (r := true) rfl rfl rfl (decide_eq_true rfl) ?_)
        refine L_op rfl (X_pick (t := true) (v := (.bool (true))) rfl rfl ?_)
        refine L_op rfl (X_move (v := (.bool (true))) rfl ?_)
        refine L_gy (dj := 92) rfl rfl rfl (X_fn (vs := []) en8 rfl (CT.mono (c_wakes _) ?_))
        rintro vb15 w15 ⟨hvb15, hu15⟩
        have hz15 := hu15.size
        replace hb := hb.ext hu15
        replace hs := hs.ext hu15
        replace hO8 := hO8.ext hu15
        replace hU := hU.trans (Ext.upd hu15)
        subst hvb15
        refine L_op rfl (X_pick (t := true) (v := (.bool (true))) rfl rfl ?_)
        refine L_op rfl (X_assign (v := (.bool (true))) rfl ?_)
        refine L_nil ?_
        refine T_n ?_
        refine W_ret ?_
        exact BQ_r (End_1 Try.results4 (v := .bool true) rfl ⟨rfl, hU.own hn0⟩)
end Go.Proofs.Ytaalnnjdiaekdaa
