/-
  The references of chapter 02, in chapter 06. (Printed by wip/gen/t06q.py of this repo.)
-/
import Derived.Test.YtmddmghgkkjbiaaDoorSame
import Derived.Test.YtmddmghgkkjbiaaDoorBaseG
namespace Go.Proofs.YtmddmghgkkjbiaaDoor
open Go Go.SL Go.Proofs
set_option linter.unusedVariables false

theorem wide_ref (n : Int) : min (max n 1) 8 = wideI n := by unfold wideI; omega
def mixB (a b : List UInt8) (i : Nat) : List UInt8 := a.take i ++ b.drop i
theorem mixB_length {a b : List UInt8} {i n : Nat} (ha : i ≤ a.length) (hb : b.length = n) (hi : i ≤ n) : (mixB a b i).length = n := by
  unfold mixB; rw [List.length_append, List.length_take, List.length_drop]; omega
theorem mixB_step {a b : List UInt8} {i : Nat} (ha : i < a.length) (hb : i < b.length) : (mixB a b i).set i (a[i]) = mixB a b (i + 1) := by
  unfold mixB
  have hl : (a.take i).length = i := by rw [List.length_take]; omega
  rw [List.set_append_right _ _ (by omega), hl, Nat.sub_self, List.drop_eq_getElem_cons hb, List.set_cons_zero, show a.take (i + 1) = a.take i ++ [a[i]] by rw [List.take_add_one, List.getElem?_eq_getElem ha]; rfl, List.append_assoc]
  rfl
theorem set_bytes {l : List UInt8} {i : Nat} {x : UInt8} : ((l.map byteV).toArray.setIfInBounds i (byteV x)) = ((l.set i x).map byteV).toArray := by
  rw [List.map_set]; simp
theorem mix_fill {l : List UInt8} (h : l.length ≤ 256) : mixB l (List.replicate 256 0) l.length = fillL l := by
  unfold mixB fillL
  rw [if_neg (by omega), List.take_length, List.drop_replicate]
theorem valB_take {l : List UInt8} : ∀ {i : Nat} (hi : i < l.length), valB (l.take (i + 1)) = valB (l.take i) + 256 ^ i * (l[i]).toNat := by
  induction l with
  | nil => intro i hi; simp at hi
  | cons x t ih =>
    intro i hi
    cases i with
    | zero => simp [valB]
    | succ i =>
      have := ih (i := i) (by simpa using hi)
      simp only [List.take_succ_cons, valB, this, List.getElem_cons_succ, Nat.pow_succ]
      rw [Nat.mul_add, Nat.mul_comm (256 ^ i) 256, Nat.mul_assoc, Nat.add_assoc]
theorem p256 {i : Nat} (hi : i < 8) : 256 ^ i ≤ 72057594037927936 := Nat.le_trans (Nat.pow_le_pow_right (by decide) (show i ≤ 7 by omega)) (by decide)
theorem shl_at {x : UInt8} {i : Nat} (hi : i < 8) : IntKind.u64.wrap ((x.toNat : Int) * 2 ^ (min (8 * (i : Int)).toNat IntKind.u64.bits)) = ((256 ^ i * x.toNat : Nat) : Int) := by
  have hp := p256 hi
  have hx := x.toNat_lt
  have e : min (8 * (i : Int)).toNat IntKind.u64.bits = 8 * i := by show min _ 64 = _; omega
  have e3 : (2 : Int) ^ (8 * i) = ((256 ^ i : Nat) : Int) := by rw [Int.pow_mul, Int.natCast_pow]; rfl
  rw [e, e3, ← Int.natCast_mul, Nat.mul_comm]
  have : 256 ^ i * x.toNat ≤ 72057594037927936 * 255 := Nat.mul_le_mul hp (by omega)
  exact Go.SL.u64_wrap (Int.natCast_nonneg _) (by generalize 256 ^ i * x.toNat = y at this; omega)
theorem or_at {a i : Nat} {x : UInt8} (hi : i < 8) (ha : a < 256 ^ i) : iop .or .u64 (a : Int) ((256 ^ i * x.toNat : Nat) : Int) = ((a + 256 ^ i * x.toNat : Nat) : Int) := by
  have hp := p256 hi
  have hx := x.toNat_lt
  have e3 : 256 ^ i = 2 ^ (8 * i) := by rw [Nat.pow_mul]
  have hm : 256 ^ i * x.toNat ≤ 72057594037927936 * 255 := Nat.mul_le_mul hp (by omega)
  have h1 : 2 ^ (8 * i) * x.toNat + a = 2 ^ (8 * i) * x.toNat ||| a := Nat.two_pow_add_eq_or_of_lt (by rw [← e3]; exact ha) _
  rw [← e3] at h1
  generalize 256 ^ i * x.toNat = y at hm h1 ⊢
  have ha' : a < 72057594037927936 := Nat.lt_of_lt_of_le ha hp
  have e1 : (BitVec.ofInt 64 (a : Int)).toNat = a := by rw [BitVec.toNat_ofInt]; omega
  have e2 : (BitVec.ofInt 64 (y : Int)).toNat = y := by rw [BitVec.toNat_ofInt]; omega
  show IntKind.u64.wrap ((BitVec.ofInt 64 (a : Int) ||| BitVec.ofInt 64 (y : Int)).toNat : Int) = _
  rw [BitVec.toNat_or, e1, e2, Nat.or_comm, ← h1, Nat.add_comm]
  exact Go.SL.u64_wrap (Int.natCast_nonneg _) (by omega)
theorem valB_take_lt {l : List UInt8} {i : Nat} (hi : i ≤ l.length) : valB (l.take i) < 256 ^ i := by
  have := valB_lt (l.take i)
  rwa [List.length_take, Nat.min_eq_left hi] at this
theorem shr_at {n i : Nat} (hi : i < 8) : Int.fdiv (n : Int) (2 ^ (min (8 * (i : Int)).toNat IntKind.u64.bits)) = ((n / 256 ^ i : Nat) : Int) := by
  have e : min (8 * (i : Int)).toNat IntKind.u64.bits = 8 * i := by show min _ 64 = _; omega
  have e3 : (2 : Int) ^ (8 * i) = ((256 ^ i : Nat) : Int) := by rw [Int.pow_mul, Int.natCast_pow]; rfl
  rw [e, e3, Int.fdiv_eq_ediv_of_nonneg _ (Int.natCast_nonneg _), ← Int.natCast_ediv]
theorem numB_step (n i : Nat) : numB n (i + 1) = numB n i ++ [byteAt n i] := by unfold numB; rw [List.range_succ, List.map_append]; rfl

theorem c_wideR (n : Int) (w : World) : CT Tryd.prog 51 #[(.int .i64 (n))] w fun v w' => v = .int .i64 (wideI n) ∧ w = w' := by
  refine CT_of Tryd.func51 rfl rfl rfl ?_
  refine W_seq ?_
  refine W_reg ?_
  refine L_op rfl (X_assign (v := (.int .i64 (0))) rfl ?_)
  refine L_nil ?_
  refine T_n ?_
  refine W_seq ?_
  refine W_reg ?_
  refine L_op rfl (X_move (v := (.int .i64 (n))) rfl ?_)
  refine L_op rfl (X_max (k := .i64) (a := n) (b := 1) (r := max n 1) rfl rfl (by omega) ?_)
  refine L_op rfl (X_min (k := .i64) (a := max n 1) (b := 8) (r := wideI n) rfl rfl (by unfold wideI; omega) ?_)
  refine L_op rfl (X_assign (v := (.int .i64 (wideI n))) rfl ?_)
  refine L_nil ?_
  refine T_n ?_
  refine W_ret ?_
  exact BQ_r (End_1 Tryd.results51 (v := .int .i64 (wideI n)) rfl ⟨rfl, rfl⟩)

theorem c_takeR (b : Value) (l : List UInt8) (m : Int) (w : World) (hb : Rd w 1 b l.length (l.map byteV)) : CT Tryd.prog 53 #[b, (.int .i64 (m))] w fun v w' => ∃ r, v = .tuple #[.int .u64 ((takeV l (wideN m) : Nat) : Int), r, .int .i64 (if l.length < wideN m then 20 else 0)] ∧ Rd w' 1 r (restB l (wideN m)).length ((restB l (wideN m)).map byteV) ∧ (∀ b', rbk r = some b' → rbk b = some b') ∧ Ext w w' := by
  have hw8 := wideN_le m
  have hmx := hb.len
  have hE := Upd.refl (fun _ => False) w
  refine CT_of Tryd.func53 rfl rfl rfl ?_
  refine W_seq ?_
  refine W_reg ?_
  refine L_op rfl (X_assign (v := (.int .u64 (0))) rfl ?_)
  refine L_op rfl (X_assign (v := (.slice none 0 0)) rfl ?_)
  refine L_op rfl (X_assign (v := (.int .i64 (0))) rfl ?_)
  refine L_nil ?_
  refine T_n ?_
  refine W_seq ?_
  refine W_reg ?_
  refine L_op rfl (X_move (v := (.int .i64 (m))) rfl ?_)
  refine L_op rfl (X_fn (vs := [(.int .i64 (m))]) en51 rfl (CT.mono (c_wideR m _) ?_))
  rintro _ _ ⟨rfl, rfl⟩
  rw [wideN_eq]
  refine L_op rfl (X_assign (v := (.int .i64 (((wideN m : Nat) : Int)))) rfl ?_)
  refine L_nil ?_
  refine T_n ?_
  refine W_seq ?_
  refine W_seq ?_
  refine W_reg ?_
  refine L_op rfl (X_move (v := b) rfl ?_)
  refine L_op rfl (X_len (v := b) (n := l.length) Tryd.underlying35 rfl hb.sv ?_)
  refine L_op rfl (X_move (v := (.int .i64 (((wideN m : Nat) : Int)))) rfl ?_)
  by_cases hc1 : (((l.length : Nat) : Int) : Int) < (((wideN m : Nat) : Int))
  · refine L_op rfl (X_cmp (k := .i64) (a := ((l.length : Nat) : Int)) (b := ((wideN m : Nat) : Int)) (r := true) rfl rfl rfl (decide_eq_true (p := ((((l.length : Nat) : Int)) : Int) < ((((wideN m : Nat) : Int)) : Int)) (by omega)) ?_)
    refine L_nil ?_
    refine T_n ?_
    refine W_ct rfl ?_
    refine W_seq ?_
    refine W_reg ?_
    refine L_op rfl (X_move (v := b) rfl ?_)
    refine L_op rfl (X_assign (v := (.int .u64 (0))) rfl ?_)
    refine L_op rfl (X_assign (v := b) rfl ?_)
    refine L_op rfl (X_assign (v := (.int .i64 (20))) rfl ?_)
    refine L_nil ?_
    refine T_n ?_
    refine W_ret ?_
    refine T_r ?_
    exact BQ_r (End_3 Tryd.results53 (v1 := .int .u64 0) (v2 := b) (v3 := .int .i64 20) rfl rfl rfl ⟨b, by unfold takeV; rw [if_pos (by omega), if_pos (by omega)]; rfl, by unfold restB; rw [if_pos (by omega)]; exact hb, fun b' hb' => hb', Ext.upd hE⟩)
  · refine L_op rfl (X_cmp (k := .i64) (a := ((l.length : Nat) : Int)) (b := ((wideN m : Nat) : Int)) (r := false) rfl rfl rfl (decide_eq_false (p := ((((l.length : Nat) : Int)) : Int) < ((((wideN m : Nat) : Int)) : Int)) (by omega)) ?_)
    have hWl : wideN m ≤ l.length := by omega
    refine L_nil ?_
    refine T_n ?_
    refine W_cf rfl ?_
    refine W_skip ?_
    refine T_n ?_
    refine W_seq ?_
    refine W_reg ?_
    refine L_op rfl (X_assign (v := (.int .u64 (0))) rfl ?_)
    refine L_nil ?_
    refine T_n ?_
    refine W_seq ?_
    refine W_seq ?_
    refine W_reg ?_
    refine L_op rfl (X_assign (v := (.int .i64 (0))) rfl ?_)
    refine L_nil ?_
    refine T_n ?_
    refine W_block ?_
    refine W_loop (α := Nat) [8, 9, 17, 18, 19, 20, 21, 22, 23, 24, 25, 26, 27, 28, 29, 30, 31, 32] (fun i => [(8, (.int .u64 (((valB (l.take i) : Nat) : Int)))), (9, (.int .i64 (((i : Nat) : Int))))]) (fun i w_ => w = w_ ∧ i ≤ wideN m) (fun i => wideN m - i) ⟨rfl, 0, ⟨rfl, Nat.zero_le _⟩, Out.refl _ _, ⟨rfl, rfl, trivial⟩⟩ ?_
    rintro i w2 _ ⟨rfl, hil⟩
    refine W_seq ?_
    refine W_seq ?_
    refine W_reg ?_
    refine L_op rfl (X_move (v := (.int .i64 (((i : Nat) : Int)))) rfl ?_)
    refine L_op rfl (X_move (v := (.int .i64 (((wideN m : Nat) : Int)))) rfl ?_)
    by_cases hc3 : (((i : Nat) : Int) : Int) < (((wideN m : Nat) : Int))
    · refine L_op rfl (X_cmp (k := .i64) (a := ((i : Nat) : Int)) (b := ((wideN m : Nat) : Int)) (r := true) rfl rfl rfl (decide_eq_true (p := ((((i : Nat) : Int)) : Int) < ((((wideN m : Nat) : Int)) : Int)) (by omega)) ?_)
      have hiW : i < wideN m := by omega
      have hi : i < l.length := by omega
      refine L_nil ?_
      refine T_n ?_
      refine W_ct rfl ?_
      refine W_skip ?_
      refine T_n ?_
      refine W_seq ?_
      refine W_block ?_
      refine W_reg ?_
      refine L_op rfl (X_move (v := (.int .u64 (((valB (l.take i) : Nat) : Int)))) rfl ?_)
      refine L_op rfl (X_move (v := b) rfl ?_)
      refine L_op rfl (X_move (v := (.int .i64 (((i : Nat) : Int)))) rfl ?_)
      refine L_op rfl (X_idx (v := b) (n := l.length) (k := .i64) (i := ((i : Nat) : Int)) S35 rfl hb.sv rfl (by omega) (by omega) ?_)
      refine L_op rfl (X_load (v := byteV (l[i]'hi)) T5 rfl (hb.cell (by rw [show (((i : Nat) : Int).toNat * 1) = i by omega, List.getElem?_map, List.getElem?_eq_getElem hi]; rfl)) ?_)
      refine L_op rfl (X_convInt (k := .u8) (a := ((l[i]'hi).toNat : Int)) (r := ((l[i]'hi).toNat : Int)) (by rw [Tryd.underlying5]; rfl) Tryd.underlying39 rfl (u64_u8 _) ?_)
      refine L_op rfl (X_move (v := (.int .i64 (((i : Nat) : Int)))) rfl ?_)
      refine L_op rfl (X_arith (k := .i64) (a := 8) (b := ((i : Nat) : Int)) (r := (8 * (i : Int))) rfl rfl rfl (imul64 rfl (by omega) (by omega)) ?_)
      refine L_op rfl (X_convInt (k := .i64) (a := (8 * (i : Int))) (r := (8 * (i : Int))) (by rw [Tryd.underlying3]; rfl) Tryd.underlying82 rfl (Go.SL.u64_wrap (by omega) (by omega)) ?_)
      refine L_op rfl (X_shift (k := .u64) (yk := .u64) (a := ((l[i]'hi).toNat : Int)) (b := (8 * (i : Int))) (r := ((256 ^ i * (l[i]'hi).toNat : Nat) : Int)) (.inl ⟨rfl, shl_at (by omega)⟩) (by omega) rfl rfl ?_)
      refine L_op rfl (X_arith (k := .u64) (a := ((valB (l.take i) : Nat) : Int)) (b := ((256 ^ i * (l[i]'hi).toNat : Nat) : Int)) (r := ((valB (l.take i) + 256 ^ i * (l[i]'hi).toNat : Nat) : Int)) rfl rfl rfl (or_at (by omega) (valB_take_lt (by omega))) ?_)
      refine L_op rfl (X_assign (v := (.int .u64 (((valB (l.take i) + 256 ^ i * (l[i]'hi).toNat : Nat) : Int)))) rfl ?_)
      refine L_nil ?_
      refine B_n ?_
      refine T_n ?_
      refine W_reg ?_
      refine L_op rfl (X_move (v := (.int .i64 (((i : Nat) : Int)))) rfl ?_)
      refine L_op rfl (X_arith (k := .i64) (a := ((i : Nat) : Int)) (b := 1) (r := ((i + 1 : Nat) : Int)) rfl rfl rfl (iadd64 (by omega) (by omega) (by omega)) ?_)
      refine L_op rfl (X_assign (v := (.int .i64 (((i + 1 : Nat) : Int)))) rfl ?_)
      refine L_nil ?_
      refine T_n ?_
      exact ⟨rfl, i + 1, ⟨⟨rfl, by omega⟩, (by show wideN m - (i + 1) < wideN m - i; omega)⟩, (Out.mk rfl), ⟨by rw [valB_take hi]; rfl, rfl, trivial⟩⟩
    · refine L_op rfl (X_cmp (k := .i64) (a := ((i : Nat) : Int)) (b := ((wideN m : Nat) : Int)) (r := false) rfl rfl rfl (decide_eq_false (p := ((((i : Nat) : Int)) : Int) < ((((wideN m : Nat) : Int)) : Int)) (by omega)) ?_)
      obtain rfl : i = wideN m := by omega
      refine L_nil ?_
      refine T_n ?_
      refine W_cf rfl ?_
      refine W_exit ?_
      refine T_e ?_
      refine T_e ?_
      refine B_x ?_
      refine T_n ?_
      refine W_seq ?_
      refine W_draw 5 [[], [], [], [1, 2], [0], [0, 1, 2, 3, 4], [0, 1, 2, 3, 4, 5]] mixed (by kernel_rfl) ?_
      refine ⟨.det (fun val => (.int .u64 (((valB (l.take (wideN m)) : Nat) : Int)))), ⟨fun _ _ hv => rfl, fun _ _ _ _ _ => trivial⟩, fun val h_ W hx he => ⟨trivial, ?_⟩, ?_⟩
      · replace hx := (Upd.drew _ _).trans hx
        replace hb := hb.ext hx
        have hE := Upd.refl (fun _ => False) W
        refine id (X_move (v := (.int .u64 (((valB (l.take (wideN m)) : Nat) : Int)))) rfl ?_)
        exact ⟨hE, rfl⟩
      refine ⟨.det (fun val => b), ⟨fun _ _ hv => rfl, fun _ _ _ _ _ => trivial⟩, fun val h_ W hx he => ⟨trivial, ?_⟩, ?_⟩
      · replace hx := (Upd.drew _ _).trans hx
        replace hb := hb.ext hx
        have hE := Upd.refl (fun _ => False) W
        refine id (X_move (v := b) rfl ?_)
        exact ⟨hE, rfl⟩
      refine ⟨.det (fun val => (.int .i64 (((wideN m : Nat) : Int)))), ⟨fun _ _ hv => rfl, fun _ _ _ _ _ => trivial⟩, fun val h_ W hx he => ⟨trivial, ?_⟩, ?_⟩
      · replace hx := (Upd.drew _ _).trans hx
        replace hb := hb.ext hx
        have hE := Upd.refl (fun _ => False) W
        refine id (X_move (v := (.int .i64 (((wideN m : Nat) : Int)))) rfl ?_)
        exact ⟨hE, rfl⟩
      refine ⟨.det (fun val => (cutv b 1 (wideN m) (l.length))), ⟨fun _ _ hv => rfl, fun _ _ _ _ _ => trivial⟩, fun val h_ W hx he => ⟨trivial, ?_⟩, ?_⟩
      · replace hx := (Upd.drew _ _).trans hx
        replace hb := hb.ext hx
        have hE := Upd.refl (fun _ => False) W
        refine id (X_slice (n := l.length) (l := wideN m) (h' := l.length) (kl := .i64) (kh := .i64) S35 rfl hb.sv rfl rfl (by omega) (by omega) ?_)
        exact ⟨hE, rfl⟩
      refine ⟨.det (fun val => (.int .u64 (((valB (l.take (wideN m)) : Nat) : Int)))), ⟨fun _ _ hv => rfl, fun _ _ _ _ _ => trivial⟩, fun val h_ W hx he => ⟨trivial, ?_⟩, ?_⟩
      · replace hx := (Upd.drew _ _).trans hx
        replace hb := hb.ext hx
        have hE := Upd.refl (fun _ => False) W
        refine id (X_assign (v := (.int .u64 (((valB (l.take (wideN m)) : Nat) : Int)))) rfl ?_)
        exact ⟨hE, rfl⟩
      intro val W4 hx4 he4
      replace hx4 := (Upd.drew _ _).trans hx4
      have hz4 := hx4.size
      replace hb := hb.ext hx4
      replace hE := hE.trans (Ext.upd hx4)
      refine L_op rfl (X_assign (v := (cutv b 1 (wideN m) (l.length))) rfl ?_)
      refine L_op rfl (X_assign (v := (.int .i64 (0))) rfl ?_)
      refine L_nil ?_
      refine T_n ?_
      refine W_ret ?_
      exact BQ_r (End_3 Tryd.results53 (v1 := .int .u64 (valB (l.take (wideN m)) : Nat)) (v2 := (cutv b 1 (wideN m) (l.length))) (v3 := .int .i64 0) rfl rfl rfl ⟨_, by unfold takeV; rw [if_neg (by omega), if_neg (by omega)], by unfold restB; rw [if_neg (by omega)]; exact hb.cutB (lo := wideN m) (hi := l.length) (by omega) (by omega) drop_rest, fun b' hb' => hb.rbk_cut (Nat.le_refl _) hb', Ext.upd hE⟩)

theorem c_takeBytesR (b : Value) (l : List UInt8) (q : Int) (w : World) (hb : Rd w 1 b l.length (l.map byteV)) : CT Tryd.prog 52 #[b, (.int .i64 (q))] w fun v w' => ∃ s r, v = .tuple #[s, r, .int .i64 (takeE l q)] ∧ Own w' w.heap.size 5 1 s (takeS l q).length ((takeS l q).map byteV) ∧ Rd w' 1 r (takeR l q).length ((takeR l q).map byteV) ∧ (∀ b', rbk r = some b' → rbk b = some b') ∧ Ext w w' := by
  have hmx := hb.len
  obtain ⟨n0, hn0⟩ : ∃ n, n = w.heap.size := ⟨_, rfl⟩
  have hU : Upd (fun i => n0 ≤ i) w w := Upd.refl _ _
  have hb_b : ∀ i, rbk b = some i → i < n0 := by rw [hn0]; exact fun i hi => hb.bound (by decide) hi
  refine CT_of Tryd.func52 rfl rfl rfl ?_
  refine W_seq ?_
  refine W_reg ?_
  refine L_op rfl (X_assign (v := (.slice none 0 0)) rfl ?_)
  refine L_op rfl (X_assign (v := (.slice none 0 0)) rfl ?_)
  refine L_op rfl (X_assign (v := (.int .i64 (0))) rfl ?_)
  refine L_nil ?_
  refine T_n ?_
  refine W_seq ?_
  refine W_seq ?_
  refine W_reg ?_
  refine L_op rfl (X_move (v := b) rfl ?_)
  refine L_op rfl (X_len (v := b) (n := l.length) Tryd.underlying35 rfl hb.sv ?_)
  by_cases hc1 : (((l.length : Nat) : Int) : Int) = (0)
  · refine L_op rfl (X_cmp (k := .i64) (a := ((l.length : Nat) : Int)) (b := 0) (r := true) rfl rfl rfl (decide_eq_true (p := ((((l.length : Nat) : Int)) : Int) = ((0) : Int)) (by omega)) ?_)
    refine L_op rfl (X_move (v := (.bool (true))) rfl ?_)
    refine L_gn (dj := 11) (t := true) rfl rfl rfl rfl ?_
    refine L_gn (dj := 11) (t := true) rfl rfl rfl rfl ?_
    refine L_gn (dj := 11) (t := true) rfl rfl rfl rfl ?_
    refine L_gn (dj := 11) (t := true) rfl rfl rfl rfl ?_
    refine L_gn (dj := 11) (t := true) rfl rfl rfl rfl ?_
    refine L_gn (dj := 11) (t := true) rfl rfl rfl rfl ?_
    refine L_gn (dj := 11) (t := true) rfl rfl rfl rfl ?_
    refine L_gn (dj := 11) (t := true) rfl rfl rfl rfl ?_
    refine L_op rfl (X_pick (t := true) (v := (.bool (true))) rfl rfl ?_)
    refine L_nil ?_
    refine T_n ?_
    refine W_ct rfl ?_
    refine W_seq ?_
    refine W_reg ?_
    refine L_op rfl (X_move (v := b) rfl ?_)
    refine L_op rfl (X_assign (v := (.slice none 0 0)) rfl ?_)
    refine L_op rfl (X_assign (v := b) rfl ?_)
    refine L_op rfl (X_assign (v := (.int .i64 (20))) rfl ?_)
    refine L_nil ?_
    refine T_n ?_
    refine W_ret ?_
    refine T_r ?_
    exact BQ_r (End_3 Tryd.results52 (v1 := .slice none 0 0) (v2 := b) (v3 := .int .i64 20) rfl rfl rfl ⟨_, _, by rw [take_short0 q (by omega)], (Own.nil _ _ _ _).emp (by rw [takeS_no (take_short0 q (by omega)) (by decide)]; rfl) (by rw [takeS_no (take_short0 q (by omega)) (by decide)]; rfl), by rw [takeR_no (take_short0 q (by omega)) (by decide)]; exact hb, fun b' hb' => hb', hU.own hn0⟩)
  · refine L_op rfl (X_cmp (k := .i64) (a := ((l.length : Nat) : Int)) (b := 0) (r := false) rfl rfl rfl (decide_eq_false (p := ((((l.length : Nat) : Int)) : Int) = ((0) : Int)) (by omega)) ?_)
    obtain ⟨x, hx⟩ : ∃ x, l[0]? = some x := ⟨_, List.getElem?_eq_getElem (by omega)⟩
    have hx8 := x.toNat_lt
    refine L_op rfl (X_move (v := (.bool (false))) rfl ?_)
    refine L_gy (dj := 11) rfl rfl rfl (X_move (v := b) rfl ?_)
    refine L_gy (dj := 11) rfl rfl rfl (X_len (v := b) (n := l.length) Tryd.underlying35 rfl hb.sv ?_)
    refine L_gy (dj := 11) rfl rfl rfl (X_arith (k := .i64) (a := ((l.length : Nat) : Int)) (b := 1) (r := ((l.length : Nat) : Int) - 1) rfl rfl rfl (isub64 rfl (by omega) (by omega)) ?_)
    refine L_gy (dj := 11) rfl rfl rfl (X_move (v := b) rfl ?_)
    refine L_gy (dj := 11) rfl rfl rfl (X_idx (v := b) (n := l.length) (k := .i64) (i := 0) S35 rfl hb.sv rfl (by omega) (by omega) ?_)
    refine L_gy (dj := 11) rfl rfl rfl (X_load (v := byteV x) T5 rfl (hb.cellB (by rw [show (((0 : Int)).toNat * 1) = 0 from rfl]; exact hx)) ?_)
    refine L_gy (dj := 11) rfl rfl rfl (X_convInt (k := .u8) (a := (x.toNat : Int)) (r := (x.toNat : Int)) (by rw [Tryd.underlying5]; rfl) Tryd.underlying3 rfl (i64_u8 x) ?_)
    by_cases hc2 : (((l.length : Nat) : Int) - 1 : Int) < ((x.toNat : Int))
    · refine L_gy (dj := 11) rfl rfl rfl (X_cmp (k := .i64) (a := ((l.length : Nat) : Int) - 1) (b := (x.toNat : Int)) (r := true) rfl rfl rfl (decide_eq_true (p := ((((l.length : Nat) : Int) - 1) : Int) < (((x.toNat : Int)) : Int)) (by omega)) ?_)
      refine L_op rfl (X_pick (t := false) (v := (.bool (true))) rfl rfl ?_)
      refine L_nil ?_
      refine T_n ?_
      refine W_ct rfl ?_
      refine W_seq ?_
      refine W_reg ?_
      refine L_op rfl (X_move (v := b) rfl ?_)
      refine L_op rfl (X_assign (v := (.slice none 0 0)) rfl ?_)
      refine L_op rfl (X_assign (v := b) rfl ?_)
      refine L_op rfl (X_assign (v := (.int .i64 (20))) rfl ?_)
      refine L_nil ?_
      refine T_n ?_
      refine W_ret ?_
      refine T_r ?_
      exact BQ_r (End_3 Tryd.results52 (v1 := .slice none 0 0) (v2 := b) (v3 := .int .i64 20) rfl rfl rfl ⟨_, _, by rw [take_short q hx (by omega)], (Own.nil _ _ _ _).emp (by rw [takeS_no (take_short q hx (by omega)) (by decide)]; rfl) (by rw [takeS_no (take_short q hx (by omega)) (by decide)]; rfl), by rw [takeR_no (take_short q hx (by omega)) (by decide)]; exact hb, fun b' hb' => hb', hU.own hn0⟩)
    · refine L_gy (dj := 11) rfl rfl rfl (X_cmp (k := .i64) (a := ((l.length : Nat) : Int) - 1) (b := (x.toNat : Int)) (r := false) rfl rfl rfl (decide_eq_false (p := ((((l.length : Nat) : Int) - 1) : Int) < (((x.toNat : Int)) : Int)) (by omega)) ?_)
      refine L_op rfl (X_pick (t := false) (v := (.bool (false))) rfl rfl ?_)
      refine L_nil ?_
      refine T_n ?_
      refine W_cf rfl ?_
      refine W_skip ?_
      refine T_n ?_
      refine W_seq ?_
      refine W_reg ?_
      refine L_op rfl (X_move (v := b) rfl ?_)
      refine L_op rfl (X_idx (v := b) (n := l.length) (k := .i64) (i := 0) S35 rfl hb.sv rfl (by omega) (by omega) ?_)
      refine L_op rfl (X_load (v := byteV x) T5 rfl (hb.cellB (by rw [show (((0 : Int)).toNat * 1) = 0 from rfl]; exact hx)) ?_)
      refine L_op rfl (X_convInt (k := .u8) (a := (x.toNat : Int)) (r := (x.toNat : Int)) (by rw [Tryd.underlying5]; rfl) Tryd.underlying3 rfl (i64_u8 x) ?_)
      refine L_op rfl (X_assign (v := (.int .i64 ((x.toNat : Int)))) rfl ?_)
      refine L_nil ?_
      refine T_n ?_
      refine W_seq ?_
      refine W_seq ?_
      refine W_reg ?_
      refine L_op rfl (X_move (v := (.int .i64 ((x.toNat : Int)))) rfl ?_)
      refine L_op rfl (X_move (v := (.int .i64 (q))) rfl ?_)
      by_cases hc3 : ((x.toNat : Int) : Int) > (q)
      · refine L_op rfl (X_cmp (k := .i64) (a := (x.toNat : Int)) (b := q) (r := true) rfl rfl rfl (decide_eq_true (p := ((q) : Int) < (((x.toNat : Int)) : Int)) (by omega)) ?_)
        refine L_nil ?_
        refine T_n ?_
        refine W_ct rfl ?_
        refine W_seq ?_
        refine W_reg ?_
        refine L_op rfl (X_move (v := b) rfl ?_)
        refine L_op rfl (X_assign (v := (.slice none 0 0)) rfl ?_)
        refine L_op rfl (X_assign (v := b) rfl ?_)
        refine L_op rfl (X_assign (v := (.int .i64 (21))) rfl ?_)
        refine L_nil ?_
        refine T_n ?_
        refine W_ret ?_
        refine T_r ?_
        exact BQ_r (End_3 Tryd.results52 (v1 := .slice none 0 0) (v2 := b) (v3 := .int .i64 21) rfl rfl rfl ⟨_, _, by rw [take_long hx (by omega) (by omega)], (Own.nil _ _ _ _).emp (by rw [takeS_no (take_long hx (by omega) (by omega)) (by decide)]; rfl) (by rw [takeS_no (take_long hx (by omega) (by omega)) (by decide)]; rfl), by rw [takeR_no (take_long hx (by omega) (by omega)) (by decide)]; exact hb, fun b' hb' => hb', hU.own hn0⟩)
      · refine L_op rfl (X_cmp (k := .i64) (a := (x.toNat : Int)) (b := q) (r := false) rfl rfl rfl (decide_eq_false (p := ((q) : Int) < (((x.toNat : Int)) : Int)) (by omega)) ?_)
        refine L_nil ?_
        refine T_n ?_
        refine W_cf rfl ?_
        refine W_skip ?_
        refine T_n ?_
        refine W_seq ?_
        refine W_draw 11 [[], [], [], [2], [1, 2, 3], [0, 1, 2, 3, 4], [], [], [7], [6, 7, 8], [0, 1, 2, 3, 4, 5], [0, 1, 2, 3, 4, 5, 6, 7, 8, 9, 10], [0, 1, 2, 3, 4, 5, 6, 7, 8, 9, 10, 11]] mixed (by kernel_rfl) ?_
        refine ⟨.abs (fun _ x _ => ∃ b, x = .slice (some ⟨b, 0, none⟩) 0 0), ⟨fun _ _ _ => rfl, fun _ _ _ _ _ h => h⟩, fun val h_ W hx he => ⟨trivial, ?_⟩, ?_⟩
        · replace hx := (Upd.drew _ _).trans hx
          replace hb := hb.ext hx
          have hE := Upd.refl (fun _ => False) W
          refine X_buildSlice1 (vs := []) S35 (by decide) rfl rfl (fun _ h => by cases h) ?_
          intro b w2 hn
          exact ⟨hn.ext, b, rfl⟩
        refine ⟨.det (fun val => b), ⟨fun _ _ hv => rfl, fun _ _ _ _ _ => trivial⟩, fun val h_ W hx he => ⟨trivial, ?_⟩, ?_⟩
        · replace hx := (Upd.drew _ _).trans hx
          replace hb := hb.ext hx
          have hE := Upd.refl (fun _ => False) W
          refine id (X_move (v := b) rfl ?_)
          exact ⟨hE, rfl⟩
        refine ⟨.det (fun val => (.int .i64 ((x.toNat : Int)))), ⟨fun _ _ hv => rfl, fun _ _ _ _ _ => trivial⟩, fun val h_ W hx he => ⟨trivial, ?_⟩, ?_⟩
        · replace hx := (Upd.drew _ _).trans hx
          replace hb := hb.ext hx
          have hE := Upd.refl (fun _ => False) W
          refine id (X_move (v := (.int .i64 ((x.toNat : Int)))) rfl ?_)
          exact ⟨hE, rfl⟩
        refine ⟨.det (fun val => (.int .i64 (((1 + x.toNat : Nat) : Int)))), ⟨fun _ _ hv => rfl, fun _ _ _ _ _ => trivial⟩, fun val h_ W hx he => ⟨trivial, ?_⟩, ?_⟩
        · replace hx := (Upd.drew _ _).trans hx
          replace hb := hb.ext hx
          have hE := Upd.refl (fun _ => False) W
          refine id (X_arith (k := .i64) (a := 1) (b := (x.toNat : Int)) (r := ((1 + x.toNat : Nat) : Int)) rfl rfl rfl (iadd64 (by omega) (by omega) (by omega)) ?_)
          exact ⟨hE, rfl⟩
        refine ⟨.det (fun val => (cutv b 1 (1) (1 + x.toNat))), ⟨fun _ _ hv => rfl, fun _ _ _ _ _ => trivial⟩, fun val h_ W hx he => ⟨trivial, ?_⟩, ?_⟩
        · replace hx := (Upd.drew _ _).trans hx
          replace hb := hb.ext hx
          have hE := Upd.refl (fun _ => False) W
          refine id (X_slice (n := l.length) (l := 1) (h' := 1 + x.toNat) (kl := .i64) (kh := .i64) S35 rfl hb.sv rfl rfl (by omega) (by omega) ?_)
          exact ⟨hE, rfl⟩
        refine ⟨.abs (fun _ x_ W => Own W n0 5 1 x_ ((((l).drop (1)).take (1 + x.toNat - (1))).length) (((((l).drop (1)).take (1 + x.toNat - (1)))).map byteV)), ⟨fun _ _ _ => rfl, fun _ _ _ _ hu h => h.ext hu⟩, fun val h_ W hx he => ⟨trivial, ?_⟩, ?_⟩
        · replace hx := (Upd.drew _ _).trans hx
          replace hb := hb.ext hx
          have hE := Upd.refl (fun _ => False) W
          obtain ⟨⟨bz, hbz⟩, he⟩ := he
          refine X_append (B := n0) (s := val 0) (x := (cutv b 1 (1) (1 + x.toNat))) S35 ⟨_, Tryd.underlying35⟩ rfl rfl (n := 0) (xs := []) (by rw [hbz]; exact Own.zero _ _ _ _ _) (hb.cutB (lo := 1) (hi := 1 + x.toNat) (by omega) (by omega) (m := ((l).drop (1)).take (1 + x.toNat - (1))) rfl) (byteV_one _) (by unfold maxLen; rw [List.length_take, List.length_drop]; omega) (by rw [List.length_take, List.length_drop]; omega) (by have := hx.size; omega) ?_
          intro v5 w5 hO5 hu5 _
          rw [hbz] at hu5
          exact ⟨hu5.nobk, hO5.eq (Nat.zero_add _) (List.nil_append _)⟩
        refine ⟨.det (fun val => b), ⟨fun _ _ hv => rfl, fun _ _ _ _ _ => trivial⟩, fun val h_ W hx he => ⟨trivial, ?_⟩, ?_⟩
        · replace hx := (Upd.drew _ _).trans hx
          replace hb := hb.ext hx
          have hE := Upd.refl (fun _ => False) W
          refine id (X_move (v := b) rfl ?_)
          exact ⟨hE, rfl⟩
        refine ⟨.det (fun val => (.int .i64 ((x.toNat : Int)))), ⟨fun _ _ hv => rfl, fun _ _ _ _ _ => trivial⟩, fun val h_ W hx he => ⟨trivial, ?_⟩, ?_⟩
        · replace hx := (Upd.drew _ _).trans hx
          replace hb := hb.ext hx
          have hE := Upd.refl (fun _ => False) W
          refine id (X_move (v := (.int .i64 ((x.toNat : Int)))) rfl ?_)
          exact ⟨hE, rfl⟩
        refine ⟨.det (fun val => (.int .i64 (((1 + x.toNat : Nat) : Int)))), ⟨fun _ _ hv => rfl, fun _ _ _ _ _ => trivial⟩, fun val h_ W hx he => ⟨trivial, ?_⟩, ?_⟩
        · replace hx := (Upd.drew _ _).trans hx
          replace hb := hb.ext hx
          have hE := Upd.refl (fun _ => False) W
          refine id (X_arith (k := .i64) (a := 1) (b := (x.toNat : Int)) (r := ((1 + x.toNat : Nat) : Int)) rfl rfl rfl (iadd64 (by omega) (by omega) (by omega)) ?_)
          exact ⟨hE, rfl⟩
        refine ⟨.det (fun val => (cutv b 1 (1 + x.toNat) (l.length))), ⟨fun _ _ hv => rfl, fun _ _ _ _ _ => trivial⟩, fun val h_ W hx he => ⟨trivial, ?_⟩, ?_⟩
        · replace hx := (Upd.drew _ _).trans hx
          replace hb := hb.ext hx
          have hE := Upd.refl (fun _ => False) W
          refine id (X_slice (n := l.length) (l := 1 + x.toNat) (h' := l.length) (kl := .i64) (kh := .i64) S35 rfl hb.sv rfl rfl (by omega) (by omega) ?_)
          exact ⟨hE, rfl⟩
        refine ⟨.det (fun val => (val 5)), ⟨fun _ _ hv => (by simp only [hv 5 rfl]), fun _ _ _ _ _ => trivial⟩, fun val h_ W hx he => ⟨trivial, ?_⟩, ?_⟩
        · replace hx := (Upd.drew _ _).trans hx
          replace hb := hb.ext hx
          have hE := Upd.refl (fun _ => False) W
          obtain ⟨hO, he⟩ := he
          obtain ⟨⟨bz, hbz⟩, he⟩ := he
          refine id (X_assign (v := (val 5)) rfl ?_)
          exact ⟨hE, rfl⟩
        intro val W4 hx4 he4
        replace hx4 := (Upd.drew _ _).trans hx4
        have hz4 := hx4.size
        replace hb := hb.ext hx4
        replace hU := hU.trans (Ext.upd hx4)
        obtain ⟨hO, he4⟩ := he4
        obtain ⟨⟨bz, hbz⟩, he4⟩ := he4
        refine L_op rfl (X_assign (v := (cutv b 1 (1 + x.toNat) (l.length))) rfl ?_)
        refine L_op rfl (X_assign (v := (.int .i64 (0))) rfl ?_)
        refine L_nil ?_
        refine T_n ?_
        refine W_ret ?_
        exact BQ_r (End_3 Tryd.results52 (v1 := (val 5)) (v2 := (cutv b 1 (1 + x.toNat) (l.length))) (v3 := .int .i64 0) rfl rfl rfl ⟨_, _, by rw [take_ok hx (by omega) (by omega)], by rw [takeS_ok (take_ok hx (by omega) (by omega)) hx]; exact hO.more (by omega), by rw [takeR_ok (take_ok hx (by omega) (by omega)) hx]; exact (hb.cutB (lo := 1 + x.toNat) (hi := l.length) (by omega) (by omega) (m := ((l).drop (1 + x.toNat)).take (l.length - (1 + x.toNat))) rfl), fun b' hb' => hb.rbk_cut (Nat.le_refl _) hb', hU.own hn0⟩)

theorem c_fillR (b : Value) (l : List UInt8) (w : World) (hb : Rd w 1 b l.length (l.map byteV)) : CT Tryd.prog 35 #[b] w fun v w' => ∃ e : Int, v = .tuple #[.agg ((fillL l).map byteV).toArray, .int .i64 e] ∧ (256 < l.length → e = 21) ∧ (l.length ≤ 256 → e = 0) ∧ Ext w w' := by
  obtain ⟨n0, hn0⟩ : ∃ n, n = w.heap.size := ⟨_, rfl⟩
  have hU : Upd (fun i => n0 ≤ i) w w := Upd.refl _ _
  have hb_b : ∀ i, rbk b = some i → i < n0 := by rw [hn0]; exact fun i hi => hb.bound (by decide) hi
  refine CT_of Tryd.func35 rfl rfl rfl ?_
  refine W_seq ?_
  refine W_reg ?_
  refine L_op rfl (X_alloc (z := zv24) (c := zc24.toArray) Zv24 rfl ?_)
  intro b1 w1 hn1
  have hbn1 := hn1.num; have hbs1 := hn1.size
  replace hb := hb.ext hn1.ext
  replace hU := hU.trans (Ext.upd hn1.ext)
  have hB1 := hn1.blk
  rw [zc24_eq] at hB1
  refine L_op rfl (X_assign (v := (.int .i64 (0))) rfl ?_)
  refine L_nil ?_
  refine T_n ?_
  refine W_seq ?_
  refine W_reg ?_
  refine L_op rfl (X_alloc (z := zv24) (c := zc24.toArray) Zv24 rfl ?_)
  intro b2 w2 hn2
  have hbn2 := hn2.num; have hbs2 := hn2.size
  replace hb := hb.ext hn2.ext
  replace hU := hU.trans (Ext.upd hn2.ext)
  replace hB1 := hB1.ext hn2.ext
  have hB2 := hn2.blk
  rw [zc24_eq] at hB2
  refine L_nil ?_
  refine T_n ?_
  refine W_seq ?_
  refine W_seq ?_
  refine W_reg ?_
  refine L_op rfl (X_move (v := b) rfl ?_)
  refine L_op rfl (X_len (v := b) (n := l.length) Tryd.underlying35 rfl hb.sv ?_)
  by_cases hc3 : (((l.length : Nat) : Int) : Int) > (256)
  · refine L_op rfl (X_cmp (k := .i64) (a := ((l.length : Nat) : Int)) (b := 256) (r := true) rfl rfl rfl (decide_eq_true (p := ((256) : Int) < ((((l.length : Nat) : Int)) : Int)) (by omega)) ?_)
    refine L_nil ?_
    refine T_n ?_
    refine W_ct rfl ?_
    refine W_seq ?_
    refine W_reg ?_
    refine L_op rfl (X_loadA (p := (ptr b2 (0))) (xs := ((List.replicate 256 (0 : UInt8)).map byteV)) A24 rfl hB2.atAll (by rw [List.length_map]; exact List.length_replicate) ?_)
    refine L_op0 (X_storeW (b := b1) (ys := ((List.replicate 256 (0 : UInt8)).map byteV)) A24 rfl rfl (byteV_one _) (by rw [List.length_map]; exact List.length_replicate) hB1 (by rw [List.size_toArray]; exact (by rw [List.length_map]; exact List.length_replicate)) ?_)
    intro w4 hu4 hb4
    have hz4 := hu4.size
    replace hb := hb.upd hu4 fun i hi h => by have hi := hb_b _ hi; have h : i = b1 := h; omega
    replace hU := hU.trans (hu4.mono fun i _ h => by have h : i = b1 := h; show n0 ≤ i; omega)
    replace hB2 := hB2.upd hu4 fun h => by have h : b2 = b1 := h; omega
    replace hB1 := hb4
    refine L_op rfl (X_assign (v := (.int .i64 (21))) rfl ?_)
    refine L_nil ?_
    refine T_n ?_
    refine W_ret ?_
    refine T_r ?_
    exact BQ_r (End_2 Tryd.results35 (RV_A A24 rfl hB1.atAll (by rw [List.length_map]; exact List.length_replicate)) (v2 := .int .i64 21) rfl ⟨21, by rw [fill_more (by omega)], by omega, by omega, hU.own hn0⟩)
  · refine L_op rfl (X_cmp (k := .i64) (a := ((l.length : Nat) : Int)) (b := 256) (r := false) rfl rfl rfl (decide_eq_false (p := ((256) : Int) < ((((l.length : Nat) : Int)) : Int)) (by omega)) ?_)
    refine L_nil ?_
    refine T_n ?_
    refine W_cf rfl ?_
    refine W_skip ?_
    refine T_n ?_
    refine W_seq ?_
    refine W_seq ?_
    refine W_reg ?_
    refine L_op rfl (X_assign (v := (.int .i64 (0))) rfl ?_)
    refine L_nil ?_
    refine T_n ?_
    refine W_block ?_
    refine W_loop (α := Nat) [5, 10, 11, 12, 13, 14, 15, 16, 17, 18, 19, 20, 21] (fun i => [(5, (.int .i64 (((i : Nat) : Int))))]) (fun i w_ => i ≤ l.length ∧ Rd w_ 1 b l.length (l.map byteV) ∧ Upd (fun i => n0 ≤ i) w w_ ∧ Blk w_ b1 ((List.replicate 256 (0 : UInt8)).map byteV).toArray 24 ∧ Blk w_ b2 ((mixB l (List.replicate 256 (0 : UInt8)) i).map byteV).toArray 24) (fun i => l.length - i) ⟨rfl, 0, ⟨Nat.zero_le _, hb, hU, hB1, hB2⟩, Out.refl _ _, ⟨rfl, trivial⟩⟩ ?_
    rintro i w5 _ ⟨hil, hb, hU, hB1, hB2⟩
    refine W_seq ?_
    refine W_seq ?_
    refine W_reg ?_
    refine L_op rfl (X_move (v := (.int .i64 (((i : Nat) : Int)))) rfl ?_)
    refine L_op rfl (X_move (v := b) rfl ?_)
    refine L_op rfl (X_len (v := b) (n := l.length) Tryd.underlying35 rfl hb.sv ?_)
    by_cases hc6 : (((i : Nat) : Int) : Int) < (((l.length : Nat) : Int))
    · refine L_op rfl (X_cmp (k := .i64) (a := ((i : Nat) : Int)) (b := ((l.length : Nat) : Int)) (r := true) rfl rfl rfl (decide_eq_true (p := ((((i : Nat) : Int)) : Int) < ((((l.length : Nat) : Int)) : Int)) (by omega)) ?_)
      have hi : i < l.length := by omega
      refine L_nil ?_
      refine T_n ?_
      refine W_ct rfl ?_
      refine W_skip ?_
      refine T_n ?_
      refine W_seq ?_
      refine W_block ?_
      refine W_reg ?_
      refine L_op rfl (X_move (v := (.int .i64 (((i : Nat) : Int)))) rfl ?_)
      refine L_op rfl (X_move (v := b) rfl ?_)
      refine L_op rfl (X_move (v := (.int .i64 (((i : Nat) : Int)))) rfl ?_)
      refine L_op rfl (X_idx (v := b) (n := l.length) (k := .i64) (i := ((i : Nat) : Int)) S35 rfl hb.sv rfl (by omega) (by omega) ?_)
      refine L_op rfl (X_load (v := byteV (l[i]'hi)) T5 rfl (hb.cell (by rw [show (((i : Nat) : Int).toNat * 1) = i by omega, List.getElem?_map, List.getElem?_eq_getElem hi]; rfl)) ?_)
      refine L_op rfl (X_idxAP (len := 256) (sz := 1) (b := b2) (o := 0) (k := .i64) (i := ((i : Nat) : Int)) (r := (((i : Nat) : Int) : Int).toNat) Tryd.underlying24 Z5 rfl rfl (by omega) (by omega) (by omega) ?_)
      refine L_op0 (X_store (b := b2) (o := (((i : Nat) : Int) : Int).toNat) (v := byteV (l[i]'hi)) T5 rfl rfl rfl hB2 (by rw [List.size_toArray, List.length_map, (mixB_length hil List.length_replicate (by omega))]; omega) ?_)
      intro w7 hu7 hb7
      have hz7 := hu7.size
      replace hb := hb.upd hu7 fun i hi h => by have hi := hb_b _ hi; have h : i = b2 := h; omega
      replace hU := hU.trans (hu7.mono fun i _ h => by have h : i = b2 := h; show n0 ≤ i; omega)
      replace hB1 := hB1.upd hu7 fun h => by have h : b1 = b2 := h; omega
      rw [set_bytes, show (((i : Nat) : Int) : Int).toNat = i from Int.toNat_natCast i, mixB_step hi (by rw [List.length_replicate]; omega)] at hb7
      replace hB2 := hb7
      refine L_nil ?_
      refine B_n ?_
      refine T_n ?_
      refine W_reg ?_
      refine L_op rfl (X_move (v := (.int .i64 (((i : Nat) : Int)))) rfl ?_)
      refine L_op rfl (X_arith (k := .i64) (a := ((i : Nat) : Int)) (b := 1) (r := ((i + 1 : Nat) : Int)) rfl rfl rfl (iadd64 (by omega) (by omega) (by omega)) ?_)
      refine L_op rfl (X_assign (v := (.int .i64 (((i + 1 : Nat) : Int)))) rfl ?_)
      refine L_nil ?_
      refine T_n ?_
      exact ⟨rfl, i + 1, ⟨⟨hi, hb, hU, hB1, hB2⟩, (by show l.length - (i + 1) < l.length - i; omega)⟩, (Out.mk rfl), ⟨rfl, trivial⟩⟩
    · refine L_op rfl (X_cmp (k := .i64) (a := ((i : Nat) : Int)) (b := ((l.length : Nat) : Int)) (r := false) rfl rfl rfl (decide_eq_false (p := ((((i : Nat) : Int)) : Int) < ((((l.length : Nat) : Int)) : Int)) (by omega)) ?_)
      obtain rfl : i = l.length := by omega
      refine L_nil ?_
      refine T_n ?_
      refine W_cf rfl ?_
      refine W_exit ?_
      refine T_e ?_
      refine T_e ?_
      refine B_x ?_
      refine T_n ?_
      refine W_seq ?_
      refine W_reg ?_
      refine L_op rfl (X_loadA (p := (ptr b2 (0))) (xs := ((mixB l (List.replicate 256 (0 : UInt8)) l.length).map byteV)) A24 rfl hB2.atAll (by rw [List.length_map]; exact (mixB_length hil List.length_replicate (by omega))) ?_)
      refine L_op0 (X_storeW (b := b1) (ys := ((mixB l (List.replicate 256 (0 : UInt8)) l.length).map byteV)) A24 rfl rfl (byteV_one _) (by rw [List.length_map]; exact (mixB_length hil List.length_replicate (by omega))) hB1 (by rw [List.size_toArray]; exact (by rw [List.length_map]; exact List.length_replicate)) ?_)
      intro w8 hu8 hb8
      have hz8 := hu8.size
      replace hb := hb.upd hu8 fun i hi h => by have hi := hb_b _ hi; have h : i = b1 := h; omega
      replace hU := hU.trans (hu8.mono fun i _ h => by have h : i = b1 := h; show n0 ≤ i; omega)
      replace hB2 := hB2.upd hu8 fun h => by have h : b2 = b1 := h; omega
      replace hB1 := hb8
      refine L_op rfl (X_assign (v := (.int .i64 (0))) rfl ?_)
      refine L_nil ?_
      refine T_n ?_
      refine W_ret ?_
      exact BQ_r (End_2 Tryd.results35 (RV_A A24 rfl hB1.atAll (by rw [List.length_map]; exact (mixB_length hil List.length_replicate (by omega)))) (v2 := .int .i64 0) rfl ⟨0, by rw [mix_fill (by omega)], by omega, by omega, hU.own hn0⟩)

theorem c_putR (bb : Value) (b : List UInt8) (n : Nat) (m : Int) (w : World) (hl : b.length ≤ 140737488355320) (hb : Rd w 1 bb b.length (b.map byteV)) : CT Tryd.prog 33 #[bb, (.int .u64 (((n : Nat) : Int))), (.int .i64 (m))] w fun v w' => Own w' w.heap.size 5 1 v (b ++ numB n (wideN m)).length ((b ++ numB n (wideN m)).map byteV) ∧ Ext w w' := by
  have hw8 := wideN_le m
  obtain ⟨n0, hn0⟩ : ∃ n, n = w.heap.size := ⟨_, rfl⟩
  have hU : Upd (fun i => n0 ≤ i) w w := Upd.refl _ _
  have hb_b : ∀ i, rbk bb = some i → i < n0 := by rw [hn0]; exact fun i hi => hb.bound (by decide) hi
  refine CT_of Tryd.func33 rfl rfl rfl ?_
  refine W_seq ?_
  refine W_reg ?_
  refine L_op rfl (X_assign (v := (.slice none 0 0)) rfl ?_)
  refine L_nil ?_
  refine T_n ?_
  refine W_seq ?_
  refine W_reg ?_
  refine L_op rfl (X_buildSlice1 (vs := []) S35 (by decide) rfl rfl (fun _ h => by cases h) ?_)
  intro b1 w1 hn1
  have hbn1 := hn1.num; have hbs1 := hn1.size
  replace hb := hb.ext hn1.ext
  replace hU := hU.trans (Ext.upd hn1.ext)
  have hB1 := hn1.blk
  refine L_op rfl (X_move (v := bb) rfl ?_)
  refine L_op rfl (X_append (B := n0) (s := (.slice (some ⟨b1, 0, none⟩) 0 0)) (x := bb) S35 ⟨_, Tryd.underlying35⟩ rfl rfl (Own.zero _ _ _ _ _) hb (byteV_one _) (by unfold maxLen; omega) (by omega) (by omega) ?_)
  intro v2 w2 hO2 hu2 _
  replace hO2 := hO2.eq (Nat.zero_add _) (List.nil_append _)
  have hz2 := hu2.nobk.size
  replace hb := hb.ext hu2.nobk
  replace hU := hU.trans (Ext.upd hu2.nobk)
  have hO2_b : ∀ b, obk v2 = some b → b < w2.heap.size := fun b hb => (hO2.lt hb).2
  refine L_op rfl (X_assign (v := v2) rfl ?_)
  refine L_nil ?_
  refine T_n ?_
  refine W_seq ?_
  refine W_seq ?_
  refine W_reg ?_
  refine L_op rfl (X_assign (v := (.int .i64 (0))) rfl ?_)
  refine L_nil ?_
  refine T_n ?_
  refine W_block ?_
  refine W_loop (α := Nat × Value) [7, 8, 12, 13, 14, 15, 16, 17, 18, 19, 20, 21, 22, 23, 24, 25, 26] (fun ⟨i, u⟩ => [(7, u), (8, (.int .i64 (((i : Nat) : Int))))]) (fun ⟨i, u⟩ w_ => i ≤ wideN m ∧ Own w_ n0 5 1 u (b ++ numB n i).length ((b ++ numB n i).map byteV) ∧ Upd (fun i => n0 ≤ i) w w_) (fun ⟨i, u⟩ => wideN m - i) ⟨rfl, (0, v2), ⟨Nat.zero_le _, (hO2.eq (by rw [show numB n 0 = [] from rfl, List.append_nil]) (by rw [show numB n 0 = [] from rfl, List.append_nil])), hU⟩, Out.refl _ _, ⟨rfl, rfl, trivial⟩⟩ ?_
  rintro ⟨i, u⟩ w3 _ ⟨hil, hO, hU⟩
  have hO_b : ∀ b, obk u = some b → b < w3.heap.size := fun b hb => (hO.lt hb).2
  have hsz0 := hU.size
  refine W_seq ?_
  refine W_seq ?_
  refine W_reg ?_
  refine L_op rfl (X_move (v := (.int .i64 (((i : Nat) : Int)))) rfl ?_)
  refine L_op rfl (X_move (v := (.int .i64 (m))) rfl ?_)
  refine L_op rfl (X_fn (vs := [(.int .i64 (m))]) en51 rfl (CT.mono (c_wideR m _) ?_))
  rintro _ _ ⟨rfl, rfl⟩
  rw [wideN_eq]
  by_cases hc4 : (((i : Nat) : Int) : Int) < (((wideN m : Nat) : Int))
  · refine L_op rfl (X_cmp (k := .i64) (a := ((i : Nat) : Int)) (b := ((wideN m : Nat) : Int)) (r := true) rfl rfl rfl (decide_eq_true (p := ((((i : Nat) : Int)) : Int) < ((((wideN m : Nat) : Int)) : Int)) (by omega)) ?_)
    have hi : i < wideN m := by omega
    refine L_nil ?_
    refine T_n ?_
    refine W_ct rfl ?_
    refine W_skip ?_
    refine T_n ?_
    refine W_seq ?_
    refine W_block ?_
    refine W_reg ?_
    refine L_op rfl (X_move (v := u) rfl ?_)
    refine L_op rfl (X_move (v := (.int .u64 (((n : Nat) : Int)))) rfl ?_)
    refine L_op rfl (X_move (v := (.int .i64 (((i : Nat) : Int)))) rfl ?_)
    refine L_op rfl (X_arith (k := .i64) (a := 8) (b := ((i : Nat) : Int)) (r := (8 * (i : Int))) rfl rfl rfl (imul64 rfl (by omega) (by omega)) ?_)
    refine L_op rfl (X_convInt (k := .i64) (a := (8 * (i : Int))) (r := (8 * (i : Int))) (by rw [Tryd.underlying3]; rfl) Tryd.underlying82 rfl (Go.SL.u64_wrap (by omega) (by omega)) ?_)
    refine L_op rfl (X_shift (k := .u64) (yk := .u64) (a := ((n : Nat) : Int)) (b := (8 * (i : Int))) (r := ((n / 256 ^ i : Nat) : Int)) (.inr ⟨rfl, shr_at (by omega)⟩) (by omega) rfl rfl ?_)
    refine L_op rfl (X_convInt (k := .u64) (a := ((n / 256 ^ i : Nat) : Int)) (r := ((byteAt n i).toNat : Int)) (by rw [Tryd.underlying39]; rfl) Tryd.underlying5 rfl (u8_wrap _) ?_)
    refine L_op rfl (X_buildSlice1 (vs := [(.int .u8 (((byteAt n i).toNat : Int)))]) S35 (by decide) rfl rfl (List.forall_mem_cons.2 ⟨rfl, (fun _ h => by cases h)⟩) ?_)
    intro b5 w5 hn5
    have hbn5 := hn5.num; have hbs5 := hn5.size
    replace hU := hU.trans (Ext.upd hn5.ext)
    replace hO := hO.ext hn5.ext
    have hB5 := hn5.blk
    have hbl : (b ++ numB n i).length = b.length + i := by rw [List.length_append, numB_length]
    refine L_op rfl (X_append (B := n0) (n := (b ++ numB n i).length) (s := u) (x := (.slice (some ⟨b5, 0, none⟩) 1 1)) S35 ⟨_, Tryd.underlying35⟩ rfl rfl hO (hB5.rd (o := 0) (n := 1) (c := 1) (sz := 1) (xs := [byteAt n i].map byteV) (by decide) (by decide) rfl (fun j u hj => by rw [Nat.zero_add]; simpa [byteV] using hj)) (byteV_one _) (by unfold maxLen; omega) (by omega) (by omega) ?_)
    intro v6 w6 hO6 hu6 ho6
    have hz6 := hu6.size
    replace hO6 := hO6.eq (n' := ((b ++ numB n i) ++ [byteAt n i]).length) (xs' := ((b ++ numB n i) ++ [byteAt n i]).map byteV) (by rw [List.length_append (bs := [byteAt n i])] <;> rfl) List.map_append.symm
    replace hU := hU.trans (hu6.mono fun i _ h => by have hq := hO_b _ h; have h := hO.lt h; show n0 ≤ i; omega)
    have hO6_b : ∀ b, obk v6 = some b → b < w6.heap.size := fun b hb => (hO6.lt hb).2
    refine L_op rfl (X_assign (v := v6) rfl ?_)
    refine L_nil ?_
    refine B_n ?_
    refine T_n ?_
    refine W_reg ?_
    refine L_op rfl (X_move (v := (.int .i64 (((i : Nat) : Int)))) rfl ?_)
    refine L_op rfl (X_arith (k := .i64) (a := ((i : Nat) : Int)) (b := 1) (r := ((i + 1 : Nat) : Int)) rfl rfl rfl (iadd64 (by omega) (by omega) (by omega)) ?_)
    refine L_op rfl (X_assign (v := (.int .i64 (((i + 1 : Nat) : Int)))) rfl ?_)
    refine L_nil ?_
    refine T_n ?_
    exact ⟨rfl, (i + 1, v6), ⟨⟨hi, by rw [numB_step, ← List.append_assoc]; exact hO6, hU⟩, (by show wideN m - (i + 1) < wideN m - i; omega)⟩, (Out.mk rfl), ⟨rfl, rfl, trivial⟩⟩
  · refine L_op rfl (X_cmp (k := .i64) (a := ((i : Nat) : Int)) (b := ((wideN m : Nat) : Int)) (r := false) rfl rfl rfl (decide_eq_false (p := ((((i : Nat) : Int)) : Int) < ((((wideN m : Nat) : Int)) : Int)) (by omega)) ?_)
    obtain rfl : i = wideN m := by omega
    refine L_nil ?_
    refine T_n ?_
    refine W_cf rfl ?_
    refine W_exit ?_
    refine T_e ?_
    refine T_e ?_
    refine B_x ?_
    refine T_n ?_
    refine W_seq ?_
    refine W_reg ?_
    refine L_op rfl (X_move (v := u) rfl ?_)
    refine L_op rfl (X_assign (v := u) rfl ?_)
    refine L_nil ?_
    refine T_n ?_
    refine W_ret ?_
    exact BQ_r (End_1 Tryd.results33 (v := u) rfl ⟨hO.more (by omega), hU.own hn0⟩)

theorem c_putBytesR (b s : Value) (l m : List UInt8) (w : World) (hl : l.length ≤ 140737488355000) (hb : Rd w 1 b l.length (l.map byteV)) (hs : Rd w 1 s m.length (m.map byteV)) : CT Tryd.prog 32 #[b, s] w fun v w' => Own w' w.heap.size 5 1 v (l ++ sizedB m).length ((l ++ sizedB m).map byteV) ∧ Ext w w' := by
  obtain ⟨n0, hn0⟩ : ∃ n, n = w.heap.size := ⟨_, rfl⟩
  have hU : Upd (fun i => n0 ≤ i) w w := Upd.refl _ _
  have hb_b : ∀ i, rbk b = some i → i < n0 := by rw [hn0]; exact fun i hi => hb.bound (by decide) hi
  have hs_b : ∀ i, rbk s = some i → i < n0 := by rw [hn0]; exact fun i hi => hs.bound (by decide) hi
  refine CT_of Tryd.func32 rfl rfl rfl ?_
  refine W_seq ?_
  refine W_reg ?_
  refine L_op rfl (X_assign (v := (.slice none 0 0)) rfl ?_)
  refine L_nil ?_
  refine T_n ?_
  refine W_seq ?_
  refine W_reg ?_
  refine L_op rfl (X_move (v := s) rfl ?_)
  refine L_op rfl (X_move (v := s) rfl ?_)
  refine L_op rfl (X_len (v := s) (n := m.length) Tryd.underlying35 rfl hs.sv ?_)
  refine L_op rfl (X_min (k := .i64) (a := ((m.length : Nat) : Int)) (b := 255) (r := ((min m.length 255 : Nat) : Int)) rfl rfl (by omega) ?_)
  refine L_op rfl (X_slice (n := m.length) (l := 0) (h' := min m.length 255) (kl := .i64) (kh := .i64) S35 rfl hs.sv rfl rfl (by omega) (by omega) ?_)
  refine L_op rfl (X_assign (v := (cutv s 1 (0) (min m.length 255))) rfl ?_)
  refine L_nil ?_
  refine T_n ?_
  refine W_seq ?_
  refine W_reg ?_
  refine L_op rfl (X_buildSlice1 (vs := []) S35 (by decide) rfl rfl (fun _ h => by cases h) ?_)
  intro b2 w2 hn2
  have hbn2 := hn2.num; have hbs2 := hn2.size
  replace hb := hb.ext hn2.ext
  replace hs := hs.ext hn2.ext
  replace hU := hU.trans (Ext.upd hn2.ext)
  have hB2 := hn2.blk
  refine L_op rfl (X_move (v := b) rfl ?_)
  refine L_op rfl (X_append (B := n0) (s := (.slice (some ⟨b2, 0, none⟩) 0 0)) (x := b) S35 ⟨_, Tryd.underlying35⟩ rfl rfl (Own.zero _ _ _ _ _) hb (byteV_one _) (by unfold maxLen; omega) (by omega) (by omega) ?_)
  intro v3 w3 hO3 hu3 _
  replace hO3 := hO3.eq (Nat.zero_add _) (List.nil_append _)
  have hz3 := hu3.nobk.size
  replace hb := hb.ext hu3.nobk
  replace hs := hs.ext hu3.nobk
  replace hU := hU.trans (Ext.upd hu3.nobk)
  have hO3_b : ∀ b, obk v3 = some b → b < w3.heap.size := fun b hb => (hO3.lt hb).2
  refine L_op rfl (X_move (v := (cutv s 1 (0) (min m.length 255))) rfl ?_)
  refine L_op rfl (X_len (v := (cutv s 1 (0) (min m.length 255))) (n := (m.take 255).length) Tryd.underlying35 rfl (hs.cutB (lo := 0) (hi := min m.length 255) (by omega) (by omega) (m := m.take 255) (take255 m)).sv ?_)
  refine L_op rfl (X_convInt (k := .i64) (a := (((m.take 255).length : Nat) : Int)) (r := ((UInt8.ofNat (m.take 255).length).toNat : Int)) (by rw [Tryd.underlying3]; rfl) Tryd.underlying5 rfl (u8_wrap _) ?_)
  refine L_op rfl (X_buildSlice1 (vs := [(.int .u8 (((UInt8.ofNat (m.take 255).length).toNat : Int)))]) S35 (by decide) rfl rfl (List.forall_mem_cons.2 ⟨rfl, (fun _ h => by cases h)⟩) ?_)
  intro b4 w4 hn4
  have hbn4 := hn4.num; have hbs4 := hn4.size
  replace hb := hb.ext hn4.ext
  replace hs := hs.ext hn4.ext
  replace hU := hU.trans (Ext.upd hn4.ext)
  replace hO3 := hO3.ext hn4.ext
  have hB4 := hn4.blk
  have hT : (m.take 255).length ≤ 255 := by rw [List.length_take]; omega
  refine L_op rfl (X_append (B := n0) (n := l.length) (s := v3) (x := (.slice (some ⟨b4, 0, none⟩) 1 1)) S35 ⟨_, Tryd.underlying35⟩ rfl rfl hO3 (hB4.rd (o := 0) (n := 1) (c := 1) (sz := 1) (xs := [UInt8.ofNat (m.take 255).length].map byteV) (by decide) (by decide) rfl (fun j u hj => by rw [Nat.zero_add]; simpa [byteV] using hj)) (byteV_one _) (by unfold maxLen; omega) (by omega) (by omega) ?_)
  intro v5 w5 hO5 hu5 ho5
  have hz5 := hu5.size
  replace hO5 := hO5.eq (n' := (l ++ [UInt8.ofNat (m.take 255).length]).length) (xs' := (l ++ [UInt8.ofNat (m.take 255).length]).map byteV) (by rw [List.length_append (bs := [UInt8.ofNat (m.take 255).length])] <;> rfl) List.map_append.symm
  replace hb := hb.upd hu5 fun i hi h => by have hi := hb_b _ hi; have hq := hO3_b _ h; have h := hO3.lt h; omega
  replace hs := hs.upd hu5 fun i hi h => by have hi := hs_b _ hi; have hq := hO3_b _ h; have h := hO3.lt h; omega
  replace hU := hU.trans (hu5.mono fun i _ h => by have hq := hO3_b _ h; have h := hO3.lt h; show n0 ≤ i; omega)
  have hO5_b : ∀ b, obk v5 = some b → b < w5.heap.size := fun b hb => (hO5.lt hb).2
  refine L_op rfl (X_assign (v := v5) rfl ?_)
  refine L_nil ?_
  refine T_n ?_
  refine W_seq ?_
  refine W_reg ?_
  refine L_op rfl (X_move (v := v5) rfl ?_)
  refine L_op rfl (X_move (v := (cutv s 1 (0) (min m.length 255))) rfl ?_)
  have hT2 : (l ++ [UInt8.ofNat (m.take 255).length]).length = l.length + 1 := by rw [List.length_append]; rfl
  refine L_op rfl (X_append (B := n0) (n := (l ++ [UInt8.ofNat (m.take 255).length]).length) (s := v5) (x := (cutv s 1 (0) (min m.length 255))) S35 ⟨_, Tryd.underlying35⟩ rfl rfl hO5 (hs.cutB (lo := 0) (hi := min m.length 255) (by omega) (by omega) (m := m.take 255) (take255 m)) (byteV_one _) (by unfold maxLen; omega) (by omega) (by omega) ?_)
  intro v6 w6 hO6 hu6 ho6
  have hz6 := hu6.size
  replace hO6 := hO6.eq (n' := ((l ++ [UInt8.ofNat (m.take 255).length]) ++ m.take 255).length) (xs' := ((l ++ [UInt8.ofNat (m.take 255).length]) ++ m.take 255).map byteV) (by rw [List.length_append (bs := m.take 255)] <;> rfl) List.map_append.symm
  replace hb := hb.upd hu6 fun i hi h => by have hi := hb_b _ hi; have hq := hO5_b _ h; have h := hO5.lt h; omega
  replace hs := hs.upd hu6 fun i hi h => by have hi := hs_b _ hi; have hq := hO5_b _ h; have h := hO5.lt h; omega
  replace hU := hU.trans (hu6.mono fun i _ h => by have hq := hO5_b _ h; have h := hO5.lt h; show n0 ≤ i; omega)
  have hO6_b : ∀ b, obk v6 = some b → b < w6.heap.size := fun b hb => (hO6.lt hb).2
  refine L_op rfl (X_assign (v := v6) rfl ?_)
  refine L_nil ?_
  refine T_n ?_
  refine W_ret ?_
  exact BQ_r (End_1 Tryd.results32 (v := v6) rfl ⟨(hO6.more (by omega)).eq (by rw [List.append_assoc]; rfl) (by rw [List.append_assoc]; rfl), hU.own hn0⟩)
end Go.Proofs.YtmddmghgkkjbiaaDoor
