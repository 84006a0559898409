/-
  The contracts of branches: Encode. (Printed by wip/gen/t07g.py of this repo.)
-/
import Derived.Test.YtbgpegccnalkeaaDoorKidsB
namespace Go.Proofs.YtbgpegccnalkeaaDoor
open Go Go.SL Go.Proofs
set_option linter.unusedVariables false

/-- a kid's bytes -/
def putK (d : KD) : List UInt8 := sizedB d.1 ++ ptrB d.2
def encF (ks : List KD) (i : Nat) : List UInt8 := [2, UInt8.ofNat ks.length] ++ (ks.take i).flatMap putK
theorem putK_len (d : KD) : (putK d).length = 18 + (d.1.take 255).length := by
  unfold putK
  rw [List.length_append, sizedB_length, ptrB_len]; omega
theorem encF_step {ks : List KD} {i : Nat} {d : KD} (h : ks[i]? = some d) : encF ks (i + 1) = (encF ks i ++ sizedB d.1) ++ ptrB d.2 := by
  unfold encF
  rw [List.take_add_one, h]
  simp [putK, List.append_assoc]
theorem encF_len {ks : List KD} (h : ∀ d ∈ ks, d.1.length ≤ 8) : ∀ i, (encF ks i).length ≤ 2 + 26 * i
  | 0 => by unfold encF; simp
  | i + 1 => by
    have ih := encF_len h i
    cases hd : ks[i]? with
    | none =>
      have e : encF ks (i + 1) = encF ks i := by unfold encF; rw [List.take_add_one, hd]; simp
      rw [e]; omega
    | some d =>
      rw [encF_step hd, List.append_assoc, List.length_append]
      have h1 := putK_len d
      have h2 := h d (List.mem_of_getElem? hd)
      unfold putK at h1
      have h3 : (d.1.take 255).length ≤ d.1.length := by rw [List.length_take]; omega
      omega
def encK (ks : List KD) : List UInt8 := fillL (encF ks ks.length)
theorem encK_len (ks : List KD) : (encK ks).length = 256 := fillL_length _
def encP (ks : List KD) : List UInt8 := if RightK ks then encK ks else List.replicate 256 0
def encE (ks : List KD) : Int := if RightK ks then 0 else 2
theorem encP_len (ks : List KD) : (encP ks).length = 256 := by unfold encP; split; exact encK_len ks; exact List.length_replicate
theorem kd_at {es : List KE} {i : Nat} {e : KE} (h : es[i]? = some e) : (es.map (fun (x : KE) => x.2))[i]? = some e.2 := by rw [List.getElem?_map, h]; rfl

theorem c_encodeK (l : Value) (es : List KE) (w : World) (lo up : Nat) (hup : up ≤ w.heap.size) (hl : NRd LK w lo up l es) (hpt : ∀ e ∈ es, PtOk e.2.2) (hT : TabR w) : CT Tryd.prog 10 #[l] w fun v w' => v = .tuple #[.agg ((encP (es.map (fun (x : KE) => x.2))).map byteV).toArray, .int .i64 (encE (es.map (fun (x : KE) => x.2)))] ∧ Ext w w' := by
  obtain ⟨n0, hn0⟩ : ∃ n, n = w.heap.size := ⟨_, rfl⟩
  have hU : Upd (fun i => n0 ≤ i) w w := Upd.refl _ _
  have hmx := hl.sv.len
  rw [← hn0] at hup
  have hn1 := tab_pos hT
  refine CT_of Tryd.func10 rfl rfl rfl ?_
  refine W_seq ?_
  refine W_reg ?_
  refine L_op rfl (X_alloc (z := zv26) (c := zc26.toArray) Zv26 rfl ?_)
  intro b1 w1 hn1
  have hbn1 := hn1.num; have hbs1 := hn1.size
  replace hl := hl.ext hn1.ext
  replace hU := hU.trans (Ext.upd hn1.ext)
  replace hT := hT.ext hn1.ext
  have hB1 := hn1.blk
  rw [zc26_eq] at hB1
  refine L_op rfl (X_assign (v := (.int .i64 (0))) rfl ?_)
  refine L_nil ?_
  refine T_n ?_
  refine W_seq ?_
  refine W_seq ?_
  refine W_reg ?_
  refine L_op rfl (X_move (v := l) rfl ?_)
  refine L_op rfl (X_fn (vs := [l]) en11 rfl (CT.mono (c_rightK l es _ lo up (by omega) hl hpt) ?_))
  rintro _ w2 ⟨rfl, hu2⟩
  have hz2 := hu2.size
  replace hl := hl.ext hu2
  replace hU := hU.trans (Ext.upd hu2)
  replace hT := hT.ext hu2
  replace hB1 := hB1.ext hu2
  rcases Bool.eq_false_or_eq_true (decide (RightK (es.map (fun (x : KE) => x.2)))) with hc3 | hc3
  · rw [hc3]
    refine L_op rfl (X_not (b := true) (r := false) rfl rfl ?_)
    refine L_nil ?_
    refine T_n ?_
    refine W_cf rfl ?_
    refine W_skip ?_
    refine T_n ?_
    refine W_seq ?_
    have hR_ := of_decide_eq_true hc3
    have hl8 := right_len hR_
    have hn6 := hR_.1.2.1
    rw [List.length_map] at hn6
    refine W_reg ?_
    refine L_op rfl (X_move (v := l) rfl ?_)
    refine L_op rfl (X_len (v := l) (n := es.length) Tryd.underlying22 rfl hl.sv ?_)
    refine L_op rfl (X_convInt (k := .i64) (a := ((es.length : Nat) : Int)) (r := ((UInt8.ofNat es.length).toNat : Int)) (by rw [Tryd.underlying3]; rfl) Tryd.underlying5 rfl (u8_wrap _) ?_)
    refine L_op rfl (X_buildSlice1 (vs := [(.int .u8 (2)), (.int .u8 (((UInt8.ofNat es.length).toNat : Int)))]) S42 (by decide) rfl rfl (List.forall_mem_cons.2 ⟨rfl, (List.forall_mem_cons.2 ⟨rfl, (fun _ h => by cases h)⟩)⟩) ?_)
    intro b4 w4 hn4
    have hbn4 := hn4.num; have hbs4 := hn4.size
    replace hl := hl.ext hn4.ext
    replace hU := hU.trans (Ext.upd hn4.ext)
    replace hT := hT.ext hn4.ext
    replace hB1 := hB1.ext hn4.ext
    have hB4 := hn4.blk
    have hR0 : Rd w4 1 (.slice (some ⟨b4, 0, none⟩) 2 2) (encF (es.map (fun (x : KE) => x.2)) 0).length ((encF (es.map (fun (x : KE) => x.2)) 0).map byteV) := hB4.rd (o := 0) (n := 2) (c := 2) (sz := 1) (by decide) (by decide) rfl (fun j u hj => by rw [Nat.zero_add]; simpa [encF, byteV] using hj)
    refine L_op rfl (X_assign (v := (.slice (some ⟨b4, 0, none⟩) 2 2)) rfl ?_)
    refine L_nil ?_
    refine T_n ?_
    refine W_seq ?_
    refine W_seq ?_
    refine W_reg ?_
    refine L_op rfl (X_move (v := l) rfl ?_)
    refine L_op rfl (X_len (v := l) (n := es.length) Tryd.underlying22 rfl hl.sv ?_)
    refine L_op rfl (X_move (v := (.int .i64 (0))) rfl ?_)
    refine L_nil ?_
    refine T_n ?_
    refine W_block ?_
    refine W_loop (α := Nat × Value) [4, 6, 17, 18, 19, 20, 21, 22, 23, 24, 25, 26, 27, 28] (fun ⟨i, u⟩ => [(17, (.int .i64 (((i : Nat) : Int)))), (4, u)]) (fun ⟨i, u⟩ w_ => i ≤ es.length ∧ NRd LK w_ lo up l es ∧ Rd w_ 1 u (encF (es.map (fun (x : KE) => x.2)) i).length ((encF (es.map (fun (x : KE) => x.2)) i).map byteV) ∧ TabR w_ ∧ Blk w_ b1 ((List.replicate 256 (0 : UInt8)).map byteV).toArray 26 ∧ Upd (fun i => n0 ≤ i) w w_) (fun ⟨i, u⟩ => es.length - i) ⟨rfl, (0, (.slice (some ⟨b4, 0, none⟩) 2 2)), ⟨Nat.zero_le _, hl, hR0, hT, hB1, hU⟩, Out.refl _ _, ⟨rfl, rfl, trivial⟩⟩ ?_
    rintro ⟨i, u⟩ w5 _ ⟨hil, hl, hR, hT, hB1, hU⟩
    have hsz_ := hU.size
    have hb1l := hB1.lt
    have hR_b : ∀ b, rbk u = some b → b < w5.heap.size := fun b hb => hR.bound (by decide) hb
    refine W_seq ?_
    refine W_reg ?_
    by_cases hc6 : (((i : Nat) : Int) : Int) < (((es.length : Nat) : Int))
    · refine L_op rfl (X_cmp (k := .i64) (a := ((i : Nat) : Int)) (b := ((es.length : Nat) : Int)) (r := true) rfl rfl rfl (decide_eq_true (p := ((((i : Nat) : Int)) : Int) < ((((es.length : Nat) : Int)) : Int)) (by omega)) ?_)
      have hi : i < es.length := by omega
      obtain ⟨e, hei⟩ : ∃ e, es[i]? = some e := ⟨_, List.getElem?_eq_getElem hi⟩
      have hel := encF_len hl8 i
      have hst := encF_step (kd_at hei)
      have hk8 := hl8 _ (List.mem_of_getElem? (kd_at hei))
      refine L_nil ?_
      refine T_n ?_
      refine W_seq ?_
      refine W_ct rfl ?_
      refine W_skip ?_
      refine T_n ?_
      refine W_seq ?_
      refine W_block ?_
      refine W_seq ?_
      refine W_reg ?_
      refine L_op rfl (X_idx (v := l) (n := es.length) (k := .i64) (i := ((i : Nat) : Int)) S22 rfl hl.sv rfl (by omega) (by omega) ?_)
      refine L_op rfl (X_loadA (xs := e.1 :: ptC e.2.2) A44 rfl (kall hl (Int.toNat_natCast _) hei) rfl ?_)
      refine L_op rfl (X_alloc (z := (.agg #[(.slice none 0 0), (.int .u8 (0)), (.int .u16 (0)), (.int .u16 (0)), (.int .u32 (0)), (.int .u64 (0))])) (c := #[(.slice none 0 0), (.int .u8 (0)), (.int .u16 (0)), (.int .u16 (0)), (.int .u32 (0)), (.int .u64 (0))]) Zv44 rfl ?_)
      intro b7 w7 hn7
      have hbn7 := hn7.num; have hbs7 := hn7.size
      replace hl := hl.ext hn7.ext
      replace hU := hU.trans (Ext.upd hn7.ext)
      replace hT := hT.ext hn7.ext
      replace hR := hR.ext hn7.ext
      replace hB1 := hB1.ext hn7.ext
      have hB7 := hn7.blk
      refine L_op0 (X_storeW (b := b7) (ys := e.1 :: ptC e.2.2) A44 rfl rfl (kone hl hei) rfl hB7 rfl ?_)
      intro w8 hu8 hb8
      have hz8 := hu8.size
      replace hl := hl.upd hu8 fun i h1 h2 h => by have h : i = b7 := h; omega
      replace hU := hU.trans (hu8.mono fun i _ h => by have h : i = b7 := h; show n0 ≤ i; omega)
      replace hT := hT.upd hu8 fun i h1 h2 h => by have h : i = b7 := h; omega
      replace hR := hR.upd hu8 fun i hi h => by have hi := hR_b _ hi; have h : i = b7 := h; omega
      replace hB1 := hB1.upd hu8 fun h => by have h : b1 = b7 := h; omega
      replace hB7 := hb8
      refine L_nil ?_
      refine T_n ?_
      refine W_draw 6 [[], [], [1], [0, 1, 2], [], [4], [0, 1, 2, 3, 4, 5], [0, 1, 2, 3, 4, 5, 6]] mixed (by kernel_rfl) ?_
      refine ⟨.det (fun val => u), ⟨fun _ _ hv => rfl, fun _ _ _ _ _ => trivial⟩, fun val h_ W hx he => ⟨trivial, ?_⟩, ?_⟩
      · replace hx := (Upd.drew _ _).trans hx
        replace hl := hl.ext hx
        replace hT := hT.ext hx
        replace hR := hR.ext hx
        replace hB1 := hB1.ext hx
        replace hB7 := hB7.ext hx
        have hE := Upd.refl (fun _ => False) W
        refine id (X_move (v := u) rfl ?_)
        exact ⟨hE, rfl⟩
      refine ⟨.det (fun val => (ptr b7 (0))), ⟨fun _ _ hv => rfl, fun _ _ _ _ _ => trivial⟩, fun val h_ W hx he => ⟨trivial, ?_⟩, ?_⟩
      · replace hx := (Upd.drew _ _).trans hx
        replace hl := hl.ext hx
        replace hT := hT.ext hx
        replace hR := hR.ext hx
        replace hB1 := hB1.ext hx
        replace hB7 := hB7.ext hx
        have hE := Upd.refl (fun _ => False) W
        refine id (X_fldP (b := b7) (o := 0) (r := 0) Fd44_0 rfl rfl ?_)
        exact ⟨hE, rfl⟩
      refine ⟨.det (fun val => e.1), ⟨fun _ _ hv => rfl, fun _ _ _ _ _ => trivial⟩, fun val h_ W hx he => ⟨trivial, ?_⟩, ?_⟩
      · replace hx := (Upd.drew _ _).trans hx
        replace hl := hl.ext hx
        replace hT := hT.ext hx
        replace hR := hR.ext hx
        replace hB1 := hB1.ext hx
        replace hB7 := hB7.ext hx
        have hE := Upd.refl (fun _ => False) W
        refine id (X_load (p := (ptr b7 (0))) (v := e.1) T42 rfl (hB7.at1 rfl) ?_)
        exact ⟨hE, rfl⟩
      refine ⟨.abs (fun _ x_ W_ => Rd W_ 1 x_ ((encF (es.map (fun (x : KE) => x.2)) i) ++ sizedB e.2.1).length (((encF (es.map (fun (x : KE) => x.2)) i) ++ sizedB e.2.1).map byteV)), ⟨fun _ _ _ => rfl, fun _ _ _ _ hu h => (by have h2 := Rd.ext h hu; exact h2)⟩, fun val h_ W hx he => ⟨trivial, ?_⟩, ?_⟩
      · replace hx := (Upd.drew _ _).trans hx
        replace hl := hl.ext hx
        replace hT := hT.ext hx
        replace hR := hR.ext hx
        replace hB1 := hB1.ext hx
        replace hB7 := hB7.ext hx
        have hE := Upd.refl (fun _ => False) W
        refine X_fn (vs := [u, e.1]) en24 rfl (CT.mono (c_putBytes u e.1 (encF (es.map (fun (x : KE) => x.2)) i) e.2.1 _ (by omega) hR (krd hl hei)) ?_)
        rintro v9 w9 ⟨hO9, hu9⟩
        exact ⟨hu9, hO9.rd⟩
      refine ⟨.det (fun val => (ptr b7 (1))), ⟨fun _ _ hv => rfl, fun _ _ _ _ _ => trivial⟩, fun val h_ W hx he => ⟨trivial, ?_⟩, ?_⟩
      · replace hx := (Upd.drew _ _).trans hx
        replace hl := hl.ext hx
        replace hT := hT.ext hx
        replace hR := hR.ext hx
        replace hB1 := hB1.ext hx
        replace hB7 := hB7.ext hx
        have hE := Upd.refl (fun _ => False) W
        refine id (X_fldP (b := b7) (o := 0) (r := 1) Fd44_1 rfl rfl ?_)
        exact ⟨hE, rfl⟩
      refine ⟨.det (fun val => (.agg (ptC e.2.2).toArray)), ⟨fun _ _ hv => rfl, fun _ _ _ _ _ => trivial⟩, fun val h_ W hx he => ⟨trivial, ?_⟩, ?_⟩
      · replace hx := (Upd.drew _ _).trans hx
        replace hl := hl.ext hx
        replace hT := hT.ext hx
        replace hR := hR.ext hx
        replace hB1 := hB1.ext hx
        replace hB7 := hB7.ext hx
        have hE := Upd.refl (fun _ => False) W
        refine id (X_loadA (p := (ptr b7 (1))) (xs := ptC e.2.2) A41 rfl (kid_ptr hB7) rfl ?_)
        exact ⟨hE, rfl⟩
      intro val W9 hx9 he9
      replace hx9 := (Upd.drew _ _).trans hx9
      have hz9 := hx9.size
      replace hl := hl.ext hx9
      replace hU := hU.trans (Ext.upd hx9)
      replace hT := hT.ext hx9
      replace hR := hR.ext hx9
      replace hB1 := hB1.ext hx9
      replace hB7 := hB7.ext hx9
      obtain ⟨hR3, he9⟩ := he9
      refine L_op rfl (X_fn (vs := [(val 3), (.agg (ptC e.2.2).toArray)]) en23 rfl (CT.mono (c_ptrPut (val 3) ((encF (es.map (fun (x : KE) => x.2)) i) ++ sizedB e.2.1) e.2.2 _ (hpt e (List.mem_of_getElem? hei)) (by rw [List.length_append, sizedB_length, List.length_take]; omega) hR3 hT) ?_))
      rintro v10 w10 ⟨hO10, hu10⟩
      have hz10 := hu10.size
      rw [← hst] at hO10
      replace hl := hl.ext hu10
      replace hU := hU.trans (Ext.upd hu10)
      replace hT := hT.ext hu10
      replace hB1 := hB1.ext hu10
      replace hB7 := hB7.ext hu10
      refine L_op rfl (X_assign (v := v10) rfl ?_)
      refine L_nil ?_
      refine B_n ?_
      refine T_n ?_
      refine W_reg ?_
      refine L_op rfl (X_arith (k := .i64) (a := ((i : Nat) : Int)) (b := 1) (r := ((i + 1 : Nat) : Int)) rfl rfl rfl (iadd64 (by omega) (by omega) (by omega)) ?_)
      refine L_op rfl (X_move (v := (.int .i64 (((i + 1 : Nat) : Int)))) rfl ?_)
      refine L_nil ?_
      refine T_n ?_
      exact ⟨rfl, (i + 1, v10), ⟨⟨hi, hl, hO10.rd, hT, hB1, hU⟩, (by show es.length - (i + 1) < es.length - i; omega)⟩, (Out.mk rfl), ⟨rfl, rfl, trivial⟩⟩
    · refine L_op rfl (X_cmp (k := .i64) (a := ((i : Nat) : Int)) (b := ((es.length : Nat) : Int)) (r := false) rfl rfl rfl (decide_eq_false (p := ((((i : Nat) : Int)) : Int) < ((((es.length : Nat) : Int)) : Int)) (by omega)) ?_)
      have hie : i = es.length := by omega
      refine L_nil ?_
      refine T_n ?_
      refine W_seq ?_
      refine W_cf rfl ?_
      refine W_exit ?_
      refine T_e ?_
      refine T_e ?_
      refine B_x ?_
      refine T_n ?_
      refine W_seq ?_
      refine W_reg ?_
      refine L_op rfl (X_move (v := u) rfl ?_)
      have hel := encF_len hl8 i
      refine L_op rfl (X_fn (vs := [u]) en25 rfl (CT.mono (c_fill u (encF (es.map (fun (x : KE) => x.2)) i) _ hR) ?_))
      rintro _ w11 ⟨ee, rfl, _, hf, hu11⟩
      have hz11 := hu11.size
      rw [hf (by omega)]
      rw [show fillL (encF (es.map (fun (x : KE) => x.2)) i) = encK (es.map (fun (x : KE) => x.2)) by unfold encK; rw [List.length_map, ← hie]]
      replace hl := hl.ext hu11
      replace hU := hU.trans (Ext.upd hu11)
      replace hT := hT.ext hu11
      replace hB1 := hB1.ext hu11
      refine L_op rfl (X_extract (l := [(.agg (((encK (es.map (fun (x : KE) => x.2)))).map byteV).toArray), (.int .i64 (0))]) (v := (.agg (((encK (es.map (fun (x : KE) => x.2)))).map byteV).toArray)) rfl rfl ?_)
      refine L_op rfl (X_extract (l := [(.agg (((encK (es.map (fun (x : KE) => x.2)))).map byteV).toArray), (.int .i64 (0))]) (v := (.int .i64 (0))) rfl rfl ?_)
      refine L_op0 (X_storeW (b := b1) (ys := (((encK (es.map (fun (x : KE) => x.2)))).map byteV)) A26 rfl rfl (byteV_one _) (by rw [List.length_map]; exact (encK_len _)) hB1 (by rw [List.size_toArray]; exact (by rw [List.length_map]; exact List.length_replicate)) ?_)
      intro w12 hu12 hb12
      have hz12 := hu12.size
      replace hl := hl.upd hu12 fun i h1 h2 h => by have h : i = b1 := h; omega
      replace hU := hU.trans (hu12.mono fun i _ h => by have h : i = b1 := h; show n0 ≤ i; omega)
      replace hT := hT.upd hu12 fun i h1 h2 h => by have h : i = b1 := h; omega
      replace hB1 := hb12
      refine L_op rfl (X_assign (v := (.int .i64 (0))) rfl ?_)
      refine L_nil ?_
      refine T_n ?_
      refine W_ret ?_
      exact BQ_r (End_2 Tryd.results10 (RV_A A26 rfl hB1.atAll (by rw [List.length_map]; exact encK_len _)) (v2 := .int .i64 0) rfl ⟨by rw [show encP (es.map (fun (x : KE) => x.2)) = _ from if_pos hR_, show encE (es.map (fun (x : KE) => x.2)) = 0 from if_pos hR_], hU.own hn0⟩)
  · rw [hc3]
    refine L_op rfl (X_not (b := false) (r := true) rfl rfl ?_)
    refine L_nil ?_
    refine T_n ?_
    refine W_ct rfl ?_
    refine W_seq ?_
    refine W_reg ?_
    refine L_op rfl (X_build built26z ?_)
    refine L_op0 (X_storeW (b := b1) (ys := (((List.replicate 256 (0 : UInt8))).map byteV)) A26 rfl rfl (byteV_one _) (by rw [List.length_map]; exact List.length_replicate) hB1 (by rw [List.size_toArray]; exact (by rw [List.length_map]; exact List.length_replicate)) ?_)
    intro w13 hu13 hb13
    have hz13 := hu13.size
    replace hl := hl.upd hu13 fun i h1 h2 h => by have h : i = b1 := h; omega
    replace hU := hU.trans (hu13.mono fun i _ h => by have h : i = b1 := h; show n0 ≤ i; omega)
    replace hT := hT.upd hu13 fun i h1 h2 h => by have h : i = b1 := h; omega
    replace hB1 := hb13
    refine L_op rfl (X_assign (v := (.int .i64 (2))) rfl ?_)
    refine L_nil ?_
    refine T_n ?_
    refine W_ret ?_
    refine T_r ?_
    exact BQ_r (End_2 Tryd.results10 (RV_A A26 rfl hB1.atAll (by rw [List.length_map]; exact List.length_replicate)) (v2 := .int .i64 2) rfl ⟨by rw [show encP (es.map (fun (x : KE) => x.2)) = _ from if_neg (of_decide_eq_false hc3), show encE (es.map (fun (x : KE) => x.2)) = 2 from if_neg (of_decide_eq_false hc3)], hU.own hn0⟩)
end Go.Proofs.YtbgpegccnalkeaaDoor
