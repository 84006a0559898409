/-
 The references of chapter 07: Encode, Decode. (Printed by wip/gen/t07t.py of this repo.)
-/
import Derived.Test.YtbgpegccnalkeaaDoorRefsC
namespace Go.Proofs.YtbgpegccnalkeaaDoor
open Go Go.SL Go.Proofs
set_option linter.unusedVariables false

theorem c_encodeKR (l : Value) (es : List KE) (w : World) (lo up : Nat) (hup : up ≤ w.heap.size) (hl : NRd LK w lo up l es) (hpt : ∀ e ∈ es, PtOk e.2.2) : CT Tryd.prog 17 #[l] w fun v w' => v = .tuple #[.agg ((encP (es.map (fun (x : KE) => x.2))).map byteV).toArray, .int .i64 (encE (es.map (fun (x : KE) => x.2)))] ∧ Ext w w' := by
 obtain ⟨n0, hn0⟩ : ∃ n, n = w.heap.size := ⟨_, rfl⟩
 have hU : Upd (fun i => n0 ≤ i) w w := Upd.refl _ _
 have hmx := hl.sv.len
 rw [← hn0] at hup
 refine CT_of Tryd.func17 rfl rfl rfl ?_
 refine W_seq ?_
 refine W_reg ?_
 refine L_op rfl (X_alloc (z := zv26) (c := zc26.toArray) Zv26 rfl ?_)
 intro b1 w1 hn1
 have hbn1 := hn1.num; have hbs1 := hn1.size
 replace hl := hl.ext hn1.ext
 replace hU := hU.trans (Ext.upd hn1.ext)
 have hB1 := hn1.blk
 rw [zc26_eq] at hB1
 refine L_op rfl (X_assign (v := (.int .i64 (0))) rfl ?_)
 refine L_nil ?_
 refine T_n ?_
 refine W_seq ?_
 refine W_seq ?_
 refine W_reg ?_
 refine L_op rfl (X_move (v := l) rfl ?_)
 refine L_op rfl (X_fn (vs := [l]) en19 rfl (CT.mono (c_rightKR l es _ lo up (by omega) hl hpt) ?_))
 rintro _ w2 ⟨rfl, hu2⟩
 have hz2 := hu2.size
 replace hl := hl.ext hu2
 replace hU := hU.trans (Ext.upd hu2)
 replace hB1 := hB1.ext hu2
 rcases Bool.eq_false_or_eq_true (decide (RightK (es.map (fun (x : KE) => x.2)))) with hc3 | hc3
 ·rw [hc3]
  refine L_op rfl (X_not (b := true) (r := false) rfl rfl ?_)
  refine L_nil ?_
  refine T_n ?_
  refine W_cf rfl ?_
  refine W_skip ?_
  refine T_n ?_
  refine W_seq ?_
  have hR_ := of_decide_eq_true hc3
  have hl8 := right_len hR_
  have hn6 := hR_.1.2.1
  rw [List.length_map] at hn6
  refine W_reg ?_
  refine L_op rfl (X_move (v := l) rfl ?_)
  refine L_op rfl (X_len (v := l) (n := es.length) Tryd.underlying22 rfl hl.sv ?_)
  refine L_op rfl (X_convInt (k := .i64) (a := ((es.length : Nat) : Int)) (r := ((UInt8.ofNat es.length).toNat : Int)) (by rw [Tryd.underlying3]; rfl) Tryd.underlying5 rfl (u8_wrap _) ?_)
  refine L_op rfl (X_buildSlice1 (vs := [(.int .u8 (2)), (.int .u8 (((UInt8.ofNat es.length).toNat : Int)))]) S42 (by decide) rfl rfl (List.forall_mem_cons.2 ⟨rfl, (List.forall_mem_cons.2 ⟨rfl, (fun _ h => by cases h)⟩)⟩) ?_)
  intro b4 w4 hn4
  have hbn4 := hn4.num; have hbs4 := hn4.size
  replace hl := hl.ext hn4.ext
  replace hU := hU.trans (Ext.upd hn4.ext)
  replace hB1 := hB1.ext hn4.ext
  have hB4 := hn4.blk
  have hR0 : Rd w4 1 (.slice (some ⟨b4, 0, none⟩) 2 2) (encF (es.map (fun (x : KE) => x.2)) 0).length ((encF (es.map (fun (x : KE) => x.2)) 0).map byteV) := hB4.rd (o := 0) (n := 2) (c := 2) (sz := 1) (by decide) (by decide) rfl (fun j u hj => by rw [Nat.zero_add]; simpa [encF, byteV] using hj)
  refine L_op rfl (X_assign (v := (.slice (some ⟨b4, 0, none⟩) 2 2)) rfl ?_)
  refine L_nil ?_
  refine T_n ?_
  refine W_seq ?_
  refine W_seq ?_
  refine W_reg ?_
  refine L_op rfl (X_assign (v := (.int .i64 (0))) rfl ?_)
  refine L_nil ?_
  refine T_n ?_
  refine W_block ?_
  refine W_loop (α := Nat × Value) [4, 5, 16, 17, 18, 19, 20, 21, 22, 23, 24, 25, 26, 27, 28, 29, 30, 31, 32, 33, 34] (fun ⟨i, u⟩ => [(5, (.int .i64 (((i : Nat) : Int)))), (4, u)]) (fun ⟨i, u⟩ w_ => i ≤ es.length ∧ NRd LK w_ lo up l es ∧ Rd w_ 1 u (encF (es.map (fun (x : KE) => x.2)) i).length ((encF (es.map (fun (x : KE) => x.2)) i).map byteV) ∧ Blk w_ b1 ((List.replicate 256 (0 : UInt8)).map byteV).toArray 26 ∧ Upd (fun i => n0 ≤ i) w w_) (fun ⟨i, u⟩ => es.length - i) ⟨rfl, (0, (.slice (some ⟨b4, 0, none⟩) 2 2)), ⟨Nat.zero_le _, hl, hR0, hB1, hU⟩, Out.refl _ _, ⟨rfl, rfl, trivial⟩⟩ ?_
  rintro ⟨i, u⟩ w5 _ ⟨hil, hl, hR, hB1, hU⟩
  have hsz_ := hU.size
  have hb1l := hB1.lt
  have hR_b : ∀ b, rbk u = some b → b < w5.heap.size := fun b hb => hR.bound (by decide) hb
  refine W_seq ?_
  refine W_seq ?_
  refine W_reg ?_
  refine L_op rfl (X_move (v := (.int .i64 (((i : Nat) : Int)))) rfl ?_)
  refine L_op rfl (X_move (v := l) rfl ?_)
  refine L_op rfl (X_len (v := l) (n := es.length) Tryd.underlying22 rfl hl.sv ?_)
  by_cases hc6 : (((i : Nat) : Int) : Int) < (((es.length : Nat) : Int))
  ·refine L_op rfl (X_cmp (k := .i64) (a := ((i : Nat) : Int)) (b := ((es.length : Nat) : Int)) (r := true) rfl rfl rfl (decide_eq_true (p := ((((i : Nat) : Int)) : Int) < ((((es.length : Nat) : Int)) : Int)) (by omega)) ?_)
   have hi : i < es.length := by omega
   obtain ⟨e, hei⟩ : ∃ e, es[i]? = some e := ⟨_, List.getElem?_eq_getElem hi⟩
   have hel := encF_len hl8 i
   have hst := encF_step (kd_at hei)
   have hk8 := hl8 _ (List.mem_of_getElem? (kd_at hei))
   refine L_nil ?_
   refine T_n ?_
   refine W_ct rfl ?_
   refine W_skip ?_
   refine T_n ?_
   refine W_seq ?_
   refine W_block ?_
   refine W_draw 12 [[], [], [], [1, 2], [1, 2, 3], [1, 2, 3, 4], [0, 1, 2, 3, 4, 5], [], [], [7, 8], [7, 8, 9], [7, 8, 9, 10], [0, 1, 2, 3, 4, 5, 6, 7, 8, 9, 10, 11], [0, 1, 2, 3, 4, 5, 6, 7, 8, 9, 10, 11, 12]] mixed (by kernel_rfl) ?_
   refine ⟨.det (fun val => u), ⟨fun _ _ hv => rfl, fun _ _ _ _ _ => trivial⟩, fun val h_ W hx he => ⟨trivial, ?_⟩, ?_⟩
   ·replace hx := (Upd.drew _ _).trans hx
    replace hl := hl.ext hx
    replace hR := hR.ext hx
    replace hB1 := hB1.ext hx
    have hE := Upd.refl (fun _ => False) W
    refine id (X_move (v := u) rfl ?_)
    exact ⟨hE, rfl⟩
   refine ⟨.det (fun val => l), ⟨fun _ _ hv => rfl, fun _ _ _ _ _ => trivial⟩, fun val h_ W hx he => ⟨trivial, ?_⟩, ?_⟩
   ·replace hx := (Upd.drew _ _).trans hx
    replace hl := hl.ext hx
    replace hR := hR.ext hx
    replace hB1 := hB1.ext hx
    have hE := Upd.refl (fun _ => False) W
    refine id (X_move (v := l) rfl ?_)
    exact ⟨hE, rfl⟩
   refine ⟨.det (fun val => (.int .i64 (((i : Nat) : Int)))), ⟨fun _ _ hv => rfl, fun _ _ _ _ _ => trivial⟩, fun val h_ W hx he => ⟨trivial, ?_⟩, ?_⟩
   ·replace hx := (Upd.drew _ _).trans hx
    replace hl := hl.ext hx
    replace hR := hR.ext hx
    replace hB1 := hB1.ext hx
    have hE := Upd.refl (fun _ => False) W
    refine id (X_move (v := (.int .i64 (((i : Nat) : Int)))) rfl ?_)
    exact ⟨hE, rfl⟩
   refine ⟨.det (fun val => (pof l ((((i : Nat) : Int) : Int).toNat * 6))), ⟨fun _ _ hv => rfl, fun _ _ _ _ _ => trivial⟩, fun val h_ W hx he => ⟨trivial, ?_⟩, ?_⟩
   ·replace hx := (Upd.drew _ _).trans hx
    replace hl := hl.ext hx
    replace hR := hR.ext hx
    replace hB1 := hB1.ext hx
    have hE := Upd.refl (fun _ => False) W
    refine id (X_idx (v := l) (n := es.length) (k := .i64) (i := ((i : Nat) : Int)) S22 rfl hl.sv rfl (by omega) (by omega) ?_)
    exact ⟨hE, rfl⟩
   refine ⟨.det (fun val => (pof l ((((i : Nat) : Int) : Int).toNat * 6 + 0))), ⟨fun _ _ hv => rfl, fun _ _ _ _ _ => trivial⟩, fun val h_ W hx he => ⟨trivial, ?_⟩, ?_⟩
   ·replace hx := (Upd.drew _ _).trans hx
    replace hl := hl.ext hx
    replace hR := hR.ext hx
    replace hB1 := hB1.ext hx
    have hE := Upd.refl (fun _ => False) W
    refine id (X_fldS (v := l) (o := (((i : Nat) : Int) : Int).toNat * 6) Fd44_0 rfl hl.sv (by omega) ?_)
    exact ⟨hE, rfl⟩
   refine ⟨.det (fun val => e.1), ⟨fun _ _ hv => rfl, fun _ _ _ _ _ => trivial⟩, fun val h_ W hx he => ⟨trivial, ?_⟩, ?_⟩
   ·replace hx := (Upd.drew _ _).trans hx
    replace hl := hl.ext hx
    replace hR := hR.ext hx
    replace hB1 := hB1.ext hx
    have hE := Upd.refl (fun _ => False) W
    refine id (X_load (v := e.1) T42 rfl (kkey hl (Int.toNat_natCast _) hei) ?_)
    exact ⟨hE, rfl⟩
   refine ⟨.abs (fun _ x_ W_ => Rd W_ 1 x_ ((encF (es.map (fun (x : KE) => x.2)) i) ++ sizedB e.2.1).length (((encF (es.map (fun (x : KE) => x.2)) i) ++ sizedB e.2.1).map byteV)), ⟨fun _ _ _ => rfl, fun _ _ _ _ hu h => (by have h2 := Rd.ext h hu; exact h2)⟩, fun val h_ W hx he => ⟨trivial, ?_⟩, ?_⟩
   ·replace hx := (Upd.drew _ _).trans hx
    replace hl := hl.ext hx
    replace hR := hR.ext hx
    replace hB1 := hB1.ext hx
    have hE := Upd.refl (fun _ => False) W
    refine X_fn (vs := [u, e.1]) en32 rfl (CT.mono (c_putBytesR u e.1 (encF (es.map (fun (x : KE) => x.2)) i) e.2.1 _ (by omega) hR (krd hl hei)) ?_)
    rintro v9 w9 ⟨hO9, hu9⟩
    exact ⟨hu9, hO9.rd⟩
   refine ⟨.det (fun val => l), ⟨fun _ _ hv => rfl, fun _ _ _ _ _ => trivial⟩, fun val h_ W hx he => ⟨trivial, ?_⟩, ?_⟩
   ·replace hx := (Upd.drew _ _).trans hx
    replace hl := hl.ext hx
    replace hR := hR.ext hx
    replace hB1 := hB1.ext hx
    have hE := Upd.refl (fun _ => False) W
    refine id (X_move (v := l) rfl ?_)
    exact ⟨hE, rfl⟩
   refine ⟨.det (fun val => (.int .i64 (((i : Nat) : Int)))), ⟨fun _ _ hv => rfl, fun _ _ _ _ _ => trivial⟩, fun val h_ W hx he => ⟨trivial, ?_⟩, ?_⟩
   ·replace hx := (Upd.drew _ _).trans hx
    replace hl := hl.ext hx
    replace hR := hR.ext hx
    replace hB1 := hB1.ext hx
    have hE := Upd.refl (fun _ => False) W
    refine id (X_move (v := (.int .i64 (((i : Nat) : Int)))) rfl ?_)
    exact ⟨hE, rfl⟩
   refine ⟨.det (fun val => (pof l ((((i : Nat) : Int) : Int).toNat * 6))), ⟨fun _ _ hv => rfl, fun _ _ _ _ _ => trivial⟩, fun val h_ W hx he => ⟨trivial, ?_⟩, ?_⟩
   ·replace hx := (Upd.drew _ _).trans hx
    replace hl := hl.ext hx
    replace hR := hR.ext hx
    replace hB1 := hB1.ext hx
    have hE := Upd.refl (fun _ => False) W
    refine id (X_idx (v := l) (n := es.length) (k := .i64) (i := ((i : Nat) : Int)) S22 rfl hl.sv rfl (by omega) (by omega) ?_)
    exact ⟨hE, rfl⟩
   refine ⟨.det (fun val => (pof l ((((i : Nat) : Int) : Int).toNat * 6 + 1))), ⟨fun _ _ hv => rfl, fun _ _ _ _ _ => trivial⟩, fun val h_ W hx he => ⟨trivial, ?_⟩, ?_⟩
   ·replace hx := (Upd.drew _ _).trans hx
    replace hl := hl.ext hx
    replace hR := hR.ext hx
    replace hB1 := hB1.ext hx
    have hE := Upd.refl (fun _ => False) W
    refine id (X_fldS (v := l) (o := (((i : Nat) : Int) : Int).toNat * 6) Fd44_1 rfl hl.sv (by omega) ?_)
    exact ⟨hE, rfl⟩
   refine ⟨.det (fun val => (.agg (ptC e.2.2).toArray)), ⟨fun _ _ hv => rfl, fun _ _ _ _ _ => trivial⟩, fun val h_ W hx he => ⟨trivial, ?_⟩, ?_⟩
   ·replace hx := (Upd.drew _ _).trans hx
    replace hl := hl.ext hx
    replace hR := hR.ext hx
    replace hB1 := hB1.ext hx
    have hE := Upd.refl (fun _ => False) W
    refine id (X_loadA (xs := ptC e.2.2) A41 rfl (kptr hl (Int.toNat_natCast _) hei) rfl ?_)
    exact ⟨hE, rfl⟩
   intro val W7 hx7 he7
   replace hx7 := (Upd.drew _ _).trans hx7
   have hz7 := hx7.size
   replace hl := hl.ext hx7
   replace hU := hU.trans (Ext.upd hx7)
   replace hR := hR.ext hx7
   replace hB1 := hB1.ext hx7
   obtain ⟨hR6, he7⟩ := he7
   refine L_op rfl (X_fn (vs := [(val 6), (.agg (ptC e.2.2).toArray)]) en31 rfl (CT.mono (c_ptrPutR (val 6) ((encF (es.map (fun (x : KE) => x.2)) i) ++ sizedB e.2.1) e.2.2 _ (hpt e (List.mem_of_getElem? hei)) (by rw [List.length_append, sizedB_length, List.length_take]; omega) hR6) ?_))
   rintro v9 w9 ⟨hO9, hu9⟩
   have hz9 := hu9.size
   rw [← hst] at hO9
   replace hl := hl.ext hu9
   replace hU := hU.trans (Ext.upd hu9)
   replace hB1 := hB1.ext hu9
   refine L_op rfl (X_assign (v := v9) rfl ?_)
   refine L_nil ?_
   refine B_n ?_
   refine T_n ?_
   refine W_reg ?_
   refine L_op rfl (X_move (v := (.int .i64 (((i : Nat) : Int)))) rfl ?_)
   refine L_op rfl (X_arith (k := .i64) (a := ((i : Nat) : Int)) (b := 1) (r := ((i + 1 : Nat) : Int)) rfl rfl rfl (iadd64 (by omega) (by omega) (by omega)) ?_)
   refine L_op rfl (X_assign (v := (.int .i64 (((i + 1 : Nat) : Int)))) rfl ?_)
   refine L_nil ?_
   refine T_n ?_
   exact ⟨rfl, (i + 1, v9), ⟨⟨hi, hl, hO9.rd, hB1, hU⟩, (by show es.length - (i + 1) < es.length - i; omega)⟩, (Out.mk rfl), ⟨rfl, rfl, trivial⟩⟩
  ·refine L_op rfl (X_cmp (k := .i64) (a := ((i : Nat) : Int)) (b := ((es.length : Nat) : Int)) (r := false) rfl rfl rfl (decide_eq_false (p := ((((i : Nat) : Int)) : Int) < ((((es.length : Nat) : Int)) : Int)) (by omega)) ?_)
   have hie : i = es.length := by omega
   refine L_nil ?_
   refine T_n ?_
   refine W_cf rfl ?_
   refine W_exit ?_
   refine T_e ?_
   refine T_e ?_
   refine B_x ?_
   refine T_n ?_
   refine W_seq ?_
   refine W_reg ?_
   refine L_op rfl (X_move (v := u) rfl ?_)
   have hel := encF_len hl8 i
   refine L_op rfl (X_fn (vs := [u]) en33 rfl (CT.mono (c_fillR u (encF (es.map (fun (x : KE) => x.2)) i) _ hR) ?_))
   rintro _ w10 ⟨ee, rfl, _, hf, hu10⟩
   have hz10 := hu10.size
   rw [hf (by omega)]
   rw [show fillL (encF (es.map (fun (x : KE) => x.2)) i) = encK (es.map (fun (x : KE) => x.2)) by unfold encK; rw [List.length_map, ← hie]]
   replace hl := hl.ext hu10
   replace hU := hU.trans (Ext.upd hu10)
   replace hB1 := hB1.ext hu10
   refine L_op rfl (X_move (v := (.tuple #[(.agg (((encK (es.map (fun (x : KE) => x.2)))).map byteV).toArray), (.int .i64 (0))])) rfl ?_)
   refine L_op rfl (X_extract (l := [(.agg (((encK (es.map (fun (x : KE) => x.2)))).map byteV).toArray), (.int .i64 (0))]) (v := (.agg (((encK (es.map (fun (x : KE) => x.2)))).map byteV).toArray)) rfl rfl ?_)
   refine L_op rfl (X_extract (l := [(.agg (((encK (es.map (fun (x : KE) => x.2)))).map byteV).toArray), (.int .i64 (0))]) (v := (.int .i64 (0))) rfl rfl ?_)
   refine L_op rfl (X_alloc (z := zv26) (c := zc26.toArray) Zv26 rfl ?_)
   intro b11 w11 hn11
   have hbn11 := hn11.num; have hbs11 := hn11.size
   replace hl := hl.ext hn11.ext
   replace hU := hU.trans (Ext.upd hn11.ext)
   replace hB1 := hB1.ext hn11.ext
   have hB11 := hn11.blk
   rw [zc26_eq] at hB11
   refine L_op0 (X_storeW (b := b11) (ys := (((encK (es.map (fun (x : KE) => x.2)))).map byteV)) A26 rfl rfl (byteV_one _) (by rw [List.length_map]; exact (encK_len _)) hB11 (by rw [List.size_toArray]; exact (by rw [List.length_map]; exact List.length_replicate)) ?_)
   intro w12 hu12 hb12
   have hz12 := hu12.size
   replace hl := hl.upd hu12 fun i h1 h2 h => by have h : i = b11 := h; omega
   replace hU := hU.trans (hu12.mono fun i _ h => by have h : i = b11 := h; show n0 ≤ i; omega)
   replace hB1 := hB1.upd hu12 fun h => by have h : b1 = b11 := h; omega
   replace hB11 := hb12
   refine L_op rfl (X_assign (v := (.int .i64 (0))) rfl ?_)
   refine L_nil ?_
   refine T_n ?_
   refine W_seq ?_
   refine W_seq ?_
   refine W_reg ?_
   refine L_op rfl (X_move (v := (.int .i64 (0))) rfl ?_)
   refine L_op rfl (X_cmp (k := .i64) (a := 0) (b := 0) (r := false) rfl rfl rfl rfl ?_)
   refine L_nil ?_
   refine T_n ?_
   refine W_cf rfl ?_
   refine W_skip ?_
   refine T_n ?_
   refine W_seq ?_
   refine W_reg ?_
   refine L_op rfl (X_loadA (p := (ptr b11 (0))) (xs := (((encK (es.map (fun (x : KE) => x.2)))).map byteV)) A26 rfl hB11.atAll (by rw [List.length_map]; exact (encK_len _)) ?_)
   refine L_op0 (X_storeW (b := b1) (ys := (((encK (es.map (fun (x : KE) => x.2)))).map byteV)) A26 rfl rfl (byteV_one _) (by rw [List.length_map]; exact (encK_len _)) hB1 (by rw [List.size_toArray]; exact (by rw [List.length_map]; exact List.length_replicate)) ?_)
   intro w13 hu13 hb13
   have hz13 := hu13.size
   replace hl := hl.upd hu13 fun i h1 h2 h => by have h : i = b1 := h; omega
   replace hU := hU.trans (hu13.mono fun i _ h => by have h : i = b1 := h; show n0 ≤ i; omega)
   replace hB11 := hB11.upd hu13 fun h => by have h : b11 = b1 := h; omega
   replace hB1 := hb13
   refine L_op rfl (X_assign (v := (.int .i64 (0))) rfl ?_)
   refine L_nil ?_
   refine T_n ?_
   refine W_ret ?_
   exact BQ_r (End_2 Tryd.results17 (RV_A A26 rfl hB1.atAll (by rw [List.length_map]; exact encK_len _)) (v2 := .int .i64 0) rfl ⟨by rw [show encP (es.map (fun (x : KE) => x.2)) = _ from if_pos hR_, show encE (es.map (fun (x : KE) => x.2)) = 0 from if_pos hR_], hU.own hn0⟩)
 ·rw [hc3]
  refine L_op rfl (X_not (b := false) (r := true) rfl rfl ?_)
  refine L_nil ?_
  refine T_n ?_
  refine W_ct rfl ?_
  refine W_seq ?_
  refine W_reg ?_
  refine L_op rfl (X_build built26z ?_)
  refine L_op0 (X_storeW (b := b1) (ys := (((List.replicate 256 (0 : UInt8))).map byteV)) A26 rfl rfl (byteV_one _) (by rw [List.length_map]; exact List.length_replicate) hB1 (by rw [List.size_toArray]; exact (by rw [List.length_map]; exact List.length_replicate)) ?_)
  intro w14 hu14 hb14
  have hz14 := hu14.size
  replace hl := hl.upd hu14 fun i h1 h2 h => by have h : i = b1 := h; omega
  replace hU := hU.trans (hu14.mono fun i _ h => by have h : i = b1 := h; show n0 ≤ i; omega)
  replace hB1 := hb14
  refine L_op rfl (X_assign (v := (.int .i64 (2))) rfl ?_)
  refine L_nil ?_
  refine T_n ?_
  refine W_ret ?_
  refine T_r ?_
  exact BQ_r (End_2 Tryd.results17 (RV_A A26 rfl hB1.atAll (by rw [List.length_map]; exact List.length_replicate)) (v2 := .int .i64 2) rfl ⟨by rw [show encP (es.map (fun (x : KE) => x.2)) = _ from if_neg (of_decide_eq_false hc3), show encE (es.map (fun (x : KE) => x.2)) = 2 from if_neg (of_decide_eq_false hc3)], hU.own hn0⟩)

theorem dec_iff {p : List UInt8} (hp : p.length = 256) (h0 : (p.getD 0 0).toNat = 2) (h1 : (p.getD 1 0).toNat ≤ 6) (h2 : (psP p).length = (p.getD 1 0).toNat) : DecOk p ↔ encE (ksP p) = 0 ∧ encP (ksP p) = p := by
 constructor
 ·intro h
  exact ⟨if_pos h.2.2.2.1, (if_pos h.2.2.2.1).trans (dec_good hp h)⟩
 ·intro ⟨h3, h4⟩
  have hR : RightK (ksP p) := by
   unfold encE at h3
   split at h3
   ·assumption
   ·cases h3
  have h5 : encP (ksP p) = encK (ksP p) := if_pos hR
  have h6 := (dec_of hR (fun d hd => by obtain ⟨x, hx, rfl⟩ := List.mem_map.1 hd; exact parse_ok _ _ x hx)).1
  rwa [← h5, h4] at h6
theorem step_fst {ps : List (KD × List UInt8)} {i : Nat} {d : KD} {t : List UInt8} {ks : List KD} (h : ps[i]? = some (d, t)) (hk : ks = (ps.take i).map (fun x => x.1)) : ks ++ [d] = (ps.take (i + 1)).map (fun x => x.1) := by
 rw [hk, List.take_add_one, h, List.map_append]; rfl

theorem c_decodeKR (p : List UInt8) (w : World) (hp : p.length = 256) : CT Tryd.prog 18 #[(.agg ((p).map byteV).toArray)] w fun v w' => ∃ s, v = .tuple #[s, .int .i64 (decE p)] ∧ ∃ es, NOwn LK w' 44 5 w.heap.size w'.heap.size s es ∧ es.map (fun (x : KE) => x.2) = decL p ∧ Ext w w' := by
 obtain ⟨n0, hn0⟩ : ∃ n, n = w.heap.size := ⟨_, rfl⟩
 have hU : Upd (fun i => n0 ≤ i) w w := Upd.refl _ _
 refine CT_of Tryd.func18 rfl rfl rfl ?_
 refine W_seq ?_
 refine W_reg ?_
 refine L_op rfl (X_box (v := (.agg ((p).map byteV).toArray)) (c := ((p).map byteV).toArray) rfl rfl ?_)
 intro b1 w1 hn1
 have hbn1 := hn1.num; have hbs1 := hn1.size
 replace hU := hU.trans (Ext.upd hn1.ext)
 have hB1 := hn1.blk
 refine L_op rfl (X_assign (v := (.slice none 0 0)) rfl ?_)
 refine L_op rfl (X_assign (v := (.int .i64 (0))) rfl ?_)
 refine L_nil ?_
 refine T_n ?_
 refine W_seq ?_
 refine W_seq ?_
 refine W_reg ?_
 refine L_op rfl (X_idxAP (len := 256) (sz := 1) (b := b1) (o := 0) (k := .i64) (i := 0) (r := 0) Tryd.underlying26 Z5 rfl rfl (by omega) (by omega) rfl ?_)
 refine L_op rfl (X_load (p := (ptr b1 (0))) (v := byteV (p.getD 0 0)) T5 rfl (hB1.at1 (page_at hp (by decide))) ?_)
 by_cases hc2 : ((((p.getD 0 0).toNat : Nat) : Int) : Int) ≠ (2)
 ·refine L_op rfl (X_cmp (k := .u8) (a := (((p.getD 0 0).toNat : Nat) : Int)) (b := 2) (r := true) rfl rfl rfl (decide_eq_true (p := (((((p.getD 0 0).toNat : Nat) : Int)) : Int) ≠ ((2) : Int)) (by omega)) ?_)
  refine L_op rfl (X_move (v := (.bool (true))) rfl ?_)
  refine L_gn (dj := 18) (t := true) rfl rfl rfl rfl ?_
  refine L_gn (dj := 18) (t := true) rfl rfl rfl rfl ?_
  refine L_gn (dj := 18) (t := true) rfl rfl rfl rfl ?_
  refine L_gn (dj := 18) (t := true) rfl rfl rfl rfl ?_
  refine L_op rfl (X_pick (t := true) (v := (.bool (true))) rfl rfl ?_)
  refine L_nil ?_
  refine T_n ?_
  refine W_ct rfl ?_
  refine W_seq ?_
  refine W_reg ?_
  refine L_op rfl (X_assign (v := (.slice none 0 0)) rfl ?_)
  refine L_op rfl (X_assign (v := (.int .i64 (50))) rfl ?_)
  refine L_nil ?_
  refine T_n ?_
  refine W_ret ?_
  refine T_r ?_
  have hno : ¬ DecOk p := fun h => by obtain ⟨h1, h2, _⟩ := h; omega
  exact BQ_r (End_2 Tryd.results18 (v1 := .slice none 0 0) (v2 := .int .i64 50) rfl rfl ⟨_, by rw [show decE p = 50 from if_neg hno], [], NOwn.nil _ _ _ _ _, by rw [show decL p = [] from if_neg hno]; rfl, hU.own hn0⟩)
 ·refine L_op rfl (X_cmp (k := .u8) (a := (((p.getD 0 0).toNat : Nat) : Int)) (b := 2) (r := false) rfl rfl rfl (decide_eq_false (p := (((((p.getD 0 0).toNat : Nat) : Int)) : Int) ≠ ((2) : Int)) (by omega)) ?_)
  refine L_op rfl (X_move (v := (.bool (false))) rfl ?_)
  refine L_gy (dj := 18) rfl rfl rfl (X_idxAP (len := 256) (sz := 1) (b := b1) (o := 0) (k := .i64) (i := 1) (r := 1) Tryd.underlying26 Z5 rfl rfl (by omega) (by omega) rfl ?_)
  refine L_gy (dj := 18) rfl rfl rfl (X_load (p := (ptr b1 (1))) (v := byteV (p.getD 1 0)) T5 rfl (hB1.at1 (page_at hp (by decide))) ?_)
  refine L_gy (dj := 18) rfl rfl rfl (X_convInt (k := .u8) (a := (((p.getD 1 0).toNat : Nat) : Int)) (r := (((p.getD 1 0).toNat : Nat) : Int)) (by rw [Tryd.underlying5]; rfl) Tryd.underlying3 rfl (i64_wrap (by omega) (by have := (p.getD 1 0).toNat_lt; omega)) ?_)
  by_cases hc3 : ((((p.getD 1 0).toNat : Nat) : Int) : Int) > (6)
  ·refine L_gy (dj := 18) rfl rfl rfl (X_cmp (k := .i64) (a := (((p.getD 1 0).toNat : Nat) : Int)) (b := 6) (r := true) rfl rfl rfl (decide_eq_true (p := ((6) : Int) < (((((p.getD 1 0).toNat : Nat) : Int)) : Int)) (by omega)) ?_)
   refine L_op rfl (X_pick (t := false) (v := (.bool (true))) rfl rfl ?_)
   refine L_nil ?_
   refine T_n ?_
   refine W_ct rfl ?_
   refine W_seq ?_
   refine W_reg ?_
   refine L_op rfl (X_assign (v := (.slice none 0 0)) rfl ?_)
   refine L_op rfl (X_assign (v := (.int .i64 (50))) rfl ?_)
   refine L_nil ?_
   refine T_n ?_
   refine W_ret ?_
   refine T_r ?_
   have hno : ¬ DecOk p := fun h => by obtain ⟨h1, h2, _⟩ := h; omega
   exact BQ_r (End_2 Tryd.results18 (v1 := .slice none 0 0) (v2 := .int .i64 50) rfl rfl ⟨_, by rw [show decE p = 50 from if_neg hno], [], NOwn.nil _ _ _ _ _, by rw [show decL p = [] from if_neg hno]; rfl, hU.own hn0⟩)
  ·refine L_gy (dj := 18) rfl rfl rfl (X_cmp (k := .i64) (a := (((p.getD 1 0).toNat : Nat) : Int)) (b := 6) (r := false) rfl rfl rfl (decide_eq_false (p := ((6) : Int) < (((((p.getD 1 0).toNat : Nat) : Int)) : Int)) (by omega)) ?_)
   refine L_op rfl (X_pick (t := false) (v := (.bool (false))) rfl rfl ?_)
   refine L_nil ?_
   refine T_n ?_
   refine W_cf rfl ?_
   refine W_skip ?_
   refine T_n ?_
   refine W_seq ?_
   refine W_reg ?_
   refine L_op rfl (X_assign (v := (.slice none 0 0)) rfl ?_)
   refine L_nil ?_
   refine T_n ?_
   refine W_seq ?_
   refine W_reg ?_
   refine L_op rfl (X_sliceAL (len := 256) (sz := 1) (b := b1) (l := 2) (h' := 256) (kl := .i64) (kh := .i64) Tryd.underlying26 Z5 rfl rfl rfl (by omega) (by omega) ?_)
   have hR := (hB1.rdL (n := 256) (hp) (by decide) (lo := 2) (hi := 256) (by omega) (by omega) (m := (p.drop 2)) (page_rest hp))
   have hR_b : ∀ b, rbk (cutv (.slice (some ⟨b1, 0, none⟩) 256 256) 1 (2) (256)) = some b → b = b1 := fun b hb => (Option.some.inj (show some b1 = some b from hb)).symm
   refine L_op rfl (X_assign (v := (cutv (.slice (some ⟨b1, 0, none⟩) 256 256) 1 (2) (256))) rfl ?_)
   refine L_nil ?_
   refine T_n ?_
   refine W_seq ?_
   refine W_seq ?_
   refine W_reg ?_
   refine L_op rfl (X_assign (v := (.int .i64 (0))) rfl ?_)
   refine L_nil ?_
   refine T_n ?_
   refine W_block ?_
   refine W_loop (α := Nat × Value × List KE × Value × List UInt8) [2, 3, 4, 5, 6, 7, 8, 9, 10, 11, 12, 25, 26, 27, 28, 29, 30, 31, 32, 33, 34, 35, 36, 37, 38, 39, 40, 41, 42, 43, 44, 45, 46, 47, 48, 49, 50, 51, 52, 53, 54, 55, 56] (fun ⟨i, u, fs, r, bi⟩ => [(6, (.int .i64 (((i : Nat) : Int)))), (4, u), (5, r)]) (fun ⟨i, u, fs, r, bi⟩ w_ => i ≤ (psP p).length ∧ parseK bi ((p.getD 1 0).toNat - i) = (psP p).drop i ∧ NOwn LK w_ 44 5 (n0 + 1) w_.heap.size u fs ∧ fs.map (fun (x : KE) => x.2) = ((psP p).take i).map (fun x => x.1) ∧ Rd w_ 1 r bi.length (bi.map byteV) ∧ (∀ b, rbk r = some b → b = b1) ∧ Blk w_ b1 (p.map byteV).toArray 26 ∧ Upd (fun i => n0 ≤ i) w w_) (fun ⟨i, u, fs, r, bi⟩ => (p.getD 1 0).toNat - i) ⟨rfl, (0, .slice none 0 0, [], (cutv (.slice (some ⟨b1, 0, none⟩) 256 256) 1 (2) (256)), p.drop 2), ⟨Nat.zero_le _, rfl, NOwn.nil _ _ _ _ _, rfl, hR, hR_b, hB1, hU⟩, Out.refl _ _, ⟨rfl, rfl, rfl, trivial⟩⟩ ?_
   rintro ⟨i, u, fs, r, bi⟩ w5 _ ⟨hil, hps, hN, hfs, hR, hR_b, hB1, hU⟩
   have hsz_ := hU.size
   have hb1l := hB1.lt
   obtain ⟨s0, hs0⟩ : ∃ n, n = w5.heap.size := ⟨_, rfl⟩
   rw [← hs0] at hN
   have hfl : fs.length = i := by have h := congrArg List.length hfs; rw [List.length_map, List.length_map, List.length_take] at h; omega
   have hpn := parse_len (p.getD 1 0).toNat (p.drop 2)
   replace hpn : (psP p).length ≤ (p.getD 1 0).toNat := hpn
   have hp8 := (p.getD 1 0).toNat_lt
   refine W_seq ?_
   refine W_seq ?_
   refine W_reg ?_
   refine L_op rfl (X_move (v := (.int .i64 (((i : Nat) : Int)))) rfl ?_)
   refine L_op rfl (X_idxAP (len := 256) (sz := 1) (b := b1) (o := 0) (k := .i64) (i := 1) (r := 1) Tryd.underlying26 Z5 rfl rfl (by omega) (by omega) rfl ?_)
   refine L_op rfl (X_load (p := (ptr b1 (1))) (v := byteV (p.getD 1 0)) T5 rfl (hB1.at1 (page_at hp (by decide))) ?_)
   refine L_op rfl (X_convInt (k := .u8) (a := (((p.getD 1 0).toNat : Nat) : Int)) (r := (((p.getD 1 0).toNat : Nat) : Int)) (by rw [Tryd.underlying5]; rfl) Tryd.underlying3 rfl (i64_wrap (by omega) (by have := (p.getD 1 0).toNat_lt; omega)) ?_)
   by_cases hc6 : (((i : Nat) : Int) : Int) < ((((p.getD 1 0).toNat : Nat) : Int))
   ·refine L_op rfl (X_cmp (k := .i64) (a := ((i : Nat) : Int)) (b := (((p.getD 1 0).toNat : Nat) : Int)) (r := true) rfl rfl rfl (decide_eq_true (p := ((((i : Nat) : Int)) : Int) < (((((p.getD 1 0).toNat : Nat) : Int)) : Int)) (by omega)) ?_)
    have hiN : i < (p.getD 1 0).toNat := by omega
    rw [show (p.getD 1 0).toNat - i = ((p.getD 1 0).toNat - (i + 1)) + 1 by omega] at hps
    refine L_nil ?_
    refine T_n ?_
    refine W_ct rfl ?_
    refine W_skip ?_
    refine T_n ?_
    refine W_seq ?_
    refine W_block ?_
    refine W_seq ?_
    refine W_reg ?_
    refine L_op rfl (X_move (v := r) rfl ?_)
    refine L_op rfl (X_fn (vs := [r, (.int .i64 (8))]) en34 rfl (CT.mono (c_takeBytesR r bi 8 _ hR) ?_))
    rintro _ w7 ⟨s, r1, rfl, hOs, hRr, hrb1, hu7⟩
    have hz7 := hu7.size
    rw [← hs0] at hOs
    replace hN := hN.ext hu7
    replace hB1 := hB1.ext hu7
    replace hU := hU.trans (Ext.upd hu7)
    have hOs_c : ∀ b, obk s = some b → s0 ≤ b ∧ b < w7.heap.size := fun b hb => hOs.lt hb
    have hRr_b : ∀ b, rbk r1 = some b → b = b1 := fun b hb => hR_b b (hrb1 b hb)
    refine L_op rfl (X_move (v := (.tuple #[s, r1, (.int .i64 ((takeE bi 8)))])) rfl ?_)
    refine L_op rfl (X_extract (l := [s, r1, (.int .i64 ((takeE bi 8)))]) (v := s) rfl rfl ?_)
    refine L_op rfl (X_extract (l := [s, r1, (.int .i64 ((takeE bi 8)))]) (v := r1) rfl rfl ?_)
    refine L_op rfl (X_extract (l := [s, r1, (.int .i64 ((takeE bi 8)))]) (v := (.int .i64 ((takeE bi 8)))) rfl rfl ?_)
    refine L_op rfl (X_assign (v := s) rfl ?_)
    refine L_op rfl (X_assign (v := r1) rfl ?_)
    refine L_op rfl (X_assign (v := (.int .i64 ((takeE bi 8)))) rfl ?_)
    refine L_nil ?_
    refine T_n ?_
    refine W_seq ?_
    refine W_reg ?_
    refine L_op rfl (X_move (v := r1) rfl ?_)
    refine L_op rfl (X_fn (vs := [r1]) en35 rfl (CT.mono (c_ptrTakeR r1 (takeR bi 8) _ hRr) ?_))
    rintro _ w8 ⟨r2, rfl, hR2, hrb2, hu8⟩
    have hz8 := hu8.size
    replace hN := hN.ext hu8
    replace hB1 := hB1.ext hu8
    replace hU := hU.trans (Ext.upd hu8)
    replace hOs := hOs.ext hu8
    have hR2_b : ∀ b, rbk r2 = some b → b = b1 := fun b hb => hRr_b b (hrb2 b hb)
    refine L_op rfl (X_move (v := (.tuple #[(.agg (ptC (takeQ (takeR bi 8))).toArray), r2, (.int .i64 ((takeQE (takeR bi 8))))])) rfl ?_)
    refine L_op rfl (X_extract (l := [(.agg (ptC (takeQ (takeR bi 8))).toArray), r2, (.int .i64 ((takeQE (takeR bi 8))))]) (v := (.agg (ptC (takeQ (takeR bi 8))).toArray)) rfl rfl ?_)
    refine L_op rfl (X_extract (l := [(.agg (ptC (takeQ (takeR bi 8))).toArray), r2, (.int .i64 ((takeQE (takeR bi 8))))]) (v := r2) rfl rfl ?_)
    refine L_op rfl (X_extract (l := [(.agg (ptC (takeQ (takeR bi 8))).toArray), r2, (.int .i64 ((takeQE (takeR bi 8))))]) (v := (.int .i64 ((takeQE (takeR bi 8))))) rfl rfl ?_)
    refine L_op rfl (X_alloc (z := (.agg #[(.int .u8 (0)), (.int .u16 (0)), (.int .u16 (0)), (.int .u32 (0)), (.int .u64 (0))])) (c := #[(.int .u8 (0)), (.int .u16 (0)), (.int .u16 (0)), (.int .u32 (0)), (.int .u64 (0))]) Zv41 rfl ?_)
    intro b9 w9 hn9
    have hbn9 := hn9.num; have hbs9 := hn9.size
    replace hN := hN.ext hn9.ext
    replace hB1 := hB1.ext hn9.ext
    replace hU := hU.trans (Ext.upd hn9.ext)
    replace hOs := hOs.ext hn9.ext
    replace hR2 := hR2.ext hn9.ext
    have hB9 := hn9.blk
    refine L_op0 (X_storeW (b := b9) (ys := [(.int .u8 ((takeQ (takeR bi 8)).1)), (.int .u16 ((takeQ (takeR bi 8)).2.1)), (.int .u16 ((takeQ (takeR bi 8)).2.2.1)), (.int .u32 ((takeQ (takeR bi 8)).2.2.2.1)), (.int .u64 ((takeQ (takeR bi 8)).2.2.2.2))]) A41 rfl rfl (List.forall_mem_cons.2 ⟨rfl, (List.forall_mem_cons.2 ⟨rfl, (List.forall_mem_cons.2 ⟨rfl, (List.forall_mem_cons.2 ⟨rfl, (List.forall_mem_cons.2 ⟨rfl, (fun _ h => by cases h)⟩)⟩)⟩)⟩)⟩) rfl hB9 rfl ?_)
    intro w10 hu10 hb10
    have hz10 := hu10.size
    replace hN := hN.upd hu10 fun i h1 h2 h => by have h : i = b9 := h; omega
    replace hB1 := hB1.upd hu10 fun h => by have h : b1 = b9 := h; omega
    replace hU := hU.trans (hu10.mono fun i _ h => by have h : i = b9 := h; show n0 ≤ i; omega)
    replace hOs := hOs.upd hu10 fun i hi h => by have hi := hOs_c _ hi; have h : i = b9 := h; omega
    replace hR2 := hR2.upd hu10 fun i hi h => by have hi := hR2_b _ hi; have h : i = b9 := h; omega
    replace hB9 : Blk w10 b9 #[(.int .u8 ((takeQ (takeR bi 8)).1)), (.int .u16 ((takeQ (takeR bi 8)).2.1)), (.int .u16 ((takeQ (takeR bi 8)).2.2.1)), (.int .u32 ((takeQ (takeR bi 8)).2.2.2.1)), (.int .u64 ((takeQ (takeR bi 8)).2.2.2.2))] 41 := hb10
    refine L_op rfl (X_assign (v := r2) rfl ?_)
    refine L_op rfl (X_assign (v := (.int .i64 ((takeQE (takeR bi 8))))) rfl ?_)
    refine L_nil ?_
    refine T_n ?_
    refine W_seq ?_
    refine W_seq ?_
    refine W_reg ?_
    refine L_op rfl (X_move (v := (.int .i64 ((takeE bi 8)))) rfl ?_)
    by_cases hc11 : ((takeE bi 8) : Int) ≠ (0)
    ·refine L_op rfl (X_cmp (k := .i64) (a := (takeE bi 8)) (b := 0) (r := true) rfl rfl rfl (decide_eq_true (p := (((takeE bi 8)) : Int) ≠ ((0) : Int)) (by omega)) ?_)
     refine L_op rfl (X_move (v := (.bool (true))) rfl ?_)
     refine L_gn (dj := 46) (t := true) rfl rfl rfl rfl ?_
     refine L_gn (dj := 46) (t := true) rfl rfl rfl rfl ?_
     refine L_op rfl (X_pick (t := true) (v := (.bool (true))) rfl rfl ?_)
     refine L_nil ?_
     refine T_n ?_
     refine W_ct rfl ?_
     refine W_seq ?_
     refine W_reg ?_
     refine L_op rfl (X_assign (v := (.slice none 0 0)) rfl ?_)
     refine L_op rfl (X_assign (v := (.int .i64 (50))) rfl ?_)
     refine L_nil ?_
     refine T_n ?_
     refine W_ret ?_
     refine T_r ?_
     refine B_r ?_
     refine T_r ?_
     refine T_r ?_
     refine B_r ?_
     refine T_r ?_
     rw [parse_no (fun h => by omega)] at hps
     have hno : ¬ DecOk p := fun h => by have h9 := drop_none hps hil; have h10 := h.2.2.1; omega
     exact BQ_r (End_2 Tryd.results18 (v1 := .slice none 0 0) (v2 := .int .i64 50) rfl rfl ⟨_, by rw [show decE p = 50 from if_neg hno], [], NOwn.nil _ _ _ _ _, by rw [show decL p = [] from if_neg hno]; rfl, hU.own hn0⟩)
    ·refine L_op rfl (X_cmp (k := .i64) (a := (takeE bi 8)) (b := 0) (r := false) rfl rfl rfl (decide_eq_false (p := (((takeE bi 8)) : Int) ≠ ((0) : Int)) (by omega)) ?_)
     refine L_op rfl (X_move (v := (.bool (false))) rfl ?_)
     refine L_gy (dj := 46) rfl rfl rfl (X_move (v := (.int .i64 ((takeQE (takeR bi 8))))) rfl ?_)
     by_cases hc12 : ((takeQE (takeR bi 8)) : Int) ≠ (0)
     ·refine L_gy (dj := 46) rfl rfl rfl (X_cmp (k := .i64) (a := (takeQE (takeR bi 8))) (b := 0) (r := true) rfl rfl rfl (decide_eq_true (p := (((takeQE (takeR bi 8))) : Int) ≠ ((0) : Int)) (by omega)) ?_)
      refine L_op rfl (X_pick (t := false) (v := (.bool (true))) rfl rfl ?_)
      refine L_nil ?_
      refine T_n ?_
      refine W_ct rfl ?_
      refine W_seq ?_
      refine W_reg ?_
      refine L_op rfl (X_assign (v := (.slice none 0 0)) rfl ?_)
      refine L_op rfl (X_assign (v := (.int .i64 (50))) rfl ?_)
      refine L_nil ?_
      refine T_n ?_
      refine W_ret ?_
      refine T_r ?_
      refine B_r ?_
      refine T_r ?_
      refine T_r ?_
      refine B_r ?_
      refine T_r ?_
      rw [parse_no (fun h => by omega)] at hps
      have hno : ¬ DecOk p := fun h => by have h9 := drop_none hps hil; have h10 := h.2.2.1; omega
      exact BQ_r (End_2 Tryd.results18 (v1 := .slice none 0 0) (v2 := .int .i64 50) rfl rfl ⟨_, by rw [show decE p = 50 from if_neg hno], [], NOwn.nil _ _ _ _ _, by rw [show decL p = [] from if_neg hno]; rfl, hU.own hn0⟩)
     ·refine L_gy (dj := 46) rfl rfl rfl (X_cmp (k := .i64) (a := (takeQE (takeR bi 8))) (b := 0) (r := false) rfl rfl rfl (decide_eq_false (p := (((takeQE (takeR bi 8))) : Int) ≠ ((0) : Int)) (by omega)) ?_)
      refine L_op rfl (X_pick (t := false) (v := (.bool (false))) rfl rfl ?_)
      refine L_nil ?_
      refine T_n ?_
      refine W_cf rfl ?_
      refine W_skip ?_
      refine T_n ?_
      refine W_seq ?_
      refine W_reg ?_
      refine L_op rfl (X_move (v := u) rfl ?_)
      refine L_op rfl (X_move (v := s) rfl ?_)
      refine L_op rfl (X_loadA (p := (ptr b9 (0))) (xs := ptC (takeQ (takeR bi 8))) A41 rfl hB9.atAll rfl ?_)
      refine L_op rfl (X_build (built44' hOs.sv (takeQ (takeR bi 8))) ?_)
      refine L_op rfl (X_buildSliceL (vs := [.agg (s :: ptC (takeQ (takeR bi 8))).toArray]) (c := s :: ptC (takeQ (takeR bi 8))) S22 (by decide) rfl rfl (List.forall_mem_cons.2 ⟨rfl, fun _ h => by cases h⟩) rfl ?_)
      intro bq wq hnq
      have hbnq := hnq.num; have hbsq := hnq.size
      replace hN := hN.ext hnq.ext
      replace hB1 := hB1.ext hnq.ext
      replace hU := hU.trans (Ext.upd hnq.ext)
      replace hOs := hOs.ext hnq.ext
      replace hR2 := hR2.ext hnq.ext
      replace hB9 := hB9.ext hnq.ext
      have hBq := hnq.blk
      rw [parse_yes ⟨by omega, by omega⟩] at hps
      obtain ⟨hil2, hat, hps2⟩ := drop_head hps
      refine L_op rfl (X_append (B := n0 + 1) (n := fs.length) (s := u) (x := (.slice (some ⟨bq, 0, none⟩) 1 1)) S22 ⟨_, Tryd.underlying22⟩ rfl rfl hN.1 (m := 1) (ys := s :: ptC (takeQ (takeR bi 8))) (hBq.rd (o := 0) (n := 1) (c := 1) (sz := 6) (by decide) (by decide) rfl (fun j u hj => by rw [Nat.zero_add]; simpa using hj)) (hOs.sv.kone _) (by unfold maxLen; omega) (by omega) (by omega) ?_)
      intro v5 w5 hO5 hu5 ho5
      have hz5 := hu5.size
      have hN5 := NOwn.push (L := LK) (e := ((s, takeS bi 8, takeQ (takeR bi 8)) : KE)) (hi' := wq.heap.size) (by decide) hN hO5 hu5 (fun s_ hs => by have h1 : s_ = (s, takeS bi 8) := by { simpa [LK] using hs }; subst h1; exact ⟨hOs.more (by omega), fun b hb => (hOs.lt hb).2⟩) (by omega) (by omega)
      replace hB1 := hB1.upd hu5 fun h => by have := (hN.1.lt h).1; omega
      replace hR2 := hR2.upd hu5 fun i hi h => by have h1 := hR2_b i hi; have := (hN.1.lt h).1; omega
      replace hU := hU.trans (hu5.mono fun i _ h => by have := (hN.1.lt h).1; show n0 ≤ i; omega)
      refine L_op rfl (X_assign (v := v5) rfl ?_)
      refine L_nil ?_
      refine T_n ?_
      refine W_reg ?_
      refine L_op rfl (X_move (v := r2) rfl ?_)
      refine L_op rfl (X_assign (v := r2) rfl ?_)
      refine L_nil ?_
      refine B_n ?_
      refine T_n ?_
      refine W_reg ?_
      refine L_op rfl (X_move (v := (.int .i64 (((i : Nat) : Int)))) rfl ?_)
      refine L_op rfl (X_arith (k := .i64) (a := ((i : Nat) : Int)) (b := 1) (r := ((i + 1 : Nat) : Int)) rfl rfl rfl (iadd64 (by omega) (by omega) (by omega)) ?_)
      refine L_op rfl (X_assign (v := (.int .i64 (((i + 1 : Nat) : Int)))) rfl ?_)
      refine L_nil ?_
      refine T_n ?_
      exact ⟨rfl, (i + 1, v5, fs ++ [((s, takeS bi 8, takeQ (takeR bi 8)) : KE)], r2, takeQR (takeR bi 8)), ⟨⟨hil2, hps2, hN5, by rw [List.map_append]; exact step_fst hat hfs, hR2, hR2_b, hB1, hU⟩, (by show (p.getD 1 0).toNat - (i + 1) < (p.getD 1 0).toNat - i; omega)⟩, (Out.mk rfl), ⟨rfl, rfl, rfl, trivial⟩⟩
   ·refine L_op rfl (X_cmp (k := .i64) (a := ((i : Nat) : Int)) (b := (((p.getD 1 0).toNat : Nat) : Int)) (r := false) rfl rfl rfl (decide_eq_false (p := ((((i : Nat) : Int)) : Int) < (((((p.getD 1 0).toNat : Nat) : Int)) : Int)) (by omega)) ?_)
    have hiN : i = (p.getD 1 0).toNat := by have := hil; omega
    have hpl : (psP p).length = (p.getD 1 0).toNat := by omega
    have hfs2 : fs.map (fun (x : KE) => x.2) = ksP p := by rw [hfs, hiN, ← hpl, List.take_length]; rfl
    have hpt := pts_of hfs2 (parse_ok _ _)
    have hif := dec_iff hp (by omega) (by omega) hpl
    refine L_nil ?_
    refine T_n ?_
    refine W_cf rfl ?_
    refine W_exit ?_
    refine T_e ?_
    refine T_e ?_
    refine B_x ?_
    refine T_n ?_
    refine W_seq ?_
    refine W_reg ?_
    refine L_op rfl (X_move (v := u) rfl ?_)
    refine L_op rfl (X_fn (vs := [u]) en17 rfl (CT.mono (c_encodeKR u fs _ (n0 + 1) s0 (by omega) hN.rd hpt) ?_))
    rintro _ w13 ⟨rfl, hu13⟩
    have hz13 := hu13.size
    replace hN := hN.ext hu13
    replace hR := hR.ext hu13
    replace hB1 := hB1.ext hu13
    replace hU := hU.trans (Ext.upd hu13)
    rw [hfs2]
    refine L_op rfl (X_move (v := (.tuple #[(.agg (((encP (ksP p))).map byteV).toArray), (.int .i64 ((encE (ksP p))))])) rfl ?_)
    refine L_op rfl (X_extract (l := [(.agg (((encP (ksP p))).map byteV).toArray), (.int .i64 ((encE (ksP p))))]) (v := (.agg (((encP (ksP p))).map byteV).toArray)) rfl rfl ?_)
    refine L_op rfl (X_extract (l := [(.agg (((encP (ksP p))).map byteV).toArray), (.int .i64 ((encE (ksP p))))]) (v := (.int .i64 ((encE (ksP p))))) rfl rfl ?_)
    refine L_op rfl (X_alloc (z := zv26) (c := zc26.toArray) Zv26 rfl ?_)
    intro b14 w14 hn14
    have hbn14 := hn14.num; have hbs14 := hn14.size
    replace hN := hN.ext hn14.ext
    replace hR := hR.ext hn14.ext
    replace hB1 := hB1.ext hn14.ext
    replace hU := hU.trans (Ext.upd hn14.ext)
    have hB14 := hn14.blk
    rw [zc26_eq] at hB14
    refine L_op0 (X_storeW (b := b14) (ys := (((encP (ksP p))).map byteV)) A26 rfl rfl (byteV_one _) (by rw [List.length_map]; exact (encP_len _)) hB14 (by rw [List.size_toArray]; exact (by rw [List.length_map]; exact List.length_replicate)) ?_)
    intro w15 hu15 hb15
    have hz15 := hu15.size
    replace hN := hN.upd hu15 fun i h1 h2 h => by have h : i = b14 := h; omega
    replace hR := hR.upd hu15 fun i hi h => by have hi := hR_b _ hi; have h : i = b14 := h; omega
    replace hB1 := hB1.upd hu15 fun h => by have h : b1 = b14 := h; omega
    replace hU := hU.trans (hu15.mono fun i _ h => by have h : i = b14 := h; show n0 ≤ i; omega)
    replace hB14 := hb15
    refine L_op rfl (X_assign (v := (.int .i64 ((encE (ksP p))))) rfl ?_)
    refine L_nil ?_
    refine T_n ?_
    refine W_seq ?_
    refine W_seq ?_
    refine W_reg ?_
    refine L_op rfl (X_move (v := (.int .i64 ((encE (ksP p))))) rfl ?_)
    by_cases hc16 : ((encE (ksP p)) : Int) ≠ (0)
    ·refine L_op rfl (X_cmp (k := .i64) (a := (encE (ksP p))) (b := 0) (r := true) rfl rfl rfl (decide_eq_true (p := (((encE (ksP p))) : Int) ≠ ((0) : Int)) (by omega)) ?_)
     refine L_op rfl (X_move (v := (.bool (true))) rfl ?_)
     refine L_gn (dj := 64) (t := true) rfl rfl rfl rfl ?_
     refine L_gn (dj := 64) (t := true) rfl rfl rfl rfl ?_
     refine L_gn (dj := 64) (t := true) rfl rfl rfl rfl ?_
     refine L_op rfl (X_pick (t := true) (v := (.bool (true))) rfl rfl ?_)
     refine L_nil ?_
     refine T_n ?_
     refine W_ct rfl ?_
     refine W_seq ?_
     refine W_reg ?_
     refine L_op rfl (X_assign (v := (.slice none 0 0)) rfl ?_)
     refine L_op rfl (X_assign (v := (.int .i64 (50))) rfl ?_)
     refine L_nil ?_
     refine T_n ?_
     refine W_ret ?_
     refine T_r ?_
     have hno : ¬ DecOk p := fun h => by have h9 := (hif.1 h).1; omega
     exact BQ_r (End_2 Tryd.results18 (v1 := .slice none 0 0) (v2 := .int .i64 50) rfl rfl ⟨_, by rw [show decE p = 50 from if_neg hno], [], NOwn.nil _ _ _ _ _, by rw [show decL p = [] from if_neg hno]; rfl, hU.own hn0⟩)
    ·refine L_op rfl (X_cmp (k := .i64) (a := (encE (ksP p))) (b := 0) (r := false) rfl rfl rfl (decide_eq_false (p := (((encE (ksP p))) : Int) ≠ ((0) : Int)) (by omega)) ?_)
     refine L_op rfl (X_move (v := (.bool (false))) rfl ?_)
     refine L_gy (dj := 64) rfl rfl rfl (X_loadA (p := (ptr b14 (0))) (xs := (((encP (ksP p))).map byteV)) A26 rfl hB14.atAll (by rw [List.length_map]; exact (encP_len _)) ?_)
     refine L_gy (dj := 64) rfl rfl rfl (X_loadA (p := (ptr b1 (0))) (xs := ((p).map byteV)) A26 rfl hB1.atAll (by rw [List.length_map]; exact hp) ?_)
     rcases Bool.eq_false_or_eq_true ((encP (ksP p)) == p) with hc17 | hc17
     ·refine L_gy (dj := 64) rfl rfl rfl (X_eqA (n := 256) (l := (encP (ksP p))) (m := p) (r := false) Tryd.underlying26 Tryd.underlying5 (by kernel_rfl) (by kernel_rfl) (by kernel_rfl) rfl rfl ((encP_len _)) (hp) (.inr ⟨rfl, by rw [hc17]; rfl⟩) ?_)
      refine L_op rfl (X_pick (t := false) (v := (.bool (false))) rfl rfl ?_)
      refine L_nil ?_
      refine T_n ?_
      refine W_cf rfl ?_
      refine W_skip ?_
      refine T_n ?_
      refine W_seq ?_
      refine W_reg ?_
      refine L_op rfl (X_move (v := u) rfl ?_)
      refine L_op rfl (X_assign (v := u) rfl ?_)
      refine L_op rfl (X_assign (v := (.int .i64 (0))) rfl ?_)
      refine L_nil ?_
      refine T_n ?_
      refine W_ret ?_
      have hok : DecOk p := hif.2 ⟨by omega, eq_of_beq hc17⟩
      exact BQ_r (End_2 Tryd.results18 (v1 := u) (v2 := .int .i64 0) rfl rfl ⟨u, by rw [show decE p = 0 from if_pos hok], fs, hN.mono (by omega) (by omega), by rw [show decL p = ksP p from if_pos hok]; exact hfs2, hU.own hn0⟩)
     ·refine L_gy (dj := 64) rfl rfl rfl (X_eqA (n := 256) (l := (encP (ksP p))) (m := p) (r := true) Tryd.underlying26 Tryd.underlying5 (by kernel_rfl) (by kernel_rfl) (by kernel_rfl) rfl rfl ((encP_len _)) (hp) (.inr ⟨rfl, by rw [hc17]; rfl⟩) ?_)
      refine L_op rfl (X_pick (t := false) (v := (.bool (true))) rfl rfl ?_)
      refine L_nil ?_
      refine T_n ?_
      refine W_ct rfl ?_
      refine W_seq ?_
      refine W_reg ?_
      refine L_op rfl (X_assign (v := (.slice none 0 0)) rfl ?_)
      refine L_op rfl (X_assign (v := (.int .i64 (50))) rfl ?_)
      refine L_nil ?_
      refine T_n ?_
      refine W_ret ?_
      refine T_r ?_
      have hno : ¬ DecOk p := fun h => by exact ne_of_beq_false hc17 (hif.1 h).2
      exact BQ_r (End_2 Tryd.results18 (v1 := .slice none 0 0) (v2 := .int .i64 50) rfl rfl ⟨_, by rw [show decE p = 50 from if_neg hno], [], NOwn.nil _ _ _ _ _, by rw [show decL p = [] from if_neg hno]; rfl, hU.own hn0⟩)
end Go.Proofs.YtbgpegccnalkeaaDoor
