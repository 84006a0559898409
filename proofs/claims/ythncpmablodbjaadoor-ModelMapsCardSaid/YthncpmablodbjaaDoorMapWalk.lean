/-
 ModelMaps: the walk. (Printed by wip/gen/t31s.py of this repo.)
-/
import Derived.Test.YthncpmablodbjaaDoorMapInv
import Derived.Test.YthncpmablodbjaaDoorWakes
namespace Go.Proofs.YthncpmablodbjaaDoor
open Go Go.SL Go.Proofs
set_option linter.unusedVariables false

theorem rz (w : World) (lo up : Nat) : Sn.R w lo up ⟨0, .slice none 0 0, [], .slice none 0 0, [], 0, 0⟩ := ⟨NRd.nil _ _ _, NRd.nil _ _ _, rfl, (fun j e h => by cases h), (fun j e h => by cases h), by decide⟩
theorem inv0 (es fs : List BE) (m : B) : Inv es fs m 0 ⟨0, .slice none 0 0, [], .slice none 0 0, [], 0, 0⟩ [] := ⟨rfl, rfl, List.Pairwise.nil, fun _ _ h => absurd h (Nat.lt_irrefl 0), Nat.zero_le _⟩
theorem geq_less {a b : B} (h : Op.bytesLess a b = true) : scmp .geq a b = false := by simp [scmp, h]

set_option maxRecDepth 10000 in
set_option maxHeartbeats 2000000 in
theorem c_modelMaps (kv : Value) (es : List BE) (vv : Value) (fs : List BE) (w : World) (hK : NRd LB w 0 w.heap.size kv es) (hV : NRd LB w 0 w.heap.size vv fs) (hek : BOK es) (hfk : BOK fs) (key : Value) (m : B) (hm : m.length ≤ 140737488355328) (hk : Rd w 1 key m.length (m.map byteV)) : CT Tryd.prog 3 #[kv, vv, key] w fun v w' => v = .bool true ∧ Ext w w' := by
 obtain ⟨n0, hn0⟩ : ∃ n, n = w.heap.size := ⟨_, rfl⟩
 have hU : Upd (fun i => n0 ≤ i) w w := Upd.refl _ _
 have hk_b : ∀ i, rbk key = some i → i < n0 := by rw [hn0]; exact fun i hi => hk.bound (by decide) hi
 rw [← hn0] at hK hV
 have hlE := hK.sv.len; have hlF := hV.sv.len
 refine CT_of Tryd.func3 rfl rfl rfl ?_
 refine W_seq ?_
 refine W_reg ?_
 refine L_op rfl (X_assign (v := (.bool (false))) rfl ?_)
 refine L_nil ?_
 refine T_n ?_
 refine W_seq ?_
 refine W_seq ?_
 refine W_reg ?_
 refine L_op rfl (X_move (v := kv) rfl ?_)
 refine L_op rfl (X_len (v := kv) (n := es.length) Tryd.underlying22 rfl hK.sv ?_)
 by_cases hc1 : (((es.length : Nat) : Int) : Int) > (60)
 ·refine L_op rfl (X_cmp (k := .i64) (a := ((es.length : Nat) : Int)) (b := 60) (r := true) rfl rfl rfl (decide_eq_true (p := ((60) : Int) < ((((es.length : Nat) : Int)) : Int)) (by omega)) ?_)
  refine L_op rfl (X_move (v := (.bool (true))) rfl ?_)
  refine L_gn (dj := 35) (t := true) rfl rfl rfl rfl ?_
  refine L_gn (dj := 35) (t := true) rfl rfl rfl rfl ?_
  refine L_gn (dj := 35) (t := true) rfl rfl rfl rfl ?_
  refine L_gn (dj := 35) (t := true) rfl rfl rfl rfl ?_
  refine L_gn (dj := 35) (t := true) rfl rfl rfl rfl ?_
  refine L_op rfl (X_pick (t := true) (v := (.bool (true))) rfl rfl ?_)
  refine L_nil ?_
  refine T_n ?_
  refine W_ct rfl ?_
  refine W_seq ?_
  refine W_reg ?_
  have hcr_ := c_wakes w
  refine L_op rfl (X_fn (vs := []) en4 rfl ?_)
  refine CT.mono hcr_ ?_
  clear hcr_
  rintro _ w2 ⟨rfl, hu2⟩
  have hz2 := hu2.size
  replace hK := hK.ext hu2
  replace hV := hV.ext hu2
  replace hk := hk.ext hu2
  replace hU := hU.trans (Ext.upd hu2)
  refine L_op rfl (X_assign (v := (.bool (true))) rfl ?_)
  refine L_nil ?_
  refine T_n ?_
  refine W_ret ?_
  refine T_r ?_
  exact BQ_r (End_1 Tryd.results3 (v := .bool true) rfl ⟨rfl, hU.own hn0⟩)
 ·refine L_op rfl (X_cmp (k := .i64) (a := ((es.length : Nat) : Int)) (b := 60) (r := false) rfl rfl rfl (decide_eq_false (p := ((60) : Int) < ((((es.length : Nat) : Int)) : Int)) (by omega)) ?_)
  refine L_op rfl (X_move (v := (.bool (false))) rfl ?_)
  refine L_gy (dj := 35) rfl rfl rfl (X_move (v := vv) rfl ?_)
  refine L_gy (dj := 35) rfl rfl rfl (X_len (v := vv) (n := fs.length) Tryd.underlying22 rfl hV.sv ?_)
  refine L_gy (dj := 35) rfl rfl rfl (X_move (v := kv) rfl ?_)
  refine L_gy (dj := 35) rfl rfl rfl (X_len (v := kv) (n := es.length) Tryd.underlying22 rfl hK.sv ?_)
  by_cases hc3 : (((fs.length : Nat) : Int) : Int) ≠ (((es.length : Nat) : Int))
  ·refine L_gy (dj := 35) rfl rfl rfl (X_cmp (k := .i64) (a := ((fs.length : Nat) : Int)) (b := ((es.length : Nat) : Int)) (r := true) rfl rfl rfl (decide_eq_true (p := ((((fs.length : Nat) : Int)) : Int) ≠ ((((es.length : Nat) : Int)) : Int)) (by omega)) ?_)
   refine L_op rfl (X_pick (t := false) (v := (.bool (true))) rfl rfl ?_)
   refine L_nil ?_
   refine T_n ?_
   refine W_ct rfl ?_
   refine W_seq ?_
   refine W_reg ?_
   have hcr_ := c_wakes w
   refine L_op rfl (X_fn (vs := []) en4 rfl ?_)
   refine CT.mono hcr_ ?_
   clear hcr_
   rintro _ w4 ⟨rfl, hu4⟩
   have hz4 := hu4.size
   replace hK := hK.ext hu4
   replace hV := hV.ext hu4
   replace hk := hk.ext hu4
   replace hU := hU.trans (Ext.upd hu4)
   refine L_op rfl (X_assign (v := (.bool (true))) rfl ?_)
   refine L_nil ?_
   refine T_n ?_
   refine W_ret ?_
   refine T_r ?_
   exact BQ_r (End_1 Tryd.results3 (v := .bool true) rfl ⟨rfl, hU.own hn0⟩)
  ·refine L_gy (dj := 35) rfl rfl rfl (X_cmp (k := .i64) (a := ((fs.length : Nat) : Int)) (b := ((es.length : Nat) : Int)) (r := false) rfl rfl rfl (decide_eq_false (p := ((((fs.length : Nat) : Int)) : Int) ≠ ((((es.length : Nat) : Int)) : Int)) (by omega)) ?_)
   refine L_op rfl (X_pick (t := false) (v := (.bool (false))) rfl rfl ?_)
   refine L_nil ?_
   refine T_n ?_
   refine W_cf rfl ?_
   refine W_skip ?_
   refine T_n ?_
   refine W_seq ?_
   refine W_reg ?_
   refine L_op rfl (X_alloc (z := .agg #[(.int .u32 (0)), (.slice none 0 0), (.slice none 0 0), (.int .u8 (0)), (.int .u8 (0))]) (c := #[(.int .u32 (0)), (.slice none 0 0), (.slice none 0 0), (.int .u8 (0)), (.int .u8 (0))]) Zv27 rfl ?_)
   intro b1 w5 hn5
   have hbn5 := hn5.num; have hbs5 := hn5.size
   replace hK := hK.ext hn5.ext
   replace hV := hV.ext hn5.ext
   replace hk := hk.ext hn5.ext
   replace hU := hU.trans (Ext.upd hn5.ext)
   have hB1 := hn5.blk
   have hb1n : n0 ≤ b1 := by omega
   refine L_nil ?_
   refine T_n ?_
   refine W_seq ?_
   refine W_seq ?_
   refine W_reg ?_
   refine L_op rfl (X_assign (v := (.int .i64 (0))) rfl ?_)
   refine L_nil ?_
   refine T_n ?_
   refine W_block ?_
   refine W_loop (α := Nat × Sn) [6, 8, 9, 10, 11, 12, 13, 14, 15, 16, 17, 18, 19, 20, 21, 22, 43, 44, 45, 46, 47, 48, 49, 50, 51, 52, 53, 54, 55, 56, 57, 58, 59, 60, 61, 62, 63, 64, 65, 66, 67, 68, 69, 70, 71, 72, 73, 74, 75, 76, 77, 78, 79, 80, 81, 82, 83, 84, 85, 86, 87, 88, 89, 90, 91, 92, 93, 94, 95, 96, 97, 98, 99, 100, 101, 102, 103, 104, 105, 106, 107, 108, 109, 110, 111, 112, 113, 114, 115, 116, 117, 118, 119, 120, 121, 122, 123, 124, 125, 126, 127, 128, 129, 130, 131, 132, 133, 134, 135, 136, 137, 138, 139, 140, 141, 142, 143, 144, 145, 146, 147, 148, 149, 150, 151, 152, 153, 154, 155, 156, 157, 158, 159, 160, 161, 162, 163, 164, 165, 166, 167, 168, 169, 170, 171, 172, 173, 174, 175, 176, 177, 178, 179, 180, 181, 182, 183, 184, 185, 186, 187, 188, 189, 190, 191, 192, 193, 194, 195, 196, 197, 198, 199, 200, 201, 202, 203, 204, 205, 206, 207, 208, 209, 210, 211, 212, 213, 214, 215, 216, 217, 218, 219, 220] (fun ⟨i, s⟩ => [(8, (.int .i64 (((i : Nat) : Int))))]) (fun ⟨i, s⟩ w_ => i ≤ es.length ∧ Blk w_ b1 (snC s).toArray 27 ∧ s.R w_ (b1 + 1) w_.heap.size ∧ NRd LB w_ 0 n0 kv es ∧ NRd LB w_ 0 n0 vv fs ∧ Rd w_ 1 key m.length (m.map byteV) ∧ (∃ L, Inv es fs m i s L) ∧ Upd (fun i => n0 ≤ i) w w_) (fun ⟨i, s⟩ => es.length - i) ⟨rfl, (0, ⟨0, .slice none 0 0, [], .slice none 0 0, [], 0, 0⟩), ⟨Nat.zero_le _, hB1, rz _ _ _, hK, hV, hk, ⟨[], inv0 es fs m⟩, hU⟩, Out.refl _ _, ⟨rfl, trivial⟩⟩ ?_
   rintro ⟨i, s⟩ w6 _ ⟨hil, hB1, hs, hK, hV, hk, hinv, hU⟩
   obtain ⟨L, hinv⟩ := hinv
   have hsz_ := hU.size
   have hb1l := hB1.lt
   obtain ⟨U_, hU_⟩ : ∃ n, n = w6.heap.size := ⟨_, rfl⟩
   rw [← hU_] at hs
   have hNi := hinv.n
   refine W_seq ?_
   refine W_seq ?_
   refine W_reg ?_
   refine L_op rfl (X_move (v := (.int .i64 (((i : Nat) : Int)))) rfl ?_)
   refine L_op rfl (X_move (v := kv) rfl ?_)
   refine L_op rfl (X_len (v := kv) (n := es.length) Tryd.underlying22 rfl hK.sv ?_)
   by_cases hc7 : (((i : Nat) : Int) : Int) < (((es.length : Nat) : Int))
   ·refine L_op rfl (X_cmp (k := .i64) (a := ((i : Nat) : Int)) (b := ((es.length : Nat) : Int)) (r := true) rfl rfl rfl (decide_eq_true (p := ((((i : Nat) : Int)) : Int) < ((((es.length : Nat) : Int)) : Int)) (by omega)) ?_)
    have hi : i < es.length := by omega
    obtain ⟨e, hei⟩ : ∃ e, es[i]? = some e := ⟨_, List.getElem?_eq_getElem hi⟩
    obtain ⟨f, hf⟩ : ∃ f, fs[i]? = some f := ⟨_, List.getElem?_eq_getElem (by omega)⟩
    have hel := hek i e hei
    have hfl := hfk i f hf
    have hlE := hK.sv.len; have hlF := hV.sv.len
    refine L_nil ?_
    refine T_n ?_
    refine W_ct rfl ?_
    refine W_skip ?_
    refine T_n ?_
    refine W_seq ?_
    refine W_block ?_
    refine W_seq ?_
    refine W_reg ?_
    refine L_op rfl (X_loadA (p := (ptr b1 (0))) (xs := [(.int .u32 (s.tx)), s.kv, s.vv, (.int .u8 (s.mr)), (.int .u8 (s.lv))]) A27 rfl hB1.atAll rfl ?_)
    refine L_op rfl (X_move (v := key) rfl ?_)
    have hcr_ := c_get s w6 (b1 + 1) U_ (by omega) hs key m hm hk
    refine L_op rfl (X_fn (vs := [(.agg ([(.int .u32 (s.tx)), s.kv, s.vv, (.int .u8 (s.mr)), (.int .u8 (s.lv))]).toArray), key]) en5 rfl ?_)
    refine CT.mono hcr_ ?_
    clear hcr_
    rintro _ w8 ⟨y0, rfl, hYy0, hu8⟩
    have hz8 := hu8.size
    replace hYy0 := hYy0.rd
    obtain ⟨Vy0, hVy0⟩ : ∃ n, n = w8.heap.size := ⟨_, rfl⟩
    rw [← hVy0] at hYy0
    replace hB1 := hB1.ext hu8
    replace hs := hs.ext hu8
    replace hK := hK.ext hu8
    replace hV := hV.ext hu8
    replace hk := hk.ext hu8
    replace hU := hU.trans (Ext.upd hu8)
    obtain ⟨ev, hev⟩ : ∃ b, b = (getO (bl s.ks) (bl s.vs) m).isSome := ⟨_, rfl⟩
    rw [← hev]
    obtain ⟨hd, hhd⟩ : ∃ b, b = (getO (bl s.ks) (bl s.vs) m).getD [] := ⟨_, rfl⟩
    rw [← hhd] at hYy0
    refine L_op rfl (X_move (v := (.tuple #[y0, (.bool (ev))])) rfl ?_)
    refine L_op rfl (X_extract (l := [y0, (.bool (ev))]) (v := y0) rfl rfl ?_)
    refine L_op rfl (X_extract (l := [y0, (.bool (ev))]) (v := (.bool (ev))) rfl rfl ?_)
    refine L_op rfl (X_assign (v := y0) rfl ?_)
    refine L_op rfl (X_assign (v := (.bool (ev))) rfl ?_)
    refine L_nil ?_
    refine T_n ?_
    refine W_cut (α := Unit) [6, 55, 56, 57, 58, 59, 60, 61, 62, 63, 64, 65, 66, 67, 68, 69, 70, 71, 72, 73, 74, 75, 76, 77, 78, 79, 80, 81, 82, 83, 84, 85, 86, 87, 88] (fun _u => []) (fun _u w_ => Ext w8 w_) ?_ ?_
    ·refine W_seq ?_
     have hE := Upd.refl (fun _ => False) w8
     rcases Bool.eq_false_or_eq_true (decide (0 < i)) with hs10 | hs10
     ·have hi0 : 0 < i := of_decide_eq_true hs10
      obtain ⟨ep, hep⟩ : ∃ e, es[i - 1]? = some e := ⟨_, List.getElem?_eq_getElem (by omega)⟩
      obtain ⟨fp, hfp⟩ : ∃ f, fs[i - 1]? = some f := ⟨_, List.getElem?_eq_getElem (by omega)⟩
      have hfpl := hfk _ fp hfp
      rcases Bool.eq_false_or_eq_true (scmp .eql (ep.2) (m)) with hs11 | hs11
      ·rcases Bool.eq_false_or_eq_true (decide (fp.2.length = 0)) with hs12 | hs12
       ·have hep2 := eq_of_eql hs11
        have hfp0 := of_decide_eq_true hs12
        have hpb : putB fp.2 = true := putB_nil hfp0
        have hev2 : ev = true := by rw [hev, hinv.p ep fp hi0 hep hfp hep2, hpb]
        refine W_draw 32 [[], [0], [0, 1], [0, 1, 2], [0, 1, 2], [0, 1, 2, 4], [0, 1, 2, 3, 4, 5], [0, 1, 2, 3, 4, 5, 6], [0, 1, 2, 3, 4, 5, 6, 7], [0, 1, 2], [0, 1, 2, 9], [0, 1, 2, 3, 4, 5, 6, 7, 8, 9, 10], [0, 1, 2, 3, 4, 5, 6, 7, 8, 9, 10, 11], [0, 1, 2, 3, 4, 5, 6, 7, 8, 9, 10, 11, 12], [0, 1, 2, 3, 4, 5, 6, 7, 8, 9, 10, 11, 12, 13], [0, 1, 2, 3, 4, 5, 6, 7, 8, 9, 10, 11, 12, 13], [0, 1, 2, 3, 4, 5, 6, 7, 8, 9, 10, 11, 12, 13], [0, 1, 2, 3, 4, 5, 6, 7, 8, 9, 10, 11, 12, 13, 16], [0, 1, 2, 3, 4, 5, 6, 7, 8, 9, 10, 11, 12, 13, 15, 16, 17], [0, 1, 2, 3, 4, 5, 6, 7, 8, 9, 10, 11, 12, 13, 15, 16, 17, 18], [0, 1, 2, 3, 4, 5, 6, 7, 8, 9, 10, 11, 12, 13, 15, 16, 17, 18, 19], [0, 1, 2, 3, 4, 5, 6, 7, 8, 9, 10, 11, 12, 13, 15, 16, 17, 18, 19, 20], [0, 1, 2, 3, 4, 5, 6, 7, 8, 9, 10, 11, 12, 13, 15, 16, 17, 18, 19, 20, 21], [0, 1, 2, 3, 4, 5, 6, 7, 8, 9, 10, 11, 12, 13, 15, 16, 17, 18, 19, 20, 21, 22], [0, 1, 2, 3, 4, 5, 6, 7, 8, 9, 10, 11, 12, 13, 15, 16, 17, 18, 19, 20, 21, 22], [0, 1, 2, 3, 4, 5, 6, 7, 8, 9, 10, 11, 12, 13, 15, 16, 17, 18, 19, 20, 21, 22, 24], [0, 1, 2, 3, 4, 5, 6, 7, 8, 9, 10, 11, 12, 13, 15, 16, 17, 18, 19, 20, 21, 22, 23, 24, 25], [0, 1, 2, 3, 4, 5, 6, 7, 8, 9, 10, 11, 12, 13, 15, 16, 17, 18, 19, 20, 21, 22, 23, 24, 25, 26], [0, 1, 2, 3, 4, 5, 6, 7, 8, 9, 10, 11, 12, 13, 15, 16, 17, 18, 19, 20, 21, 22, 23, 24, 25, 26, 27], [0, 1, 2, 3, 4, 5, 6, 7, 8, 9, 10, 11, 12, 13, 15, 16, 17, 18, 19, 20, 21, 22, 23, 24, 25, 26, 27, 28], [0, 1, 2, 3, 4, 5, 6, 7, 8, 9, 10, 11, 12, 13, 15, 16, 17, 18, 19, 20, 21, 22, 23, 24, 25, 26, 27, 28, 29], [0, 1, 2, 3, 4, 5, 6, 7, 8, 9, 10, 11, 12, 13, 15, 16, 17, 18, 19, 20, 21, 22, 23, 24, 25, 26, 27, 28, 29, 30], [0, 1, 2, 3, 4, 5, 6, 7, 8, 9, 10, 11, 12, 13, 14, 15, 16, 17, 18, 19, 20, 21, 22, 23, 24, 25, 26, 27, 28, 29, 30, 31], [0, 1, 2, 3, 4, 5, 6, 7, 8, 9, 10, 11, 12, 13, 14, 15, 16, 17, 18, 19, 20, 21, 22, 23, 24, 25, 26, 27, 28, 29, 30, 31, 32]] mixed (by kernel_rfl) ?_
        refine ⟨.det (fun val => (.int .i64 (((i : Nat) : Int)))), ⟨fun _ _ hv => rfl, fun _ _ _ _ _ => trivial⟩, fun val h_ W hx he => ⟨trivial, ?_⟩, ?_⟩
        ·exact X_move (v := (.int .i64 (((i : Nat) : Int)))) rfl ⟨Upd.refl _ _, rfl⟩
        refine ⟨.det (fun val => (.bool (true))), ⟨fun _ _ hv => rfl, fun _ _ _ _ _ => trivial⟩, fun val h_ W hx he => ⟨trivial, ?_⟩, ?_⟩
        ·exact X_cmp (k := .i64) (a := ((i : Nat) : Int)) (b := 0) (r := true) rfl rfl rfl (decide_eq_true (p := ((0) : Int) < ((((i : Nat) : Int)) : Int)) (by omega)) ⟨Upd.refl _ _, rfl⟩
        refine ⟨.det (fun val => (.bool (true))), ⟨fun _ _ hv => rfl, fun _ _ _ _ _ => trivial⟩, fun val h_ W hx he => ⟨trivial, ?_⟩, ?_⟩
        ·exact X_move (v := (.bool (true))) rfl ⟨Upd.refl _ _, rfl⟩
        refine ⟨.det (fun val => kv), ⟨fun _ _ hv => rfl, fun _ _ _ _ _ => trivial⟩, fun val h_ W hx he => ⟨⟨57, rfl, rfl⟩, ?_⟩, ?_⟩
        ·exact X_move (v := kv) rfl ⟨Upd.refl _ _, rfl⟩
        refine ⟨.det (fun val => (.int .i64 (((i : Nat) : Int)))), ⟨fun _ _ hv => rfl, fun _ _ _ _ _ => trivial⟩, fun val h_ W hx he => ⟨⟨57, rfl, rfl⟩, ?_⟩, ?_⟩
        ·exact X_move (v := (.int .i64 (((i : Nat) : Int)))) rfl ⟨Upd.refl _ _, rfl⟩
        refine ⟨.det (fun val => (.int .i64 ((((i : Nat) : Int) - 1 : Int)))), ⟨fun _ _ hv => rfl, fun _ _ _ _ _ => trivial⟩, fun val h_ W hx he => ⟨⟨57, rfl, rfl⟩, ?_⟩, ?_⟩
        ·exact X_arith (k := .i64) (a := ((i : Nat) : Int)) (b := 1) (r := (((i : Nat) : Int) - 1 : Int)) rfl rfl rfl (isub64 rfl (by omega) (by omega)) ⟨Upd.refl _ _, rfl⟩
        refine ⟨.det (fun val => (pof kv (((((i : Nat) : Int) - 1 : Int) : Int).toNat * 1))), ⟨fun _ _ hv => rfl, fun _ _ _ _ _ => trivial⟩, fun val h_ W hx he => ⟨⟨57, rfl, rfl⟩, ?_⟩, ?_⟩
        ·replace hx := (Upd.drew _ _).trans hx
         replace hK := hK.ext hx
         refine id (X_idx (v := kv) (n := es.length) (k := .i64) (i := (((i : Nat) : Int) - 1 : Int)) S22 rfl hK.sv rfl (by omega) (by omega) ?_)
         exact ⟨Upd.refl _ _, rfl⟩
        refine ⟨.det (fun val => ep.1), ⟨fun _ _ hv => rfl, fun _ _ _ _ _ => trivial⟩, fun val h_ W hx he => ⟨⟨57, rfl, rfl⟩, ?_⟩, ?_⟩
        ·replace hx := (Upd.drew _ _).trans hx
         replace hK := hK.ext hx
         refine id (X_load (v := ep.1) T23 rfl (bkey hK ((by omega)) hep) ?_)
         exact ⟨Upd.refl _ _, rfl⟩
        refine ⟨.det (fun val => (strV (ep.2))), ⟨fun _ _ hv => rfl, fun _ _ _ _ _ => trivial⟩, fun val h_ W hx he => ⟨⟨57, rfl, rfl⟩, ?_⟩, ?_⟩
        ·replace hx := (Upd.drew _ _).trans hx
         replace hK := hK.ext hx
         refine id (X_str (v := ep.1) (l := ep.2) Tryd.underlying23 Tryd.underlying5 Tryd.underlying9 rfl (brd hK hep) ?_)
         exact ⟨Upd.refl _ _, rfl⟩
        refine ⟨.det (fun val => key), ⟨fun _ _ hv => rfl, fun _ _ _ _ _ => trivial⟩, fun val h_ W hx he => ⟨⟨57, rfl, rfl⟩, ?_⟩, ?_⟩
        ·exact X_move (v := key) rfl ⟨Upd.refl _ _, rfl⟩
        refine ⟨.det (fun val => (strV (m))), ⟨fun _ _ hv => rfl, fun _ _ _ _ _ => trivial⟩, fun val h_ W hx he => ⟨⟨57, rfl, rfl⟩, ?_⟩, ?_⟩
        ·replace hx := (Upd.drew _ _).trans hx
         replace hk := hk.ext hx
         refine id (X_str (v := key) (l := m) Tryd.underlying23 Tryd.underlying5 Tryd.underlying9 rfl hk ?_)
         exact ⟨Upd.refl _ _, rfl⟩
        refine ⟨.det (fun val => (.bool (true))), ⟨fun _ _ hv => rfl, fun _ _ _ _ _ => trivial⟩, fun val h_ W hx he => ⟨⟨57, rfl, rfl⟩, ?_⟩, ?_⟩
        ·exact X_scmp (a := ep.2) (b := m) (r := true) rfl rfl rfl hs11 ⟨Upd.refl _ _, rfl⟩
        refine ⟨.det (fun val => (.bool (true))), ⟨fun _ _ hv => rfl, fun _ _ _ _ _ => trivial⟩, fun val h_ W hx he => ⟨trivial, ?_⟩, ?_⟩
        ·exact X_pick (t := true) (v := (.bool (true))) rfl rfl ⟨Upd.refl _ _, rfl⟩
        refine ⟨.det (fun val => (.bool (true))), ⟨fun _ _ hv => rfl, fun _ _ _ _ _ => trivial⟩, fun val h_ W hx he => ⟨trivial, ?_⟩, ?_⟩
        ·exact X_move (v := (.bool (true))) rfl ⟨Upd.refl _ _, rfl⟩
        refine ⟨.det (fun val => (.bool (ev))), ⟨fun _ _ hv => rfl, fun _ _ _ _ _ => trivial⟩, fun val h_ W hx he => ⟨⟨68, rfl, rfl⟩, ?_⟩, ?_⟩
        ·exact X_move (v := (.bool (ev))) rfl ⟨Upd.refl _ _, rfl⟩
        refine ⟨.det (fun val => vv), ⟨fun _ _ hv => rfl, fun _ _ _ _ _ => trivial⟩, fun val h_ W hx he => ⟨⟨68, rfl, rfl⟩, ?_⟩, ?_⟩
        ·exact X_move (v := vv) rfl ⟨Upd.refl _ _, rfl⟩
        refine ⟨.det (fun val => (.int .i64 (((i : Nat) : Int)))), ⟨fun _ _ hv => rfl, fun _ _ _ _ _ => trivial⟩, fun val h_ W hx he => ⟨⟨68, rfl, rfl⟩, ?_⟩, ?_⟩
        ·exact X_move (v := (.int .i64 (((i : Nat) : Int)))) rfl ⟨Upd.refl _ _, rfl⟩
        refine ⟨.det (fun val => (.int .i64 ((((i : Nat) : Int) - 1 : Int)))), ⟨fun _ _ hv => rfl, fun _ _ _ _ _ => trivial⟩, fun val h_ W hx he => ⟨⟨68, rfl, rfl⟩, ?_⟩, ?_⟩
        ·exact X_arith (k := .i64) (a := ((i : Nat) : Int)) (b := 1) (r := (((i : Nat) : Int) - 1 : Int)) rfl rfl rfl (isub64 rfl (by omega) (by omega)) ⟨Upd.refl _ _, rfl⟩
        refine ⟨.det (fun val => (pof vv (((((i : Nat) : Int) - 1 : Int) : Int).toNat * 1))), ⟨fun _ _ hv => rfl, fun _ _ _ _ _ => trivial⟩, fun val h_ W hx he => ⟨⟨68, rfl, rfl⟩, ?_⟩, ?_⟩
        ·replace hx := (Upd.drew _ _).trans hx
         replace hV := hV.ext hx
         refine id (X_idx (v := vv) (n := fs.length) (k := .i64) (i := (((i : Nat) : Int) - 1 : Int)) S22 rfl hV.sv rfl (by omega) (by omega) ?_)
         exact ⟨Upd.refl _ _, rfl⟩
        refine ⟨.det (fun val => fp.1), ⟨fun _ _ hv => rfl, fun _ _ _ _ _ => trivial⟩, fun val h_ W hx he => ⟨⟨68, rfl, rfl⟩, ?_⟩, ?_⟩
        ·replace hx := (Upd.drew _ _).trans hx
         replace hV := hV.ext hx
         refine id (X_load (v := fp.1) T23 rfl (bkey hV ((by omega)) hfp) ?_)
         exact ⟨Upd.refl _ _, rfl⟩
        refine ⟨.det (fun val => (.int .i64 (((fp.2.length : Nat) : Int)))), ⟨fun _ _ hv => rfl, fun _ _ _ _ _ => trivial⟩, fun val h_ W hx he => ⟨⟨68, rfl, rfl⟩, ?_⟩, ?_⟩
        ·replace hx := (Upd.drew _ _).trans hx
         replace hV := hV.ext hx
         refine id (X_len (v := fp.1) (n := fp.2.length) Tryd.underlying23 rfl (brd hV hfp).sv ?_)
         exact ⟨Upd.refl _ _, rfl⟩
        refine ⟨.det (fun val => (.bool (true))), ⟨fun _ _ hv => rfl, fun _ _ _ _ _ => trivial⟩, fun val h_ W hx he => ⟨⟨68, rfl, rfl⟩, ?_⟩, ?_⟩
        ·exact X_cmp (k := .i64) (a := ((fp.2.length : Nat) : Int)) (b := 0) (r := true) rfl rfl rfl (decide_eq_true (p := ((((fp.2.length : Nat) : Int)) : Int) = ((0) : Int)) (by omega)) ⟨Upd.refl _ _, rfl⟩
        refine ⟨.det (fun val => (.bool (true))), ⟨fun _ _ hv => rfl, fun _ _ _ _ _ => trivial⟩, fun val h_ W hx he => ⟨⟨68, rfl, rfl⟩, ?_⟩, ?_⟩
        ·exact X_move (v := (.bool (true))) rfl ⟨Upd.refl _ _, rfl⟩
        refine ⟨.no, ⟨fun _ _ _ => trivial, fun _ _ _ _ _ => trivial⟩, fun val h_ W hx he => ⟨77, rfl, .inl rfl⟩, ?_⟩
        refine ⟨.no, ⟨fun _ _ _ => trivial, fun _ _ _ _ _ => trivial⟩, fun val h_ W hx he => ⟨77, rfl, .inl rfl⟩, ?_⟩
        refine ⟨.no, ⟨fun _ _ _ => trivial, fun _ _ _ _ _ => trivial⟩, fun val h_ W hx he => ⟨77, rfl, .inl rfl⟩, ?_⟩
        refine ⟨.no, ⟨fun _ _ _ => trivial, fun _ _ _ _ _ => trivial⟩, fun val h_ W hx he => ⟨77, rfl, .inl rfl⟩, ?_⟩
        refine ⟨.no, ⟨fun _ _ _ => trivial, fun _ _ _ _ _ => trivial⟩, fun val h_ W hx he => ⟨77, rfl, .inl rfl⟩, ?_⟩
        refine ⟨.no, ⟨fun _ _ _ => trivial, fun _ _ _ _ _ => trivial⟩, fun val h_ W hx he => ⟨77, rfl, .inl rfl⟩, ?_⟩
        refine ⟨.no, ⟨fun _ _ _ => trivial, fun _ _ _ _ _ => trivial⟩, fun val h_ W hx he => ⟨77, rfl, .inl rfl⟩, ?_⟩
        refine ⟨.no, ⟨fun _ _ _ => trivial, fun _ _ _ _ _ => trivial⟩, fun val h_ W hx he => ⟨77, rfl, .inl rfl⟩, ?_⟩
        refine ⟨.det (fun val => (.bool (true))), ⟨fun _ _ hv => rfl, fun _ _ _ _ _ => trivial⟩, fun val h_ W hx he => ⟨⟨68, rfl, rfl⟩, ?_⟩, ?_⟩
        ·exact X_pick (t := true) (v := (.bool (true))) rfl rfl ⟨Upd.refl _ _, rfl⟩
        intro val W13 hx13 he13
        replace hx13 := (Upd.drew _ _).trans hx13
        have hz13 := hx13.size
        replace hB1 := hB1.ext hx13
        replace hs := hs.ext hx13
        replace hK := hK.ext hx13
        replace hV := hV.ext hx13
        replace hk := hk.ext hx13
        replace hU := hU.trans (Ext.upd hx13)
        replace hYy0 := hYy0.ext hx13
        replace hE := hE.trans hx13
        refine L_gy (dj := 68) rfl rfl rfl (X_cmpBool (a := ev) (b := true) (r := false) Tryd.underlying4 rfl rfl (.inr ⟨rfl, by rw [hev2]; rfl⟩) ?_)
        refine L_op rfl (X_pick (t := true) (v := (.bool (false))) rfl rfl ?_)
        refine L_nil ?_
        refine T_n ?_
        refine W_cf rfl ?_
        refine W_skip ?_
        refine T_n ?_
        exact ⟨rfl, (), hE, (Out.suf rfl rfl), trivial⟩
       ·have hfp0 := of_decide_eq_false hs12
        obtain ⟨x0, hx0⟩ : ∃ x, fp.2[0]? = some x := ⟨_, List.getElem?_eq_getElem (by omega)⟩
        rcases Bool.eq_false_or_eq_true (decide ((x0.toNat : Int) = 255)) with hs16 | hs16
        ·have hep2 := eq_of_eql hs11
         have hx2 := of_decide_eq_true hs16
         have hpb : putB fp.2 = false := by rw [putB_at hx0, u8_255.1 hx2]; rfl
         have hev2 : ev = false := by rw [hev, hinv.p ep fp hi0 hep hfp hep2, hpb]
         refine W_draw 32 [[], [0], [0, 1], [0, 1, 2], [0, 1, 2], [0, 1, 2, 4], [0, 1, 2, 3, 4, 5], [0, 1, 2, 3, 4, 5, 6], [0, 1, 2, 3, 4, 5, 6, 7], [0, 1, 2], [0, 1, 2, 9], [0, 1, 2, 3, 4, 5, 6, 7, 8, 9, 10], [0, 1, 2, 3, 4, 5, 6, 7, 8, 9, 10, 11], [0, 1, 2, 3, 4, 5, 6, 7, 8, 9, 10, 11, 12], [0, 1, 2, 3, 4, 5, 6, 7, 8, 9, 10, 11, 12, 13], [0, 1, 2, 3, 4, 5, 6, 7, 8, 9, 10, 11, 12, 13], [0, 1, 2, 3, 4, 5, 6, 7, 8, 9, 10, 11, 12, 13], [0, 1, 2, 3, 4, 5, 6, 7, 8, 9, 10, 11, 12, 13, 16], [0, 1, 2, 3, 4, 5, 6, 7, 8, 9, 10, 11, 12, 13, 15, 16, 17], [0, 1, 2, 3, 4, 5, 6, 7, 8, 9, 10, 11, 12, 13, 15, 16, 17, 18], [0, 1, 2, 3, 4, 5, 6, 7, 8, 9, 10, 11, 12, 13, 15, 16, 17, 18, 19], [0, 1, 2, 3, 4, 5, 6, 7, 8, 9, 10, 11, 12, 13, 15, 16, 17, 18, 19, 20], [0, 1, 2, 3, 4, 5, 6, 7, 8, 9, 10, 11, 12, 13, 15, 16, 17, 18, 19, 20, 21], [0, 1, 2, 3, 4, 5, 6, 7, 8, 9, 10, 11, 12, 13, 15, 16, 17, 18, 19, 20, 21, 22], [0, 1, 2, 3, 4, 5, 6, 7, 8, 9, 10, 11, 12, 13, 15, 16, 17, 18, 19, 20, 21, 22], [0, 1, 2, 3, 4, 5, 6, 7, 8, 9, 10, 11, 12, 13, 15, 16, 17, 18, 19, 20, 21, 22, 24], [0, 1, 2, 3, 4, 5, 6, 7, 8, 9, 10, 11, 12, 13, 15, 16, 17, 18, 19, 20, 21, 22, 23, 24, 25], [0, 1, 2, 3, 4, 5, 6, 7, 8, 9, 10, 11, 12, 13, 15, 16, 17, 18, 19, 20, 21, 22, 23, 24, 25, 26], [0, 1, 2, 3, 4, 5, 6, 7, 8, 9, 10, 11, 12, 13, 15, 16, 17, 18, 19, 20, 21, 22, 23, 24, 25, 26, 27], [0, 1, 2, 3, 4, 5, 6, 7, 8, 9, 10, 11, 12, 13, 15, 16, 17, 18, 19, 20, 21, 22, 23, 24, 25, 26, 27, 28], [0, 1, 2, 3, 4, 5, 6, 7, 8, 9, 10, 11, 12, 13, 15, 16, 17, 18, 19, 20, 21, 22, 23, 24, 25, 26, 27, 28, 29], [0, 1, 2, 3, 4, 5, 6, 7, 8, 9, 10, 11, 12, 13, 15, 16, 17, 18, 19, 20, 21, 22, 23, 24, 25, 26, 27, 28, 29, 30], [0, 1, 2, 3, 4, 5, 6, 7, 8, 9, 10, 11, 12, 13, 14, 15, 16, 17, 18, 19, 20, 21, 22, 23, 24, 25, 26, 27, 28, 29, 30, 31], [0, 1, 2, 3, 4, 5, 6, 7, 8, 9, 10, 11, 12, 13, 14, 15, 16, 17, 18, 19, 20, 21, 22, 23, 24, 25, 26, 27, 28, 29, 30, 31, 32]] mixed (by kernel_rfl) ?_
         refine ⟨.det (fun val => (.int .i64 (((i : Nat) : Int)))), ⟨fun _ _ hv => rfl, fun _ _ _ _ _ => trivial⟩, fun val h_ W hx he => ⟨trivial, ?_⟩, ?_⟩
         ·exact X_move (v := (.int .i64 (((i : Nat) : Int)))) rfl ⟨Upd.refl _ _, rfl⟩
         refine ⟨.det (fun val => (.bool (true))), ⟨fun _ _ hv => rfl, fun _ _ _ _ _ => trivial⟩, fun val h_ W hx he => ⟨trivial, ?_⟩, ?_⟩
         ·exact X_cmp (k := .i64) (a := ((i : Nat) : Int)) (b := 0) (r := true) rfl rfl rfl (decide_eq_true (p := ((0) : Int) < ((((i : Nat) : Int)) : Int)) (by omega)) ⟨Upd.refl _ _, rfl⟩
         refine ⟨.det (fun val => (.bool (true))), ⟨fun _ _ hv => rfl, fun _ _ _ _ _ => trivial⟩, fun val h_ W hx he => ⟨trivial, ?_⟩, ?_⟩
         ·exact X_move (v := (.bool (true))) rfl ⟨Upd.refl _ _, rfl⟩
         refine ⟨.det (fun val => kv), ⟨fun _ _ hv => rfl, fun _ _ _ _ _ => trivial⟩, fun val h_ W hx he => ⟨⟨57, rfl, rfl⟩, ?_⟩, ?_⟩
         ·exact X_move (v := kv) rfl ⟨Upd.refl _ _, rfl⟩
         refine ⟨.det (fun val => (.int .i64 (((i : Nat) : Int)))), ⟨fun _ _ hv => rfl, fun _ _ _ _ _ => trivial⟩, fun val h_ W hx he => ⟨⟨57, rfl, rfl⟩, ?_⟩, ?_⟩
         ·exact X_move (v := (.int .i64 (((i : Nat) : Int)))) rfl ⟨Upd.refl _ _, rfl⟩
         refine ⟨.det (fun val => (.int .i64 ((((i : Nat) : Int) - 1 : Int)))), ⟨fun _ _ hv => rfl, fun _ _ _ _ _ => trivial⟩, fun val h_ W hx he => ⟨⟨57, rfl, rfl⟩, ?_⟩, ?_⟩
         ·exact X_arith (k := .i64) (a := ((i : Nat) : Int)) (b := 1) (r := (((i : Nat) : Int) - 1 : Int)) rfl rfl rfl (isub64 rfl (by omega) (by omega)) ⟨Upd.refl _ _, rfl⟩
         refine ⟨.det (fun val => (pof kv (((((i : Nat) : Int) - 1 : Int) : Int).toNat * 1))), ⟨fun _ _ hv => rfl, fun _ _ _ _ _ => trivial⟩, fun val h_ W hx he => ⟨⟨57, rfl, rfl⟩, ?_⟩, ?_⟩
         ·replace hx := (Upd.drew _ _).trans hx
          replace hK := hK.ext hx
          refine id (X_idx (v := kv) (n := es.length) (k := .i64) (i := (((i : Nat) : Int) - 1 : Int)) S22 rfl hK.sv rfl (by omega) (by omega) ?_)
          exact ⟨Upd.refl _ _, rfl⟩
         refine ⟨.det (fun val => ep.1), ⟨fun _ _ hv => rfl, fun _ _ _ _ _ => trivial⟩, fun val h_ W hx he => ⟨⟨57, rfl, rfl⟩, ?_⟩, ?_⟩
         ·replace hx := (Upd.drew _ _).trans hx
          replace hK := hK.ext hx
          refine id (X_load (v := ep.1) T23 rfl (bkey hK ((by omega)) hep) ?_)
          exact ⟨Upd.refl _ _, rfl⟩
         refine ⟨.det (fun val => (strV (ep.2))), ⟨fun _ _ hv => rfl, fun _ _ _ _ _ => trivial⟩, fun val h_ W hx he => ⟨⟨57, rfl, rfl⟩, ?_⟩, ?_⟩
         ·replace hx := (Upd.drew _ _).trans hx
          replace hK := hK.ext hx
          refine id (X_str (v := ep.1) (l := ep.2) Tryd.underlying23 Tryd.underlying5 Tryd.underlying9 rfl (brd hK hep) ?_)
          exact ⟨Upd.refl _ _, rfl⟩
         refine ⟨.det (fun val => key), ⟨fun _ _ hv => rfl, fun _ _ _ _ _ => trivial⟩, fun val h_ W hx he => ⟨⟨57, rfl, rfl⟩, ?_⟩, ?_⟩
         ·exact X_move (v := key) rfl ⟨Upd.refl _ _, rfl⟩
         refine ⟨.det (fun val => (strV (m))), ⟨fun _ _ hv => rfl, fun _ _ _ _ _ => trivial⟩, fun val h_ W hx he => ⟨⟨57, rfl, rfl⟩, ?_⟩, ?_⟩
         ·replace hx := (Upd.drew _ _).trans hx
          replace hk := hk.ext hx
          refine id (X_str (v := key) (l := m) Tryd.underlying23 Tryd.underlying5 Tryd.underlying9 rfl hk ?_)
          exact ⟨Upd.refl _ _, rfl⟩
         refine ⟨.det (fun val => (.bool (true))), ⟨fun _ _ hv => rfl, fun _ _ _ _ _ => trivial⟩, fun val h_ W hx he => ⟨⟨57, rfl, rfl⟩, ?_⟩, ?_⟩
         ·exact X_scmp (a := ep.2) (b := m) (r := true) rfl rfl rfl hs11 ⟨Upd.refl _ _, rfl⟩
         refine ⟨.det (fun val => (.bool (true))), ⟨fun _ _ hv => rfl, fun _ _ _ _ _ => trivial⟩, fun val h_ W hx he => ⟨trivial, ?_⟩, ?_⟩
         ·exact X_pick (t := true) (v := (.bool (true))) rfl rfl ⟨Upd.refl _ _, rfl⟩
         refine ⟨.det (fun val => (.bool (true))), ⟨fun _ _ hv => rfl, fun _ _ _ _ _ => trivial⟩, fun val h_ W hx he => ⟨trivial, ?_⟩, ?_⟩
         ·exact X_move (v := (.bool (true))) rfl ⟨Upd.refl _ _, rfl⟩
         refine ⟨.det (fun val => (.bool (ev))), ⟨fun _ _ hv => rfl, fun _ _ _ _ _ => trivial⟩, fun val h_ W hx he => ⟨⟨68, rfl, rfl⟩, ?_⟩, ?_⟩
         ·exact X_move (v := (.bool (ev))) rfl ⟨Upd.refl _ _, rfl⟩
         refine ⟨.det (fun val => vv), ⟨fun _ _ hv => rfl, fun _ _ _ _ _ => trivial⟩, fun val h_ W hx he => ⟨⟨68, rfl, rfl⟩, ?_⟩, ?_⟩
         ·exact X_move (v := vv) rfl ⟨Upd.refl _ _, rfl⟩
         refine ⟨.det (fun val => (.int .i64 (((i : Nat) : Int)))), ⟨fun _ _ hv => rfl, fun _ _ _ _ _ => trivial⟩, fun val h_ W hx he => ⟨⟨68, rfl, rfl⟩, ?_⟩, ?_⟩
         ·exact X_move (v := (.int .i64 (((i : Nat) : Int)))) rfl ⟨Upd.refl _ _, rfl⟩
         refine ⟨.det (fun val => (.int .i64 ((((i : Nat) : Int) - 1 : Int)))), ⟨fun _ _ hv => rfl, fun _ _ _ _ _ => trivial⟩, fun val h_ W hx he => ⟨⟨68, rfl, rfl⟩, ?_⟩, ?_⟩
         ·exact X_arith (k := .i64) (a := ((i : Nat) : Int)) (b := 1) (r := (((i : Nat) : Int) - 1 : Int)) rfl rfl rfl (isub64 rfl (by omega) (by omega)) ⟨Upd.refl _ _, rfl⟩
         refine ⟨.det (fun val => (pof vv (((((i : Nat) : Int) - 1 : Int) : Int).toNat * 1))), ⟨fun _ _ hv => rfl, fun _ _ _ _ _ => trivial⟩, fun val h_ W hx he => ⟨⟨68, rfl, rfl⟩, ?_⟩, ?_⟩
         ·replace hx := (Upd.drew _ _).trans hx
          replace hV := hV.ext hx
          refine id (X_idx (v := vv) (n := fs.length) (k := .i64) (i := (((i : Nat) : Int) - 1 : Int)) S22 rfl hV.sv rfl (by omega) (by omega) ?_)
          exact ⟨Upd.refl _ _, rfl⟩
         refine ⟨.det (fun val => fp.1), ⟨fun _ _ hv => rfl, fun _ _ _ _ _ => trivial⟩, fun val h_ W hx he => ⟨⟨68, rfl, rfl⟩, ?_⟩, ?_⟩
         ·replace hx := (Upd.drew _ _).trans hx
          replace hV := hV.ext hx
          refine id (X_load (v := fp.1) T23 rfl (bkey hV ((by omega)) hfp) ?_)
          exact ⟨Upd.refl _ _, rfl⟩
         refine ⟨.det (fun val => (.int .i64 (((fp.2.length : Nat) : Int)))), ⟨fun _ _ hv => rfl, fun _ _ _ _ _ => trivial⟩, fun val h_ W hx he => ⟨⟨68, rfl, rfl⟩, ?_⟩, ?_⟩
         ·replace hx := (Upd.drew _ _).trans hx
          replace hV := hV.ext hx
          refine id (X_len (v := fp.1) (n := fp.2.length) Tryd.underlying23 rfl (brd hV hfp).sv ?_)
          exact ⟨Upd.refl _ _, rfl⟩
         refine ⟨.det (fun val => (.bool (false))), ⟨fun _ _ hv => rfl, fun _ _ _ _ _ => trivial⟩, fun val h_ W hx he => ⟨⟨68, rfl, rfl⟩, ?_⟩, ?_⟩
         ·exact X_cmp (k := .i64) (a := ((fp.2.length : Nat) : Int)) (b := 0) (r := false) rfl rfl rfl (decide_eq_false (p := ((((fp.2.length : Nat) : Int)) : Int) = ((0) : Int)) (by omega)) ⟨Upd.refl _ _, rfl⟩
         refine ⟨.det (fun val => (.bool (false))), ⟨fun _ _ hv => rfl, fun _ _ _ _ _ => trivial⟩, fun val h_ W hx he => ⟨⟨68, rfl, rfl⟩, ?_⟩, ?_⟩
         ·exact X_move (v := (.bool (false))) rfl ⟨Upd.refl _ _, rfl⟩
         refine ⟨.det (fun val => vv), ⟨fun _ _ hv => rfl, fun _ _ _ _ _ => trivial⟩, fun val h_ W hx he => ⟨⟨77, rfl, rfl⟩, ?_⟩, ?_⟩
         ·exact X_move (v := vv) rfl ⟨Upd.refl _ _, rfl⟩
         refine ⟨.det (fun val => (.int .i64 (((i : Nat) : Int)))), ⟨fun _ _ hv => rfl, fun _ _ _ _ _ => trivial⟩, fun val h_ W hx he => ⟨⟨77, rfl, rfl⟩, ?_⟩, ?_⟩
         ·exact X_move (v := (.int .i64 (((i : Nat) : Int)))) rfl ⟨Upd.refl _ _, rfl⟩
         refine ⟨.det (fun val => (.int .i64 ((((i : Nat) : Int) - 1 : Int)))), ⟨fun _ _ hv => rfl, fun _ _ _ _ _ => trivial⟩, fun val h_ W hx he => ⟨⟨77, rfl, rfl⟩, ?_⟩, ?_⟩
         ·exact X_arith (k := .i64) (a := ((i : Nat) : Int)) (b := 1) (r := (((i : Nat) : Int) - 1 : Int)) rfl rfl rfl (isub64 rfl (by omega) (by omega)) ⟨Upd.refl _ _, rfl⟩
         refine ⟨.det (fun val => (pof vv (((((i : Nat) : Int) - 1 : Int) : Int).toNat * 1))), ⟨fun _ _ hv => rfl, fun _ _ _ _ _ => trivial⟩, fun val h_ W hx he => ⟨⟨77, rfl, rfl⟩, ?_⟩, ?_⟩
         ·replace hx := (Upd.drew _ _).trans hx
          replace hV := hV.ext hx
          refine id (X_idx (v := vv) (n := fs.length) (k := .i64) (i := (((i : Nat) : Int) - 1 : Int)) S22 rfl hV.sv rfl (by omega) (by omega) ?_)
          exact ⟨Upd.refl _ _, rfl⟩
         refine ⟨.det (fun val => fp.1), ⟨fun _ _ hv => rfl, fun _ _ _ _ _ => trivial⟩, fun val h_ W hx he => ⟨⟨77, rfl, rfl⟩, ?_⟩, ?_⟩
         ·replace hx := (Upd.drew _ _).trans hx
          replace hV := hV.ext hx
          refine id (X_load (v := fp.1) T23 rfl (bkey hV ((by omega)) hfp) ?_)
          exact ⟨Upd.refl _ _, rfl⟩
         refine ⟨.det (fun val => (pof fp.1 ((0 : Int).toNat * 1))), ⟨fun _ _ hv => rfl, fun _ _ _ _ _ => trivial⟩, fun val h_ W hx he => ⟨⟨77, rfl, rfl⟩, ?_⟩, ?_⟩
         ·replace hx := (Upd.drew _ _).trans hx
          replace hV := hV.ext hx
          refine id (X_idx (v := fp.1) (n := fp.2.length) (k := .i64) (i := 0) S23 rfl (brd hV hfp).sv rfl (by omega) (by omega) ?_)
          exact ⟨Upd.refl _ _, rfl⟩
         refine ⟨.det (fun val => (byteV x0)), ⟨fun _ _ hv => rfl, fun _ _ _ _ _ => trivial⟩, fun val h_ W hx he => ⟨⟨77, rfl, rfl⟩, ?_⟩, ?_⟩
         ·replace hx := (Upd.drew _ _).trans hx
          replace hV := hV.ext hx
          refine id (X_load (v := byteV x0) T5 rfl (Rd.cellB (i := 0) (brd hV hfp) hx0) ?_)
          exact ⟨Upd.refl _ _, rfl⟩
         refine ⟨.det (fun val => (.bool (false))), ⟨fun _ _ hv => rfl, fun _ _ _ _ _ => trivial⟩, fun val h_ W hx he => ⟨⟨77, rfl, rfl⟩, ?_⟩, ?_⟩
         ·exact X_cmp (k := .u8) (a := ((x0.toNat : Nat) : Int)) (b := 255) (r := false) rfl rfl rfl (decide_eq_false (p := ((((x0.toNat : Nat) : Int)) : Int) ≠ ((255) : Int)) (by omega)) ⟨Upd.refl _ _, rfl⟩
         refine ⟨.det (fun val => (.bool (false))), ⟨fun _ _ hv => rfl, fun _ _ _ _ _ => trivial⟩, fun val h_ W hx he => ⟨⟨68, rfl, rfl⟩, ?_⟩, ?_⟩
         ·exact X_pick (t := false) (v := (.bool (false))) rfl rfl ⟨Upd.refl _ _, rfl⟩
         intro val W17 hx17 he17
         replace hx17 := (Upd.drew _ _).trans hx17
         have hz17 := hx17.size
         replace hB1 := hB1.ext hx17
         replace hs := hs.ext hx17
         replace hK := hK.ext hx17
         replace hV := hV.ext hx17
         replace hk := hk.ext hx17
         replace hU := hU.trans (Ext.upd hx17)
         replace hYy0 := hYy0.ext hx17
         replace hE := hE.trans hx17
         refine L_gy (dj := 68) rfl rfl rfl (X_cmpBool (a := ev) (b := false) (r := false) Tryd.underlying4 rfl rfl (.inr ⟨rfl, by rw [hev2]; rfl⟩) ?_)
         refine L_op rfl (X_pick (t := true) (v := (.bool (false))) rfl rfl ?_)
         refine L_nil ?_
         refine T_n ?_
         refine W_cf rfl ?_
         refine W_skip ?_
         refine T_n ?_
         exact ⟨rfl, (), hE, (Out.suf rfl rfl), trivial⟩
        ·have hep2 := eq_of_eql hs11
         have hx2 := of_decide_eq_false hs16
         have hpb : putB fp.2 = true := by rw [putB_at hx0]; exact bne_iff_ne.2 fun h_ => hx2 (u8_255.2 h_)
         have hev2 : ev = true := by rw [hev, hinv.p ep fp hi0 hep hfp hep2, hpb]
         refine W_draw 32 [[], [0], [0, 1], [0, 1, 2], [0, 1, 2], [0, 1, 2, 4], [0, 1, 2, 3, 4, 5], [0, 1, 2, 3, 4, 5, 6], [0, 1, 2, 3, 4, 5, 6, 7], [0, 1, 2], [0, 1, 2, 9], [0, 1, 2, 3, 4, 5, 6, 7, 8, 9, 10], [0, 1, 2, 3, 4, 5, 6, 7, 8, 9, 10, 11], [0, 1, 2, 3, 4, 5, 6, 7, 8, 9, 10, 11, 12], [0, 1, 2, 3, 4, 5, 6, 7, 8, 9, 10, 11, 12, 13], [0, 1, 2, 3, 4, 5, 6, 7, 8, 9, 10, 11, 12, 13], [0, 1, 2, 3, 4, 5, 6, 7, 8, 9, 10, 11, 12, 13], [0, 1, 2, 3, 4, 5, 6, 7, 8, 9, 10, 11, 12, 13, 16], [0, 1, 2, 3, 4, 5, 6, 7, 8, 9, 10, 11, 12, 13, 15, 16, 17], [0, 1, 2, 3, 4, 5, 6, 7, 8, 9, 10, 11, 12, 13, 15, 16, 17, 18], [0, 1, 2, 3, 4, 5, 6, 7, 8, 9, 10, 11, 12, 13, 15, 16, 17, 18, 19], [0, 1, 2, 3, 4, 5, 6, 7, 8, 9, 10, 11, 12, 13, 15, 16, 17, 18, 19, 20], [0, 1, 2, 3, 4, 5, 6, 7, 8, 9, 10, 11, 12, 13, 15, 16, 17, 18, 19, 20, 21], [0, 1, 2, 3, 4, 5, 6, 7, 8, 9, 10, 11, 12, 13, 15, 16, 17, 18, 19, 20, 21, 22], [0, 1, 2, 3, 4, 5, 6, 7, 8, 9, 10, 11, 12, 13, 15, 16, 17, 18, 19, 20, 21, 22], [0, 1, 2, 3, 4, 5, 6, 7, 8, 9, 10, 11, 12, 13, 15, 16, 17, 18, 19, 20, 21, 22, 24], [0, 1, 2, 3, 4, 5, 6, 7, 8, 9, 10, 11, 12, 13, 15, 16, 17, 18, 19, 20, 21, 22, 23, 24, 25], [0, 1, 2, 3, 4, 5, 6, 7, 8, 9, 10, 11, 12, 13, 15, 16, 17, 18, 19, 20, 21, 22, 23, 24, 25, 26], [0, 1, 2, 3, 4, 5, 6, 7, 8, 9, 10, 11, 12, 13, 15, 16, 17, 18, 19, 20, 21, 22, 23, 24, 25, 26, 27], [0, 1, 2, 3, 4, 5, 6, 7, 8, 9, 10, 11, 12, 13, 15, 16, 17, 18, 19, 20, 21, 22, 23, 24, 25, 26, 27, 28], [0, 1, 2, 3, 4, 5, 6, 7, 8, 9, 10, 11, 12, 13, 15, 16, 17, 18, 19, 20, 21, 22, 23, 24, 25, 26, 27, 28, 29], [0, 1, 2, 3, 4, 5, 6, 7, 8, 9, 10, 11, 12, 13, 15, 16, 17, 18, 19, 20, 21, 22, 23, 24, 25, 26, 27, 28, 29, 30], [0, 1, 2, 3, 4, 5, 6, 7, 8, 9, 10, 11, 12, 13, 14, 15, 16, 17, 18, 19, 20, 21, 22, 23, 24, 25, 26, 27, 28, 29, 30, 31], [0, 1, 2, 3, 4, 5, 6, 7, 8, 9, 10, 11, 12, 13, 14, 15, 16, 17, 18, 19, 20, 21, 22, 23, 24, 25, 26, 27, 28, 29, 30, 31, 32]] mixed (by kernel_rfl) ?_
         refine ⟨.det (fun val => (.int .i64 (((i : Nat) : Int)))), ⟨fun _ _ hv => rfl, fun _ _ _ _ _ => trivial⟩, fun val h_ W hx he => ⟨trivial, ?_⟩, ?_⟩
         ·exact X_move (v := (.int .i64 (((i : Nat) : Int)))) rfl ⟨Upd.refl _ _, rfl⟩
         refine ⟨.det (fun val => (.bool (true))), ⟨fun _ _ hv => rfl, fun _ _ _ _ _ => trivial⟩, fun val h_ W hx he => ⟨trivial, ?_⟩, ?_⟩
         ·exact X_cmp (k := .i64) (a := ((i : Nat) : Int)) (b := 0) (r := true) rfl rfl rfl (decide_eq_true (p := ((0) : Int) < ((((i : Nat) : Int)) : Int)) (by omega)) ⟨Upd.refl _ _, rfl⟩
         refine ⟨.det (fun val => (.bool (true))), ⟨fun _ _ hv => rfl, fun _ _ _ _ _ => trivial⟩, fun val h_ W hx he => ⟨trivial, ?_⟩, ?_⟩
         ·exact X_move (v := (.bool (true))) rfl ⟨Upd.refl _ _, rfl⟩
         refine ⟨.det (fun val => kv), ⟨fun _ _ hv => rfl, fun _ _ _ _ _ => trivial⟩, fun val h_ W hx he => ⟨⟨57, rfl, rfl⟩, ?_⟩, ?_⟩
         ·exact X_move (v := kv) rfl ⟨Upd.refl _ _, rfl⟩
         refine ⟨.det (fun val => (.int .i64 (((i : Nat) : Int)))), ⟨fun _ _ hv => rfl, fun _ _ _ _ _ => trivial⟩, fun val h_ W hx he => ⟨⟨57, rfl, rfl⟩, ?_⟩, ?_⟩
         ·exact X_move (v := (.int .i64 (((i : Nat) : Int)))) rfl ⟨Upd.refl _ _, rfl⟩
         refine ⟨.det (fun val => (.int .i64 ((((i : Nat) : Int) - 1 : Int)))), ⟨fun _ _ hv => rfl, fun _ _ _ _ _ => trivial⟩, fun val h_ W hx he => ⟨⟨57, rfl, rfl⟩, ?_⟩, ?_⟩
         ·exact X_arith (k := .i64) (a := ((i : Nat) : Int)) (b := 1) (r := (((i : Nat) : Int) - 1 : Int)) rfl rfl rfl (isub64 rfl (by omega) (by omega)) ⟨Upd.refl _ _, rfl⟩
         refine ⟨.det (fun val => (pof kv (((((i : Nat) : Int) - 1 : Int) : Int).toNat * 1))), ⟨fun _ _ hv => rfl, fun _ _ _ _ _ => trivial⟩, fun val h_ W hx he => ⟨⟨57, rfl, rfl⟩, ?_⟩, ?_⟩
         ·replace hx := (Upd.drew _ _).trans hx
          replace hK := hK.ext hx
          refine id (X_idx (v := kv) (n := es.length) (k := .i64) (i := (((i : Nat) : Int) - 1 : Int)) S22 rfl hK.sv rfl (by omega) (by omega) ?_)
          exact ⟨Upd.refl _ _, rfl⟩
         refine ⟨.det (fun val => ep.1), ⟨fun _ _ hv => rfl, fun _ _ _ _ _ => trivial⟩, fun val h_ W hx he => ⟨⟨57, rfl, rfl⟩, ?_⟩, ?_⟩
         ·replace hx := (Upd.drew _ _).trans hx
          replace hK := hK.ext hx
          refine id (X_load (v := ep.1) T23 rfl (bkey hK ((by omega)) hep) ?_)
          exact ⟨Upd.refl _ _, rfl⟩
         refine ⟨.det (fun val => (strV (ep.2))), ⟨fun _ _ hv => rfl, fun _ _ _ _ _ => trivial⟩, fun val h_ W hx he => ⟨⟨57, rfl, rfl⟩, ?_⟩, ?_⟩
         ·replace hx := (Upd.drew _ _).trans hx
          replace hK := hK.ext hx
          refine id (X_str (v := ep.1) (l := ep.2) Tryd.underlying23 Tryd.underlying5 Tryd.underlying9 rfl (brd hK hep) ?_)
          exact ⟨Upd.refl _ _, rfl⟩
         refine ⟨.det (fun val => key), ⟨fun _ _ hv => rfl, fun _ _ _ _ _ => trivial⟩, fun val h_ W hx he => ⟨⟨57, rfl, rfl⟩, ?_⟩, ?_⟩
         ·exact X_move (v := key) rfl ⟨Upd.refl _ _, rfl⟩
         refine ⟨.det (fun val => (strV (m))), ⟨fun _ _ hv => rfl, fun _ _ _ _ _ => trivial⟩, fun val h_ W hx he => ⟨⟨57, rfl, rfl⟩, ?_⟩, ?_⟩
         ·replace hx := (Upd.drew _ _).trans hx
          replace hk := hk.ext hx
          refine id (X_str (v := key) (l := m) Tryd.underlying23 Tryd.underlying5 Tryd.underlying9 rfl hk ?_)
          exact ⟨Upd.refl _ _, rfl⟩
         refine ⟨.det (fun val => (.bool (true))), ⟨fun _ _ hv => rfl, fun _ _ _ _ _ => trivial⟩, fun val h_ W hx he => ⟨⟨57, rfl, rfl⟩, ?_⟩, ?_⟩
         ·exact X_scmp (a := ep.2) (b := m) (r := true) rfl rfl rfl hs11 ⟨Upd.refl _ _, rfl⟩
         refine ⟨.det (fun val => (.bool (true))), ⟨fun _ _ hv => rfl, fun _ _ _ _ _ => trivial⟩, fun val h_ W hx he => ⟨trivial, ?_⟩, ?_⟩
         ·exact X_pick (t := true) (v := (.bool (true))) rfl rfl ⟨Upd.refl _ _, rfl⟩
         refine ⟨.det (fun val => (.bool (true))), ⟨fun _ _ hv => rfl, fun _ _ _ _ _ => trivial⟩, fun val h_ W hx he => ⟨trivial, ?_⟩, ?_⟩
         ·exact X_move (v := (.bool (true))) rfl ⟨Upd.refl _ _, rfl⟩
         refine ⟨.det (fun val => (.bool (ev))), ⟨fun _ _ hv => rfl, fun _ _ _ _ _ => trivial⟩, fun val h_ W hx he => ⟨⟨68, rfl, rfl⟩, ?_⟩, ?_⟩
         ·exact X_move (v := (.bool (ev))) rfl ⟨Upd.refl _ _, rfl⟩
         refine ⟨.det (fun val => vv), ⟨fun _ _ hv => rfl, fun _ _ _ _ _ => trivial⟩, fun val h_ W hx he => ⟨⟨68, rfl, rfl⟩, ?_⟩, ?_⟩
         ·exact X_move (v := vv) rfl ⟨Upd.refl _ _, rfl⟩
         refine ⟨.det (fun val => (.int .i64 (((i : Nat) : Int)))), ⟨fun _ _ hv => rfl, fun _ _ _ _ _ => trivial⟩, fun val h_ W hx he => ⟨⟨68, rfl, rfl⟩, ?_⟩, ?_⟩
         ·exact X_move (v := (.int .i64 (((i : Nat) : Int)))) rfl ⟨Upd.refl _ _, rfl⟩
         refine ⟨.det (fun val => (.int .i64 ((((i : Nat) : Int) - 1 : Int)))), ⟨fun _ _ hv => rfl, fun _ _ _ _ _ => trivial⟩, fun val h_ W hx he => ⟨⟨68, rfl, rfl⟩, ?_⟩, ?_⟩
         ·exact X_arith (k := .i64) (a := ((i : Nat) : Int)) (b := 1) (r := (((i : Nat) : Int) - 1 : Int)) rfl rfl rfl (isub64 rfl (by omega) (by omega)) ⟨Upd.refl _ _, rfl⟩
         refine ⟨.det (fun val => (pof vv (((((i : Nat) : Int) - 1 : Int) : Int).toNat * 1))), ⟨fun _ _ hv => rfl, fun _ _ _ _ _ => trivial⟩, fun val h_ W hx he => ⟨⟨68, rfl, rfl⟩, ?_⟩, ?_⟩
         ·replace hx := (Upd.drew _ _).trans hx
          replace hV := hV.ext hx
          refine id (X_idx (v := vv) (n := fs.length) (k := .i64) (i := (((i : Nat) : Int) - 1 : Int)) S22 rfl hV.sv rfl (by omega) (by omega) ?_)
          exact ⟨Upd.refl _ _, rfl⟩
         refine ⟨.det (fun val => fp.1), ⟨fun _ _ hv => rfl, fun _ _ _ _ _ => trivial⟩, fun val h_ W hx he => ⟨⟨68, rfl, rfl⟩, ?_⟩, ?_⟩
         ·replace hx := (Upd.drew _ _).trans hx
          replace hV := hV.ext hx
          refine id (X_load (v := fp.1) T23 rfl (bkey hV ((by omega)) hfp) ?_)
          exact ⟨Upd.refl _ _, rfl⟩
         refine ⟨.det (fun val => (.int .i64 (((fp.2.length : Nat) : Int)))), ⟨fun _ _ hv => rfl, fun _ _ _ _ _ => trivial⟩, fun val h_ W hx he => ⟨⟨68, rfl, rfl⟩, ?_⟩, ?_⟩
         ·replace hx := (Upd.drew _ _).trans hx
          replace hV := hV.ext hx
          refine id (X_len (v := fp.1) (n := fp.2.length) Tryd.underlying23 rfl (brd hV hfp).sv ?_)
          exact ⟨Upd.refl _ _, rfl⟩
         refine ⟨.det (fun val => (.bool (false))), ⟨fun _ _ hv => rfl, fun _ _ _ _ _ => trivial⟩, fun val h_ W hx he => ⟨⟨68, rfl, rfl⟩, ?_⟩, ?_⟩
         ·exact X_cmp (k := .i64) (a := ((fp.2.length : Nat) : Int)) (b := 0) (r := false) rfl rfl rfl (decide_eq_false (p := ((((fp.2.length : Nat) : Int)) : Int) = ((0) : Int)) (by omega)) ⟨Upd.refl _ _, rfl⟩
         refine ⟨.det (fun val => (.bool (false))), ⟨fun _ _ hv => rfl, fun _ _ _ _ _ => trivial⟩, fun val h_ W hx he => ⟨⟨68, rfl, rfl⟩, ?_⟩, ?_⟩
         ·exact X_move (v := (.bool (false))) rfl ⟨Upd.refl _ _, rfl⟩
         refine ⟨.det (fun val => vv), ⟨fun _ _ hv => rfl, fun _ _ _ _ _ => trivial⟩, fun val h_ W hx he => ⟨⟨77, rfl, rfl⟩, ?_⟩, ?_⟩
         ·exact X_move (v := vv) rfl ⟨Upd.refl _ _, rfl⟩
         refine ⟨.det (fun val => (.int .i64 (((i : Nat) : Int)))), ⟨fun _ _ hv => rfl, fun _ _ _ _ _ => trivial⟩, fun val h_ W hx he => ⟨⟨77, rfl, rfl⟩, ?_⟩, ?_⟩
         ·exact X_move (v := (.int .i64 (((i : Nat) : Int)))) rfl ⟨Upd.refl _ _, rfl⟩
         refine ⟨.det (fun val => (.int .i64 ((((i : Nat) : Int) - 1 : Int)))), ⟨fun _ _ hv => rfl, fun _ _ _ _ _ => trivial⟩, fun val h_ W hx he => ⟨⟨77, rfl, rfl⟩, ?_⟩, ?_⟩
         ·exact X_arith (k := .i64) (a := ((i : Nat) : Int)) (b := 1) (r := (((i : Nat) : Int) - 1 : Int)) rfl rfl rfl (isub64 rfl (by omega) (by omega)) ⟨Upd.refl _ _, rfl⟩
         refine ⟨.det (fun val => (pof vv (((((i : Nat) : Int) - 1 : Int) : Int).toNat * 1))), ⟨fun _ _ hv => rfl, fun _ _ _ _ _ => trivial⟩, fun val h_ W hx he => ⟨⟨77, rfl, rfl⟩, ?_⟩, ?_⟩
         ·replace hx := (Upd.drew _ _).trans hx
          replace hV := hV.ext hx
          refine id (X_idx (v := vv) (n := fs.length) (k := .i64) (i := (((i : Nat) : Int) - 1 : Int)) S22 rfl hV.sv rfl (by omega) (by omega) ?_)
          exact ⟨Upd.refl _ _, rfl⟩
         refine ⟨.det (fun val => fp.1), ⟨fun _ _ hv => rfl, fun _ _ _ _ _ => trivial⟩, fun val h_ W hx he => ⟨⟨77, rfl, rfl⟩, ?_⟩, ?_⟩
         ·replace hx := (Upd.drew _ _).trans hx
          replace hV := hV.ext hx
          refine id (X_load (v := fp.1) T23 rfl (bkey hV ((by omega)) hfp) ?_)
          exact ⟨Upd.refl _ _, rfl⟩
         refine ⟨.det (fun val => (pof fp.1 ((0 : Int).toNat * 1))), ⟨fun _ _ hv => rfl, fun _ _ _ _ _ => trivial⟩, fun val h_ W hx he => ⟨⟨77, rfl, rfl⟩, ?_⟩, ?_⟩
         ·replace hx := (Upd.drew _ _).trans hx
          replace hV := hV.ext hx
          refine id (X_idx (v := fp.1) (n := fp.2.length) (k := .i64) (i := 0) S23 rfl (brd hV hfp).sv rfl (by omega) (by omega) ?_)
          exact ⟨Upd.refl _ _, rfl⟩
         refine ⟨.det (fun val => (byteV x0)), ⟨fun _ _ hv => rfl, fun _ _ _ _ _ => trivial⟩, fun val h_ W hx he => ⟨⟨77, rfl, rfl⟩, ?_⟩, ?_⟩
         ·replace hx := (Upd.drew _ _).trans hx
          replace hV := hV.ext hx
          refine id (X_load (v := byteV x0) T5 rfl (Rd.cellB (i := 0) (brd hV hfp) hx0) ?_)
          exact ⟨Upd.refl _ _, rfl⟩
         refine ⟨.det (fun val => (.bool (true))), ⟨fun _ _ hv => rfl, fun _ _ _ _ _ => trivial⟩, fun val h_ W hx he => ⟨⟨77, rfl, rfl⟩, ?_⟩, ?_⟩
         ·exact X_cmp (k := .u8) (a := ((x0.toNat : Nat) : Int)) (b := 255) (r := true) rfl rfl rfl (decide_eq_true (p := ((((x0.toNat : Nat) : Int)) : Int) ≠ ((255) : Int)) (by omega)) ⟨Upd.refl _ _, rfl⟩
         refine ⟨.det (fun val => (.bool (true))), ⟨fun _ _ hv => rfl, fun _ _ _ _ _ => trivial⟩, fun val h_ W hx he => ⟨⟨68, rfl, rfl⟩, ?_⟩, ?_⟩
         ·exact X_pick (t := false) (v := (.bool (true))) rfl rfl ⟨Upd.refl _ _, rfl⟩
         intro val W21 hx21 he21
         replace hx21 := (Upd.drew _ _).trans hx21
         have hz21 := hx21.size
         replace hB1 := hB1.ext hx21
         replace hs := hs.ext hx21
         replace hK := hK.ext hx21
         replace hV := hV.ext hx21
         replace hk := hk.ext hx21
         replace hU := hU.trans (Ext.upd hx21)
         replace hYy0 := hYy0.ext hx21
         replace hE := hE.trans hx21
         refine L_gy (dj := 68) rfl rfl rfl (X_cmpBool (a := ev) (b := true) (r := false) Tryd.underlying4 rfl rfl (.inr ⟨rfl, by rw [hev2]; rfl⟩) ?_)
         refine L_op rfl (X_pick (t := true) (v := (.bool (false))) rfl rfl ?_)
         refine L_nil ?_
         refine T_n ?_
         refine W_cf rfl ?_
         refine W_skip ?_
         refine T_n ?_
         exact ⟨rfl, (), hE, (Out.suf rfl rfl), trivial⟩
      ·refine W_draw 32 [[], [0], [0, 1], [0, 1, 2], [0, 1, 2], [0, 1, 2, 4], [0, 1, 2, 3, 4, 5], [0, 1, 2, 3, 4, 5, 6], [0, 1, 2, 3, 4, 5, 6, 7], [0, 1, 2], [0, 1, 2, 9], [0, 1, 2, 3, 4, 5, 6, 7, 8, 9, 10], [0, 1, 2, 3, 4, 5, 6, 7, 8, 9, 10, 11], [0, 1, 2, 3, 4, 5, 6, 7, 8, 9, 10, 11, 12], [0, 1, 2, 3, 4, 5, 6, 7, 8, 9, 10, 11, 12, 13], [0, 1, 2, 3, 4, 5, 6, 7, 8, 9, 10, 11, 12, 13], [0, 1, 2, 3, 4, 5, 6, 7, 8, 9, 10, 11, 12, 13], [0, 1, 2, 3, 4, 5, 6, 7, 8, 9, 10, 11, 12, 13, 16], [0, 1, 2, 3, 4, 5, 6, 7, 8, 9, 10, 11, 12, 13, 15, 16, 17], [0, 1, 2, 3, 4, 5, 6, 7, 8, 9, 10, 11, 12, 13, 15, 16, 17, 18], [0, 1, 2, 3, 4, 5, 6, 7, 8, 9, 10, 11, 12, 13, 15, 16, 17, 18, 19], [0, 1, 2, 3, 4, 5, 6, 7, 8, 9, 10, 11, 12, 13, 15, 16, 17, 18, 19, 20], [0, 1, 2, 3, 4, 5, 6, 7, 8, 9, 10, 11, 12, 13, 15, 16, 17, 18, 19, 20, 21], [0, 1, 2, 3, 4, 5, 6, 7, 8, 9, 10, 11, 12, 13, 15, 16, 17, 18, 19, 20, 21, 22], [0, 1, 2, 3, 4, 5, 6, 7, 8, 9, 10, 11, 12, 13, 15, 16, 17, 18, 19, 20, 21, 22], [0, 1, 2, 3, 4, 5, 6, 7, 8, 9, 10, 11, 12, 13, 15, 16, 17, 18, 19, 20, 21, 22, 24], [0, 1, 2, 3, 4, 5, 6, 7, 8, 9, 10, 11, 12, 13, 15, 16, 17, 18, 19, 20, 21, 22, 23, 24, 25], [0, 1, 2, 3, 4, 5, 6, 7, 8, 9, 10, 11, 12, 13, 15, 16, 17, 18, 19, 20, 21, 22, 23, 24, 25, 26], [0, 1, 2, 3, 4, 5, 6, 7, 8, 9, 10, 11, 12, 13, 15, 16, 17, 18, 19, 20, 21, 22, 23, 24, 25, 26, 27], [0, 1, 2, 3, 4, 5, 6, 7, 8, 9, 10, 11, 12, 13, 15, 16, 17, 18, 19, 20, 21, 22, 23, 24, 25, 26, 27, 28], [0, 1, 2, 3, 4, 5, 6, 7, 8, 9, 10, 11, 12, 13, 15, 16, 17, 18, 19, 20, 21, 22, 23, 24, 25, 26, 27, 28, 29], [0, 1, 2, 3, 4, 5, 6, 7, 8, 9, 10, 11, 12, 13, 15, 16, 17, 18, 19, 20, 21, 22, 23, 24, 25, 26, 27, 28, 29, 30], [0, 1, 2, 3, 4, 5, 6, 7, 8, 9, 10, 11, 12, 13, 14, 15, 16, 17, 18, 19, 20, 21, 22, 23, 24, 25, 26, 27, 28, 29, 30, 31], [0, 1, 2, 3, 4, 5, 6, 7, 8, 9, 10, 11, 12, 13, 14, 15, 16, 17, 18, 19, 20, 21, 22, 23, 24, 25, 26, 27, 28, 29, 30, 31, 32]] mixed (by kernel_rfl) ?_
       refine ⟨.det (fun val => (.int .i64 (((i : Nat) : Int)))), ⟨fun _ _ hv => rfl, fun _ _ _ _ _ => trivial⟩, fun val h_ W hx he => ⟨trivial, ?_⟩, ?_⟩
       ·exact X_move (v := (.int .i64 (((i : Nat) : Int)))) rfl ⟨Upd.refl _ _, rfl⟩
       refine ⟨.det (fun val => (.bool (true))), ⟨fun _ _ hv => rfl, fun _ _ _ _ _ => trivial⟩, fun val h_ W hx he => ⟨trivial, ?_⟩, ?_⟩
       ·exact X_cmp (k := .i64) (a := ((i : Nat) : Int)) (b := 0) (r := true) rfl rfl rfl (decide_eq_true (p := ((0) : Int) < ((((i : Nat) : Int)) : Int)) (by omega)) ⟨Upd.refl _ _, rfl⟩
       refine ⟨.det (fun val => (.bool (true))), ⟨fun _ _ hv => rfl, fun _ _ _ _ _ => trivial⟩, fun val h_ W hx he => ⟨trivial, ?_⟩, ?_⟩
       ·exact X_move (v := (.bool (true))) rfl ⟨Upd.refl _ _, rfl⟩
       refine ⟨.det (fun val => kv), ⟨fun _ _ hv => rfl, fun _ _ _ _ _ => trivial⟩, fun val h_ W hx he => ⟨⟨57, rfl, rfl⟩, ?_⟩, ?_⟩
       ·exact X_move (v := kv) rfl ⟨Upd.refl _ _, rfl⟩
       refine ⟨.det (fun val => (.int .i64 (((i : Nat) : Int)))), ⟨fun _ _ hv => rfl, fun _ _ _ _ _ => trivial⟩, fun val h_ W hx he => ⟨⟨57, rfl, rfl⟩, ?_⟩, ?_⟩
       ·exact X_move (v := (.int .i64 (((i : Nat) : Int)))) rfl ⟨Upd.refl _ _, rfl⟩
       refine ⟨.det (fun val => (.int .i64 ((((i : Nat) : Int) - 1 : Int)))), ⟨fun _ _ hv => rfl, fun _ _ _ _ _ => trivial⟩, fun val h_ W hx he => ⟨⟨57, rfl, rfl⟩, ?_⟩, ?_⟩
       ·exact X_arith (k := .i64) (a := ((i : Nat) : Int)) (b := 1) (r := (((i : Nat) : Int) - 1 : Int)) rfl rfl rfl (isub64 rfl (by omega) (by omega)) ⟨Upd.refl _ _, rfl⟩
       refine ⟨.det (fun val => (pof kv (((((i : Nat) : Int) - 1 : Int) : Int).toNat * 1))), ⟨fun _ _ hv => rfl, fun _ _ _ _ _ => trivial⟩, fun val h_ W hx he => ⟨⟨57, rfl, rfl⟩, ?_⟩, ?_⟩
       ·replace hx := (Upd.drew _ _).trans hx
        replace hK := hK.ext hx
        refine id (X_idx (v := kv) (n := es.length) (k := .i64) (i := (((i : Nat) : Int) - 1 : Int)) S22 rfl hK.sv rfl (by omega) (by omega) ?_)
        exact ⟨Upd.refl _ _, rfl⟩
       refine ⟨.det (fun val => ep.1), ⟨fun _ _ hv => rfl, fun _ _ _ _ _ => trivial⟩, fun val h_ W hx he => ⟨⟨57, rfl, rfl⟩, ?_⟩, ?_⟩
       ·replace hx := (Upd.drew _ _).trans hx
        replace hK := hK.ext hx
        refine id (X_load (v := ep.1) T23 rfl (bkey hK ((by omega)) hep) ?_)
        exact ⟨Upd.refl _ _, rfl⟩
       refine ⟨.det (fun val => (strV (ep.2))), ⟨fun _ _ hv => rfl, fun _ _ _ _ _ => trivial⟩, fun val h_ W hx he => ⟨⟨57, rfl, rfl⟩, ?_⟩, ?_⟩
       ·replace hx := (Upd.drew _ _).trans hx
        replace hK := hK.ext hx
        refine id (X_str (v := ep.1) (l := ep.2) Tryd.underlying23 Tryd.underlying5 Tryd.underlying9 rfl (brd hK hep) ?_)
        exact ⟨Upd.refl _ _, rfl⟩
       refine ⟨.det (fun val => key), ⟨fun _ _ hv => rfl, fun _ _ _ _ _ => trivial⟩, fun val h_ W hx he => ⟨⟨57, rfl, rfl⟩, ?_⟩, ?_⟩
       ·exact X_move (v := key) rfl ⟨Upd.refl _ _, rfl⟩
       refine ⟨.det (fun val => (strV (m))), ⟨fun _ _ hv => rfl, fun _ _ _ _ _ => trivial⟩, fun val h_ W hx he => ⟨⟨57, rfl, rfl⟩, ?_⟩, ?_⟩
       ·replace hx := (Upd.drew _ _).trans hx
        replace hk := hk.ext hx
        refine id (X_str (v := key) (l := m) Tryd.underlying23 Tryd.underlying5 Tryd.underlying9 rfl hk ?_)
        exact ⟨Upd.refl _ _, rfl⟩
       refine ⟨.det (fun val => (.bool (false))), ⟨fun _ _ hv => rfl, fun _ _ _ _ _ => trivial⟩, fun val h_ W hx he => ⟨⟨57, rfl, rfl⟩, ?_⟩, ?_⟩
       ·exact X_scmp (a := ep.2) (b := m) (r := false) rfl rfl rfl hs11 ⟨Upd.refl _ _, rfl⟩
       refine ⟨.det (fun val => (.bool (false))), ⟨fun _ _ hv => rfl, fun _ _ _ _ _ => trivial⟩, fun val h_ W hx he => ⟨trivial, ?_⟩, ?_⟩
       ·exact X_pick (t := true) (v := (.bool (false))) rfl rfl ⟨Upd.refl _ _, rfl⟩
       refine ⟨.det (fun val => (.bool (false))), ⟨fun _ _ hv => rfl, fun _ _ _ _ _ => trivial⟩, fun val h_ W hx he => ⟨trivial, ?_⟩, ?_⟩
       ·exact X_move (v := (.bool (false))) rfl ⟨Upd.refl _ _, rfl⟩
       refine ⟨.no, ⟨fun _ _ _ => trivial, fun _ _ _ _ _ => trivial⟩, fun val h_ W hx he => ⟨68, rfl, .inl rfl⟩, ?_⟩
       refine ⟨.no, ⟨fun _ _ _ => trivial, fun _ _ _ _ _ => trivial⟩, fun val h_ W hx he => ⟨68, rfl, .inl rfl⟩, ?_⟩
       refine ⟨.no, ⟨fun _ _ _ => trivial, fun _ _ _ _ _ => trivial⟩, fun val h_ W hx he => ⟨68, rfl, .inl rfl⟩, ?_⟩
       refine ⟨.no, ⟨fun _ _ _ => trivial, fun _ _ _ _ _ => trivial⟩, fun val h_ W hx he => ⟨68, rfl, .inl rfl⟩, ?_⟩
       refine ⟨.no, ⟨fun _ _ _ => trivial, fun _ _ _ _ _ => trivial⟩, fun val h_ W hx he => ⟨68, rfl, .inl rfl⟩, ?_⟩
       refine ⟨.no, ⟨fun _ _ _ => trivial, fun _ _ _ _ _ => trivial⟩, fun val h_ W hx he => ⟨68, rfl, .inl rfl⟩, ?_⟩
       refine ⟨.no, ⟨fun _ _ _ => trivial, fun _ _ _ _ _ => trivial⟩, fun val h_ W hx he => ⟨68, rfl, .inl rfl⟩, ?_⟩
       refine ⟨.no, ⟨fun _ _ _ => trivial, fun _ _ _ _ _ => trivial⟩, fun val h_ W hx he => ⟨68, rfl, .inl rfl⟩, ?_⟩
       refine ⟨.no, ⟨fun _ _ _ => trivial, fun _ _ _ _ _ => trivial⟩, fun val h_ W hx he => ⟨68, rfl, .inl rfl⟩, ?_⟩
       refine ⟨.no, ⟨fun _ _ _ => trivial, fun _ _ _ _ _ => trivial⟩, fun val h_ W hx he => ⟨77, rfl, .inr rfl⟩, ?_⟩
       refine ⟨.no, ⟨fun _ _ _ => trivial, fun _ _ _ _ _ => trivial⟩, fun val h_ W hx he => ⟨77, rfl, .inr rfl⟩, ?_⟩
       refine ⟨.no, ⟨fun _ _ _ => trivial, fun _ _ _ _ _ => trivial⟩, fun val h_ W hx he => ⟨77, rfl, .inr rfl⟩, ?_⟩
       refine ⟨.no, ⟨fun _ _ _ => trivial, fun _ _ _ _ _ => trivial⟩, fun val h_ W hx he => ⟨77, rfl, .inr rfl⟩, ?_⟩
       refine ⟨.no, ⟨fun _ _ _ => trivial, fun _ _ _ _ _ => trivial⟩, fun val h_ W hx he => ⟨77, rfl, .inr rfl⟩, ?_⟩
       refine ⟨.no, ⟨fun _ _ _ => trivial, fun _ _ _ _ _ => trivial⟩, fun val h_ W hx he => ⟨77, rfl, .inr rfl⟩, ?_⟩
       refine ⟨.no, ⟨fun _ _ _ => trivial, fun _ _ _ _ _ => trivial⟩, fun val h_ W hx he => ⟨77, rfl, .inr rfl⟩, ?_⟩
       refine ⟨.no, ⟨fun _ _ _ => trivial, fun _ _ _ _ _ => trivial⟩, fun val h_ W hx he => ⟨77, rfl, .inr rfl⟩, ?_⟩
       refine ⟨.no, ⟨fun _ _ _ => trivial, fun _ _ _ _ _ => trivial⟩, fun val h_ W hx he => ⟨68, rfl, .inl rfl⟩, ?_⟩
       intro val W25 hx25 he25
       replace hx25 := (Upd.drew _ _).trans hx25
       have hz25 := hx25.size
       replace hB1 := hB1.ext hx25
       replace hs := hs.ext hx25
       replace hK := hK.ext hx25
       replace hV := hV.ext hx25
       replace hk := hk.ext hx25
       replace hU := hU.trans (Ext.upd hx25)
       replace hYy0 := hYy0.ext hx25
       replace hE := hE.trans hx25
       refine L_gn (dj := 68) (t := false) rfl rfl rfl rfl ?_
       refine L_op rfl (X_pick (t := false) (v := (.bool (false))) rfl rfl ?_)
       refine L_nil ?_
       refine T_n ?_
       refine W_cf rfl ?_
       refine W_skip ?_
       refine T_n ?_
       exact ⟨rfl, (), hE, (Out.suf rfl rfl), trivial⟩
     ·have hi0 := of_decide_eq_false hs10
      refine W_draw 32 [[], [0], [0, 1], [0, 1, 2], [0, 1, 2], [0, 1, 2, 4], [0, 1, 2, 3, 4, 5], [0, 1, 2, 3, 4, 5, 6], [0, 1, 2, 3, 4, 5, 6, 7], [0, 1, 2], [0, 1, 2, 9], [0, 1, 2, 3, 4, 5, 6, 7, 8, 9, 10], [0, 1, 2, 3, 4, 5, 6, 7, 8, 9, 10, 11], [0, 1, 2, 3, 4, 5, 6, 7, 8, 9, 10, 11, 12], [0, 1, 2, 3, 4, 5, 6, 7, 8, 9, 10, 11, 12, 13], [0, 1, 2, 3, 4, 5, 6, 7, 8, 9, 10, 11, 12, 13], [0, 1, 2, 3, 4, 5, 6, 7, 8, 9, 10, 11, 12, 13], [0, 1, 2, 3, 4, 5, 6, 7, 8, 9, 10, 11, 12, 13, 16], [0, 1, 2, 3, 4, 5, 6, 7, 8, 9, 10, 11, 12, 13, 15, 16, 17], [0, 1, 2, 3, 4, 5, 6, 7, 8, 9, 10, 11, 12, 13, 15, 16, 17, 18], [0, 1, 2, 3, 4, 5, 6, 7, 8, 9, 10, 11, 12, 13, 15, 16, 17, 18, 19], [0, 1, 2, 3, 4, 5, 6, 7, 8, 9, 10, 11, 12, 13, 15, 16, 17, 18, 19, 20], [0, 1, 2, 3, 4, 5, 6, 7, 8, 9, 10, 11, 12, 13, 15, 16, 17, 18, 19, 20, 21], [0, 1, 2, 3, 4, 5, 6, 7, 8, 9, 10, 11, 12, 13, 15, 16, 17, 18, 19, 20, 21, 22], [0, 1, 2, 3, 4, 5, 6, 7, 8, 9, 10, 11, 12, 13, 15, 16, 17, 18, 19, 20, 21, 22], [0, 1, 2, 3, 4, 5, 6, 7, 8, 9, 10, 11, 12, 13, 15, 16, 17, 18, 19, 20, 21, 22, 24], [0, 1, 2, 3, 4, 5, 6, 7, 8, 9, 10, 11, 12, 13, 15, 16, 17, 18, 19, 20, 21, 22, 23, 24, 25], [0, 1, 2, 3, 4, 5, 6, 7, 8, 9, 10, 11, 12, 13, 15, 16, 17, 18, 19, 20, 21, 22, 23, 24, 25, 26], [0, 1, 2, 3, 4, 5, 6, 7, 8, 9, 10, 11, 12, 13, 15, 16, 17, 18, 19, 20, 21, 22, 23, 24, 25, 26, 27], [0, 1, 2, 3, 4, 5, 6, 7, 8, 9, 10, 11, 12, 13, 15, 16, 17, 18, 19, 20, 21, 22, 23, 24, 25, 26, 27, 28], [0, 1, 2, 3, 4, 5, 6, 7, 8, 9, 10, 11, 12, 13, 15, 16, 17, 18, 19, 20, 21, 22, 23, 24, 25, 26, 27, 28, 29], [0, 1, 2, 3, 4, 5, 6, 7, 8, 9, 10, 11, 12, 13, 15, 16, 17, 18, 19, 20, 21, 22, 23, 24, 25, 26, 27, 28, 29, 30], [0, 1, 2, 3, 4, 5, 6, 7, 8, 9, 10, 11, 12, 13, 14, 15, 16, 17, 18, 19, 20, 21, 22, 23, 24, 25, 26, 27, 28, 29, 30, 31], [0, 1, 2, 3, 4, 5, 6, 7, 8, 9, 10, 11, 12, 13, 14, 15, 16, 17, 18, 19, 20, 21, 22, 23, 24, 25, 26, 27, 28, 29, 30, 31, 32]] mixed (by kernel_rfl) ?_
      refine ⟨.det (fun val => (.int .i64 (((i : Nat) : Int)))), ⟨fun _ _ hv => rfl, fun _ _ _ _ _ => trivial⟩, fun val h_ W hx he => ⟨trivial, ?_⟩, ?_⟩
      ·exact X_move (v := (.int .i64 (((i : Nat) : Int)))) rfl ⟨Upd.refl _ _, rfl⟩
      refine ⟨.det (fun val => (.bool (false))), ⟨fun _ _ hv => rfl, fun _ _ _ _ _ => trivial⟩, fun val h_ W hx he => ⟨trivial, ?_⟩, ?_⟩
      ·exact X_cmp (k := .i64) (a := ((i : Nat) : Int)) (b := 0) (r := false) rfl rfl rfl (decide_eq_false (p := ((0) : Int) < ((((i : Nat) : Int)) : Int)) (by omega)) ⟨Upd.refl _ _, rfl⟩
      refine ⟨.det (fun val => (.bool (false))), ⟨fun _ _ hv => rfl, fun _ _ _ _ _ => trivial⟩, fun val h_ W hx he => ⟨trivial, ?_⟩, ?_⟩
      ·exact X_move (v := (.bool (false))) rfl ⟨Upd.refl _ _, rfl⟩
      refine ⟨.no, ⟨fun _ _ _ => trivial, fun _ _ _ _ _ => trivial⟩, fun val h_ W hx he => ⟨57, rfl, .inl rfl⟩, ?_⟩
      refine ⟨.no, ⟨fun _ _ _ => trivial, fun _ _ _ _ _ => trivial⟩, fun val h_ W hx he => ⟨57, rfl, .inl rfl⟩, ?_⟩
      refine ⟨.no, ⟨fun _ _ _ => trivial, fun _ _ _ _ _ => trivial⟩, fun val h_ W hx he => ⟨57, rfl, .inl rfl⟩, ?_⟩
      refine ⟨.no, ⟨fun _ _ _ => trivial, fun _ _ _ _ _ => trivial⟩, fun val h_ W hx he => ⟨57, rfl, .inl rfl⟩, ?_⟩
      refine ⟨.no, ⟨fun _ _ _ => trivial, fun _ _ _ _ _ => trivial⟩, fun val h_ W hx he => ⟨57, rfl, .inl rfl⟩, ?_⟩
      refine ⟨.no, ⟨fun _ _ _ => trivial, fun _ _ _ _ _ => trivial⟩, fun val h_ W hx he => ⟨57, rfl, .inl rfl⟩, ?_⟩
      refine ⟨.no, ⟨fun _ _ _ => trivial, fun _ _ _ _ _ => trivial⟩, fun val h_ W hx he => ⟨57, rfl, .inl rfl⟩, ?_⟩
      refine ⟨.no, ⟨fun _ _ _ => trivial, fun _ _ _ _ _ => trivial⟩, fun val h_ W hx he => ⟨57, rfl, .inl rfl⟩, ?_⟩
      refine ⟨.no, ⟨fun _ _ _ => trivial, fun _ _ _ _ _ => trivial⟩, fun val h_ W hx he => ⟨57, rfl, .inl rfl⟩, ?_⟩
      refine ⟨.det (fun val => (.bool (false))), ⟨fun _ _ hv => rfl, fun _ _ _ _ _ => trivial⟩, fun val h_ W hx he => ⟨trivial, ?_⟩, ?_⟩
      ·exact X_pick (t := false) (v := (.bool (false))) rfl rfl ⟨Upd.refl _ _, rfl⟩
      refine ⟨.det (fun val => (.bool (false))), ⟨fun _ _ hv => rfl, fun _ _ _ _ _ => trivial⟩, fun val h_ W hx he => ⟨trivial, ?_⟩, ?_⟩
      ·exact X_move (v := (.bool (false))) rfl ⟨Upd.refl _ _, rfl⟩
      refine ⟨.no, ⟨fun _ _ _ => trivial, fun _ _ _ _ _ => trivial⟩, fun val h_ W hx he => ⟨68, rfl, .inl rfl⟩, ?_⟩
      refine ⟨.no, ⟨fun _ _ _ => trivial, fun _ _ _ _ _ => trivial⟩, fun val h_ W hx he => ⟨68, rfl, .inl rfl⟩, ?_⟩
      refine ⟨.no, ⟨fun _ _ _ => trivial, fun _ _ _ _ _ => trivial⟩, fun val h_ W hx he => ⟨68, rfl, .inl rfl⟩, ?_⟩
      refine ⟨.no, ⟨fun _ _ _ => trivial, fun _ _ _ _ _ => trivial⟩, fun val h_ W hx he => ⟨68, rfl, .inl rfl⟩, ?_⟩
      refine ⟨.no, ⟨fun _ _ _ => trivial, fun _ _ _ _ _ => trivial⟩, fun val h_ W hx he => ⟨68, rfl, .inl rfl⟩, ?_⟩
      refine ⟨.no, ⟨fun _ _ _ => trivial, fun _ _ _ _ _ => trivial⟩, fun val h_ W hx he => ⟨68, rfl, .inl rfl⟩, ?_⟩
      refine ⟨.no, ⟨fun _ _ _ => trivial, fun _ _ _ _ _ => trivial⟩, fun val h_ W hx he => ⟨68, rfl, .inl rfl⟩, ?_⟩
      refine ⟨.no, ⟨fun _ _ _ => trivial, fun _ _ _ _ _ => trivial⟩, fun val h_ W hx he => ⟨68, rfl, .inl rfl⟩, ?_⟩
      refine ⟨.no, ⟨fun _ _ _ => trivial, fun _ _ _ _ _ => trivial⟩, fun val h_ W hx he => ⟨68, rfl, .inl rfl⟩, ?_⟩
      refine ⟨.no, ⟨fun _ _ _ => trivial, fun _ _ _ _ _ => trivial⟩, fun val h_ W hx he => ⟨77, rfl, .inr rfl⟩, ?_⟩
      refine ⟨.no, ⟨fun _ _ _ => trivial, fun _ _ _ _ _ => trivial⟩, fun val h_ W hx he => ⟨77, rfl, .inr rfl⟩, ?_⟩
      refine ⟨.no, ⟨fun _ _ _ => trivial, fun _ _ _ _ _ => trivial⟩, fun val h_ W hx he => ⟨77, rfl, .inr rfl⟩, ?_⟩
      refine ⟨.no, ⟨fun _ _ _ => trivial, fun _ _ _ _ _ => trivial⟩, fun val h_ W hx he => ⟨77, rfl, .inr rfl⟩, ?_⟩
      refine ⟨.no, ⟨fun _ _ _ => trivial, fun _ _ _ _ _ => trivial⟩, fun val h_ W hx he => ⟨77, rfl, .inr rfl⟩, ?_⟩
      refine ⟨.no, ⟨fun _ _ _ => trivial, fun _ _ _ _ _ => trivial⟩, fun val h_ W hx he => ⟨77, rfl, .inr rfl⟩, ?_⟩
      refine ⟨.no, ⟨fun _ _ _ => trivial, fun _ _ _ _ _ => trivial⟩, fun val h_ W hx he => ⟨77, rfl, .inr rfl⟩, ?_⟩
      refine ⟨.no, ⟨fun _ _ _ => trivial, fun _ _ _ _ _ => trivial⟩, fun val h_ W hx he => ⟨77, rfl, .inr rfl⟩, ?_⟩
      refine ⟨.no, ⟨fun _ _ _ => trivial, fun _ _ _ _ _ => trivial⟩, fun val h_ W hx he => ⟨68, rfl, .inl rfl⟩, ?_⟩
      intro val W27 hx27 he27
      replace hx27 := (Upd.drew _ _).trans hx27
      have hz27 := hx27.size
      replace hB1 := hB1.ext hx27
      replace hs := hs.ext hx27
      replace hK := hK.ext hx27
      replace hV := hV.ext hx27
      replace hk := hk.ext hx27
      replace hU := hU.trans (Ext.upd hx27)
      replace hYy0 := hYy0.ext hx27
      replace hE := hE.trans hx27
      refine L_gn (dj := 68) (t := false) rfl rfl rfl rfl ?_
      refine L_op rfl (X_pick (t := false) (v := (.bool (false))) rfl rfl ?_)
      refine L_nil ?_
      refine T_n ?_
      refine W_cf rfl ?_
      refine W_skip ?_
      refine T_n ?_
      exact ⟨rfl, (), hE, (Out.suf rfl rfl), trivial⟩
    ·rintro _u w9 _ hE8
     have hzc9 := hE8.size
     replace hB1 := hB1.ext hE8
     replace hs := hs.ext hE8
     replace hK := hK.ext hE8
     replace hV := hV.ext hE8
     replace hk := hk.ext hE8
     replace hU := hU.trans (Ext.upd hE8)
     replace hYy0 := hYy0.ext hE8
     refine W_cut (α := Unit) [6, 11, 12, 13, 14, 15, 16, 17, 18, 89, 90, 91, 92, 93, 94, 95, 96, 97, 98, 99, 100, 101, 102, 103, 104, 105, 106, 107, 108, 109, 110, 111, 112, 113, 114, 115, 116, 117, 118, 119, 120, 121, 122, 123, 124, 125, 126, 127, 128, 129, 130, 131, 132, 133, 134, 135, 136, 137, 138, 139, 140, 141, 142, 143, 144, 145, 146, 147, 148, 149, 150, 151, 152, 153, 154, 155, 156, 157, 158, 159, 160, 161, 162, 163] (fun _u => []) (fun _u w_ => putB f.2 = true ∧ w9 = w_) ?_ ?_
     ·refine W_seq ?_
      refine W_reg ?_
      refine L_op rfl (X_move (v := vv) rfl ?_)
      refine L_op rfl (X_move (v := (.int .i64 (((i : Nat) : Int)))) rfl ?_)
      refine L_op rfl (X_idx (v := vv) (n := fs.length) (k := .i64) (i := ((i : Nat) : Int)) S22 rfl hV.sv rfl (by omega) (by omega) ?_)
      refine L_op rfl (X_load (v := f.1) T23 rfl (bkey hV (Int.toNat_natCast _) hf) ?_)
      refine L_op rfl (X_len (v := f.1) (n := f.2.length) Tryd.underlying23 rfl (brd hV hf).sv ?_)
      by_cases hc30 : (((f.2.length : Nat) : Int) : Int) > (0)
      ·refine L_op rfl (X_cmp (k := .i64) (a := ((f.2.length : Nat) : Int)) (b := 0) (r := true) rfl rfl rfl (decide_eq_true (p := ((0) : Int) < ((((f.2.length : Nat) : Int)) : Int)) (by omega)) ?_)
       obtain ⟨x1, hx1⟩ : ∃ x, f.2[0]? = some x := ⟨_, List.getElem?_eq_getElem (by omega)⟩
       refine L_op rfl (X_move (v := (.bool (true))) rfl ?_)
       refine L_gy (dj := 95) rfl rfl rfl (X_move (v := vv) rfl ?_)
       refine L_gy (dj := 95) rfl rfl rfl (X_move (v := (.int .i64 (((i : Nat) : Int)))) rfl ?_)
       refine L_gy (dj := 95) rfl rfl rfl (X_idx (v := vv) (n := fs.length) (k := .i64) (i := ((i : Nat) : Int)) S22 rfl hV.sv rfl (by omega) (by omega) ?_)
       refine L_gy (dj := 95) rfl rfl rfl (X_load (v := f.1) T23 rfl (bkey hV (Int.toNat_natCast _) hf) ?_)
       refine L_gy (dj := 95) rfl rfl rfl (X_idx (v := f.1) (n := f.2.length) (k := .i64) (i := 0) S23 rfl (brd hV hf).sv rfl (by omega) (by omega) ?_)
       refine L_gy (dj := 95) rfl rfl rfl (X_load (v := byteV x1) T5 rfl (Rd.cellB (i := 0) (brd hV hf) hx1) ?_)
       by_cases hc32 : (((x1.toNat : Nat) : Int) : Int) = (255)
       ·refine L_gy (dj := 95) rfl rfl rfl (X_cmp (k := .u8) (a := ((x1.toNat : Nat) : Int)) (b := 255) (r := true) rfl rfl rfl (decide_eq_true (p := ((((x1.toNat : Nat) : Int)) : Int) = ((255) : Int)) (by omega)) ?_)
        have hpb2 : putB f.2 = false := by rw [putB_at hx1, u8_255.1 hc32]; rfl
        refine L_op rfl (X_pick (t := true) (v := (.bool (true))) rfl rfl ?_)
        refine L_nil ?_
        refine T_n ?_
        refine W_ct rfl ?_
        refine W_seq ?_
        obtain ⟨N9, hN9⟩ : ∃ n, n = w9.heap.size := ⟨_, rfl⟩
        refine W_draw 10 [[], [], [], [1, 2], [1, 2, 3], [0, 1, 2, 3, 4], [0, 1, 2, 3, 4, 5], [0, 1, 2, 3, 4, 5, 6], [0, 1, 2, 3, 4, 5, 6], [0, 1, 2, 3, 4, 5, 6, 7], [0, 1, 2, 3, 4, 5, 6, 7, 8, 9]] mixed (by kernel_rfl) ?_
        refine ⟨.det (fun val => (.agg ([(.int .u32 (s.tx)), s.kv, s.vv, (.int .u8 (s.mr)), (.int .u8 (s.lv))]).toArray)), ⟨fun _ _ hv => rfl, fun _ _ _ _ _ => trivial⟩, fun val h_ W hx he => ⟨trivial, ?_⟩, ?_⟩
        ·replace hx := (Upd.drew _ _).trans hx
         replace hB1 := hB1.ext hx
         refine id (X_loadA (p := (ptr b1 (0))) (xs := [(.int .u32 (s.tx)), s.kv, s.vv, (.int .u8 (s.mr)), (.int .u8 (s.lv))]) A27 rfl hB1.atAll rfl ?_)
         exact ⟨Upd.refl _ _, rfl⟩
        refine ⟨.det (fun val => kv), ⟨fun _ _ hv => rfl, fun _ _ _ _ _ => trivial⟩, fun val h_ W hx he => ⟨trivial, ?_⟩, ?_⟩
        ·exact X_move (v := kv) rfl ⟨Upd.refl _ _, rfl⟩
        refine ⟨.det (fun val => (.int .i64 (((i : Nat) : Int)))), ⟨fun _ _ hv => rfl, fun _ _ _ _ _ => trivial⟩, fun val h_ W hx he => ⟨trivial, ?_⟩, ?_⟩
        ·exact X_move (v := (.int .i64 (((i : Nat) : Int)))) rfl ⟨Upd.refl _ _, rfl⟩
        refine ⟨.det (fun val => (pof kv ((((i : Nat) : Int) : Int).toNat * 1))), ⟨fun _ _ hv => rfl, fun _ _ _ _ _ => trivial⟩, fun val h_ W hx he => ⟨trivial, ?_⟩, ?_⟩
        ·replace hx := (Upd.drew _ _).trans hx
         replace hK := hK.ext hx
         refine id (X_idx (v := kv) (n := es.length) (k := .i64) (i := ((i : Nat) : Int)) S22 rfl hK.sv rfl (by omega) (by omega) ?_)
         exact ⟨Upd.refl _ _, rfl⟩
        refine ⟨.det (fun val => e.1), ⟨fun _ _ hv => rfl, fun _ _ _ _ _ => trivial⟩, fun val h_ W hx he => ⟨trivial, ?_⟩, ?_⟩
        ·replace hx := (Upd.drew _ _).trans hx
         replace hK := hK.ext hx
         refine id (X_load (v := e.1) T23 rfl (bkey hK (Int.toNat_natCast _) hei) ?_)
         exact ⟨Upd.refl _ _, rfl⟩
        refine ⟨.abs (fun _ x_ W_ => ∃ y u, x_ = .tuple #[y, .bool (getO (bl s.ks) (bl s.vs) e.2).isSome] ∧ BOwn W_ 5 N9 u (y, ((getO (bl s.ks) (bl s.vs) e.2).getD [])) ∧ u ≤ W_.heap.size), ⟨fun _ _ _ => rfl, fun _ _ _ _ hu h => (by obtain ⟨y, u, h1, h2, h3⟩ := h; exact ⟨y, u, h1, BOwn.ext h2 hu, Nat.le_trans h3 hu.size⟩)⟩, fun val h_ W hx he => ⟨trivial, ?_⟩, ?_⟩
        ·replace hx := (Upd.drew _ _).trans hx
         replace hs := hs.ext hx
         replace hK := hK.ext hx
         have hxz := hx.size
         have hcr_ := c_get s W (b1 + 1) U_ (by omega) hs e.1 e.2 hel (brd hK hei)
         rw [show (getO (bl s.ks) (bl s.vs) e.2).isSome = (getO (bl s.ks) (bl s.vs) e.2).isSome from rfl] at hcr_
         refine X_fn (vs := [(.agg #[(.int .u32 (s.tx)), s.kv, s.vv, (.int .u8 (s.mr)), (.int .u8 (s.lv))]), e.1]) en5 rfl ?_
         refine CT.mono hcr_ ?_
         rintro v9 w9 ⟨y, rfl, hY, hu9⟩
         exact ⟨hu9, y, _, rfl, hY.mono (lo' := N9) (by omega) (Nat.le_refl _), Nat.le_refl _⟩
        refine ⟨.det (fun val => (val 5)), ⟨fun _ _ hv => (by simp only [hv 5 rfl]), fun _ _ _ _ _ => trivial⟩, fun val h_ W hx he => ⟨trivial, ?_⟩, ?_⟩
        ·obtain ⟨⟨y1, uy1, hvy1, hYy1, hly1_⟩, he⟩ := he
         have hty1 : tupAt (val 5) 0 = y1 := by rw [hvy1]; rfl
         rw [← hty1] at hYy1
         replace hYy1 := BOwn.rd hYy1
         refine id (X_move (v := (val 5)) rfl ?_)
         exact ⟨Upd.refl _ _, rfl⟩
        refine ⟨.det (fun val => tupAt (val 5) 0), ⟨fun _ _ hv => (by simp only [hv 5 rfl]), fun _ _ _ _ _ => trivial⟩, fun val h_ W hx he => ⟨trivial, ?_⟩, ?_⟩
        ·obtain ⟨⟨y, u9, hv9, hY9, hu9_⟩, _⟩ := he
         refine X_extract (l := [y, .bool (getO (bl s.ks) (bl s.vs) e.2).isSome]) (v := y) hv9 rfl ?_
         exact ⟨Upd.refl _ _, by show y = tupAt (val 5) 0; rw [show val 5 = _ from hv9]; rfl⟩
        refine ⟨.det (fun val => .bool (getO (bl s.ks) (bl s.vs) e.2).isSome), ⟨fun _ _ hv => rfl, fun _ _ _ _ _ => trivial⟩, fun val h_ W hx he => ⟨trivial, ?_⟩, ?_⟩
        ·obtain ⟨⟨y, u9, hv9, hY9, hu9_⟩, _⟩ := he
         refine X_extract (l := [y, .bool (getO (bl s.ks) (bl s.vs) e.2).isSome]) (v := .bool (getO (bl s.ks) (bl s.vs) e.2).isSome) hv9 rfl ?_
         exact ⟨Upd.refl _ _, rfl⟩
        refine ⟨.det (fun val => (tupAt (val 5) 0)), ⟨fun _ _ hv => (by simp only [hv 5 rfl]), fun _ _ _ _ _ => trivial⟩, fun val h_ W hx he => ⟨trivial, ?_⟩, ?_⟩
        ·obtain ⟨⟨y1, uy1, hvy1, hYy1, hly1_⟩, he⟩ := he
         have hty1 : tupAt (val 5) 0 = y1 := by rw [hvy1]; rfl
         rw [← hty1] at hYy1
         replace hYy1 := BOwn.rd hYy1
         refine id (X_assign (v := (tupAt (val 5) 0)) rfl ?_)
         exact ⟨Upd.refl _ _, rfl⟩
        intro v11_ W33 hx33 he33
        replace hx33 := (Upd.drew _ _).trans hx33
        have hz33 := hx33.size
        replace hB1 := hB1.ext hx33
        replace hs := hs.ext hx33
        replace hK := hK.ext hx33
        replace hV := hV.ext hx33
        replace hk := hk.ext hx33
        replace hU := hU.trans (Ext.upd hx33)
        replace hYy0 := hYy0.ext hx33
        obtain ⟨⟨y1, uy1, hvy1, hYy1, hly1_⟩, he33⟩ := he33
        have hty1 : tupAt (v11_ 5) 0 = y1 := by rw [hvy1]; rfl
        rw [← hty1] at hYy1
        replace hYy1 := BOwn.rd hYy1
        refine L_op rfl (X_assign (v := (.bool ((getO (bl s.ks) (bl s.vs) e.2).isSome))) rfl ?_)
        refine L_nil ?_
        refine T_n ?_
        refine W_seq ?_
        obtain ⟨N, hN⟩ : ∃ n, n = W33.heap.size := ⟨_, rfl⟩
        have hB1_l := hB1.lt
        refine W_drawQ 11 [[], [], [], [1, 2], [1, 2, 3], [0, 1, 2, 3, 4], [0, 1, 2, 3, 4, 5], [0, 1, 2, 3, 4, 5, 6], [0, 1, 2, 3, 4, 5, 6], [], [0, 1, 2, 3, 4, 5, 6, 7, 9], [0, 1, 2, 3, 4, 5, 6, 7, 8, 9, 10]] (RTy 27 N) (famT 27 N 10) (rty_pre 27 N) famT_sub mixed (by kernel_rfl) ?_
        refine ⟨.det (fun val => (.agg ([(.int .u32 (s.tx)), s.kv, s.vv, (.int .u8 (s.mr)), (.int .u8 (s.lv))]).toArray)), ⟨fun _ _ hv => rfl, fun _ _ _ _ _ => trivial⟩, fun val h_ W hx he => ⟨trivial, ?_⟩, ?_⟩
        ·replace hx := (rty_pre 27 N).trans (RTy.ext (Upd.drew _ _)) hx
         have hxu := hx.upd
         have hxs := hx.size
         replace hB1 := hB1.upd hxu fun h => by have h : N ≤ b1 := h; omega
         replace hs := hs.upd hxu fun i h1 h2 h => by have h : N ≤ i := h; omega
         replace hK := hK.upd hxu fun i h1 h2 h => by have h : N ≤ i := h; omega
         replace hV := hV.upd hxu fun i h1 h2 h => by have h : N ≤ i := h; omega
         replace hk := hk.upd hxu fun i hi h => by have hi := hk_b _ hi; have h : N ≤ i := h; omega
         replace hYy0 := hYy0.upd hxu fun i h1 h2 h => by have h : N ≤ i := h; omega
         replace hYy1 := hYy1.upd hxu fun i h1 h2 h => by have h : N ≤ i := h; omega
         have hE := Upd.refl (fun _ => False) W
         refine id (X_loadA (p := (ptr b1 (0))) (xs := [(.int .u32 (s.tx)), s.kv, s.vv, (.int .u8 (s.mr)), (.int .u8 (s.lv))]) A27 rfl hB1.atAll rfl ?_)
         exact ⟨hE, rfl⟩
        refine ⟨.det (fun val => kv), ⟨fun _ _ hv => rfl, fun _ _ _ _ _ => trivial⟩, fun val h_ W hx he => ⟨trivial, ?_⟩, ?_⟩
        ·replace hx := (rty_pre 27 N).trans (RTy.ext (Upd.drew _ _)) hx
         have hxu := hx.upd
         have hxs := hx.size
         replace hB1 := hB1.upd hxu fun h => by have h : N ≤ b1 := h; omega
         replace hs := hs.upd hxu fun i h1 h2 h => by have h : N ≤ i := h; omega
         replace hK := hK.upd hxu fun i h1 h2 h => by have h : N ≤ i := h; omega
         replace hV := hV.upd hxu fun i h1 h2 h => by have h : N ≤ i := h; omega
         replace hk := hk.upd hxu fun i hi h => by have hi := hk_b _ hi; have h : N ≤ i := h; omega
         replace hYy0 := hYy0.upd hxu fun i h1 h2 h => by have h : N ≤ i := h; omega
         replace hYy1 := hYy1.upd hxu fun i h1 h2 h => by have h : N ≤ i := h; omega
         have hE := Upd.refl (fun _ => False) W
         refine id (X_move (v := kv) rfl ?_)
         exact ⟨hE, rfl⟩
        refine ⟨.det (fun val => (.int .i64 (((i : Nat) : Int)))), ⟨fun _ _ hv => rfl, fun _ _ _ _ _ => trivial⟩, fun val h_ W hx he => ⟨trivial, ?_⟩, ?_⟩
        ·replace hx := (rty_pre 27 N).trans (RTy.ext (Upd.drew _ _)) hx
         have hxu := hx.upd
         have hxs := hx.size
         replace hB1 := hB1.upd hxu fun h => by have h : N ≤ b1 := h; omega
         replace hs := hs.upd hxu fun i h1 h2 h => by have h : N ≤ i := h; omega
         replace hK := hK.upd hxu fun i h1 h2 h => by have h : N ≤ i := h; omega
         replace hV := hV.upd hxu fun i h1 h2 h => by have h : N ≤ i := h; omega
         replace hk := hk.upd hxu fun i hi h => by have hi := hk_b _ hi; have h : N ≤ i := h; omega
         replace hYy0 := hYy0.upd hxu fun i h1 h2 h => by have h : N ≤ i := h; omega
         replace hYy1 := hYy1.upd hxu fun i h1 h2 h => by have h : N ≤ i := h; omega
         have hE := Upd.refl (fun _ => False) W
         refine id (X_move (v := (.int .i64 (((i : Nat) : Int)))) rfl ?_)
         exact ⟨hE, rfl⟩
        refine ⟨.det (fun val => (pof kv ((((i : Nat) : Int) : Int).toNat * 1))), ⟨fun _ _ hv => rfl, fun _ _ _ _ _ => trivial⟩, fun val h_ W hx he => ⟨trivial, ?_⟩, ?_⟩
        ·replace hx := (rty_pre 27 N).trans (RTy.ext (Upd.drew _ _)) hx
         have hxu := hx.upd
         have hxs := hx.size
         replace hB1 := hB1.upd hxu fun h => by have h : N ≤ b1 := h; omega
         replace hs := hs.upd hxu fun i h1 h2 h => by have h : N ≤ i := h; omega
         replace hK := hK.upd hxu fun i h1 h2 h => by have h : N ≤ i := h; omega
         replace hV := hV.upd hxu fun i h1 h2 h => by have h : N ≤ i := h; omega
         replace hk := hk.upd hxu fun i hi h => by have hi := hk_b _ hi; have h : N ≤ i := h; omega
         replace hYy0 := hYy0.upd hxu fun i h1 h2 h => by have h : N ≤ i := h; omega
         replace hYy1 := hYy1.upd hxu fun i h1 h2 h => by have h : N ≤ i := h; omega
         have hE := Upd.refl (fun _ => False) W
         refine id (X_idx (v := kv) (n := es.length) (k := .i64) (i := ((i : Nat) : Int)) S22 rfl hK.sv rfl (by omega) (by omega) ?_)
         exact ⟨hE, rfl⟩
        refine ⟨.det (fun val => e.1), ⟨fun _ _ hv => rfl, fun _ _ _ _ _ => trivial⟩, fun val h_ W hx he => ⟨trivial, ?_⟩, ?_⟩
        ·replace hx := (rty_pre 27 N).trans (RTy.ext (Upd.drew _ _)) hx
         have hxu := hx.upd
         have hxs := hx.size
         replace hB1 := hB1.upd hxu fun h => by have h : N ≤ b1 := h; omega
         replace hs := hs.upd hxu fun i h1 h2 h => by have h : N ≤ i := h; omega
         replace hK := hK.upd hxu fun i h1 h2 h => by have h : N ≤ i := h; omega
         replace hV := hV.upd hxu fun i h1 h2 h => by have h : N ≤ i := h; omega
         replace hk := hk.upd hxu fun i hi h => by have hi := hk_b _ hi; have h : N ≤ i := h; omega
         replace hYy0 := hYy0.upd hxu fun i h1 h2 h => by have h : N ≤ i := h; omega
         replace hYy1 := hYy1.upd hxu fun i h1 h2 h => by have h : N ≤ i := h; omega
         have hE := Upd.refl (fun _ => False) W
         refine id (X_load (v := e.1) T23 rfl (bkey hK (Int.toNat_natCast _) hei) ?_)
         exact ⟨hE, rfl⟩
        refine ⟨.abs (fun _ x_ W_ => ∃ (o : Sn) (t : Bool) (u : Nat), x_ = .tuple #[.agg #[.int .u32 o.tx, o.kv, o.vv, .int .u8 o.mr, .int .u8 o.lv], .bool t] ∧ o.Ow W_ N u ∧ u ≤ W_.heap.size ∧ (atD (bl s.ks) e.2).2 = t ∧ bl o.ks = dropK (bl s.ks) e.2 ∧ bl o.vs = dropV (bl s.ks) (bl s.vs) e.2), ⟨fun _ _ _ => rfl, fun _ _ _ _ hu h => (by obtain ⟨o, t, u, h1, h2, h3, h4⟩ := h; exact ⟨o, t, u, h1, ow_rty h2 (aft_rty hu), Nat.le_trans h3 (aft_rty hu).size, h4⟩)⟩, fun val h_ W hx he => ⟨trivial, ?_⟩, ?_⟩
        ·replace hx := (rty_pre 27 N).trans (RTy.ext (Upd.drew _ _)) hx
         have hxu := hx.upd
         have hxs := hx.size
         replace hB1 := hB1.upd hxu fun h => by have h : N ≤ b1 := h; omega
         replace hs := hs.upd hxu fun i h1 h2 h => by have h : N ≤ i := h; omega
         replace hK := hK.upd hxu fun i h1 h2 h => by have h : N ≤ i := h; omega
         replace hV := hV.upd hxu fun i h1 h2 h => by have h : N ≤ i := h; omega
         replace hk := hk.upd hxu fun i hi h => by have hi := hk_b _ hi; have h : N ≤ i := h; omega
         replace hYy0 := hYy0.upd hxu fun i h1 h2 h => by have h : N ≤ i := h; omega
         replace hYy1 := hYy1.upd hxu fun i h1 h2 h => by have h : N ≤ i := h; omega
         have hcr_ := c_drop s W (b1 + 1) U_ (by omega) hs e.1 e.2 hel (brd hK hei)
         refine X_fn (vs := [(.agg #[(.int .u32 (s.tx)), s.kv, s.vv, (.int .u8 (s.mr)), (.int .u8 (s.lv))]), e.1]) en6 rfl ?_
         refine CT.mono hcr_ ?_
         rintro v9 w9 ⟨o, t, rfl, ⟨hO, _⟩, hat_, hok, hov, hu9⟩
         exact ⟨hu9, o, t, _, rfl, hO.mono (lo' := N) (by omega) (Nat.le_refl _), Nat.le_refl _, hat_, hok, hov⟩
        refine ⟨.det (fun val => (val 5)), ⟨fun _ _ hv => (by simp only [hv 5 rfl]), fun _ _ _ _ _ => trivial⟩, fun val h_ W hx he => ⟨trivial, ?_⟩, ?_⟩
        ·replace hx := (rty_pre 27 N).trans (RTy.ext (Upd.drew _ _)) hx
         have hxu := hx.upd
         have hxs := hx.size
         replace hB1 := hB1.upd hxu fun h => by have h : N ≤ b1 := h; omega
         replace hs := hs.upd hxu fun i h1 h2 h => by have h : N ≤ i := h; omega
         replace hK := hK.upd hxu fun i h1 h2 h => by have h : N ≤ i := h; omega
         replace hV := hV.upd hxu fun i h1 h2 h => by have h : N ≤ i := h; omega
         replace hk := hk.upd hxu fun i hi h => by have hi := hk_b _ hi; have h : N ≤ i := h; omega
         replace hYy0 := hYy0.upd hxu fun i h1 h2 h => by have h : N ≤ i := h; omega
         replace hYy1 := hYy1.upd hxu fun i h1 h2 h => by have h : N ≤ i := h; omega
         obtain ⟨⟨o, dt, uo, hv5, hoW, huo, hdt, hok, hov⟩, _⟩ := he
         have hE := Upd.refl (fun _ => False) W
         refine id (X_move (v := (val 5)) rfl ?_)
         exact ⟨hE, rfl⟩
        refine ⟨.det (fun val => (tupAt (val 5) 0)), ⟨fun _ _ hv => (by simp only [hv 5 rfl]), fun _ _ _ _ _ => trivial⟩, fun val h_ W hx he => ⟨trivial, ?_⟩, ?_⟩
        ·replace hx := (rty_pre 27 N).trans (RTy.ext (Upd.drew _ _)) hx
         have hxu := hx.upd
         have hxs := hx.size
         replace hB1 := hB1.upd hxu fun h => by have h : N ≤ b1 := h; omega
         replace hs := hs.upd hxu fun i h1 h2 h => by have h : N ≤ i := h; omega
         replace hK := hK.upd hxu fun i h1 h2 h => by have h : N ≤ i := h; omega
         replace hV := hV.upd hxu fun i h1 h2 h => by have h : N ≤ i := h; omega
         replace hk := hk.upd hxu fun i hi h => by have hi := hk_b _ hi; have h : N ≤ i := h; omega
         replace hYy0 := hYy0.upd hxu fun i h1 h2 h => by have h : N ≤ i := h; omega
         replace hYy1 := hYy1.upd hxu fun i h1 h2 h => by have h : N ≤ i := h; omega
         obtain ⟨⟨o, dt, uo, hv5, hoW, huo, hdt, hok, hov⟩, _⟩ := he
         refine X_extract (l := [.agg #[.int .u32 o.tx, o.kv, o.vv, .int .u8 o.mr, .int .u8 o.lv], .bool dt]) (v := .agg #[.int .u32 o.tx, o.kv, o.vv, .int .u8 o.mr, .int .u8 o.lv]) hv5 rfl ?_
         exact ⟨Upd.refl _ _, by show .agg #[.int .u32 o.tx, o.kv, o.vv, .int .u8 o.mr, .int .u8 o.lv] = (tupAt (val 5) 0); rw [show val 5 = _ from hv5]; rfl⟩
        refine ⟨.det (fun val => tupAt (val 5) 1), ⟨fun _ _ hv => (by simp only [hv 5 rfl]), fun _ _ _ _ _ => trivial⟩, fun val h_ W hx he => ⟨trivial, ?_⟩, ?_⟩
        ·replace hx := (rty_pre 27 N).trans (RTy.ext (Upd.drew _ _)) hx
         have hxu := hx.upd
         have hxs := hx.size
         replace hB1 := hB1.upd hxu fun h => by have h : N ≤ b1 := h; omega
         replace hs := hs.upd hxu fun i h1 h2 h => by have h : N ≤ i := h; omega
         replace hK := hK.upd hxu fun i h1 h2 h => by have h : N ≤ i := h; omega
         replace hV := hV.upd hxu fun i h1 h2 h => by have h : N ≤ i := h; omega
         replace hk := hk.upd hxu fun i hi h => by have hi := hk_b _ hi; have h : N ≤ i := h; omega
         replace hYy0 := hYy0.upd hxu fun i h1 h2 h => by have h : N ≤ i := h; omega
         replace hYy1 := hYy1.upd hxu fun i h1 h2 h => by have h : N ≤ i := h; omega
         obtain ⟨⟨o, dt, uo, hv5, hoW, huo, hdt, hok, hov⟩, _⟩ := he
         refine X_extract (l := [.agg #[.int .u32 o.tx, o.kv, o.vv, .int .u8 o.mr, .int .u8 o.lv], .bool dt]) (v := .bool dt) hv5 rfl ?_
         exact ⟨Upd.refl _ _, by show .bool dt = tupAt (val 5) 1; rw [show val 5 = _ from hv5]; rfl⟩
        refine ⟨.abs (fun _ x_ W_ => ∃ b, x_ = ptr b 0 ∧ N ≤ b ∧ ∃ c, Blk W_ b c 27 ∧ c.size = 5), ⟨fun _ _ _ => rfl, fun _ _ _ _ hu h => (by obtain ⟨b, h1, h2, h3⟩ := h; exact ⟨b, h1, h2, any_rty h3 (aft_rty hu)⟩)⟩, fun val h_ W hx he => ⟨trivial, ?_⟩, ?_⟩
        ·replace hx := (rty_pre 27 N).trans (RTy.ext (Upd.drew _ _)) hx
         have hxu := hx.upd
         have hxs := hx.size
         replace hB1 := hB1.upd hxu fun h => by have h : N ≤ b1 := h; omega
         replace hs := hs.upd hxu fun i h1 h2 h => by have h : N ≤ i := h; omega
         replace hK := hK.upd hxu fun i h1 h2 h => by have h : N ≤ i := h; omega
         replace hV := hV.upd hxu fun i h1 h2 h => by have h : N ≤ i := h; omega
         replace hk := hk.upd hxu fun i hi h => by have hi := hk_b _ hi; have h : N ≤ i := h; omega
         replace hYy0 := hYy0.upd hxu fun i h1 h2 h => by have h : N ≤ i := h; omega
         replace hYy1 := hYy1.upd hxu fun i h1 h2 h => by have h : N ≤ i := h; omega
         refine X_alloc (z := .agg #[(.int .u32 (0)), (.slice none 0 0), (.slice none 0 0), (.int .u8 (0)), (.int .u8 (0))]) (c := #[(.int .u32 (0)), (.slice none 0 0), (.slice none 0 0), (.int .u8 (0)), (.int .u8 (0))]) Zv27 rfl ?_
         intro b9 w9 hn9
         have hb9 := hn9.num
         exact ⟨hn9.ext, b9, rfl, by omega, _, hn9.blk, rfl⟩
        refine ⟨.abs (fun val _ W_ => ∃ b, val 9 = ptr b 0 ∧ N ≤ b ∧ Blk W_ b #[(celAt (tupAt (val 5) 0) 0), (celAt (tupAt (val 5) 0) 1), (celAt (tupAt (val 5) 0) 2), (celAt (tupAt (val 5) 0) 3), (celAt (tupAt (val 5) 0) 4)] 27), ⟨fun _ _ hv => (by simp only [hv 5 rfl, hv 9 rfl]), fun _ _ _ _ hu h => (by obtain ⟨b, h1, h2, h3⟩ := h; exact ⟨b, h1, h2, h3.ext (aft_ext hu)⟩)⟩, fun val h_ W hx he => ⟨trivial, ?_⟩, ?_⟩
        ·replace hx := (rty_pre 27 N).trans (RTy.ext (Upd.drew _ _)) hx
         have hxu := hx.upd
         have hxs := hx.size
         replace hB1 := hB1.upd hxu fun h => by have h : N ≤ b1 := h; omega
         replace hs := hs.upd hxu fun i h1 h2 h => by have h : N ≤ i := h; omega
         replace hK := hK.upd hxu fun i h1 h2 h => by have h : N ≤ i := h; omega
         replace hV := hV.upd hxu fun i h1 h2 h => by have h : N ≤ i := h; omega
         replace hk := hk.upd hxu fun i hi h => by have hi := hk_b _ hi; have h : N ≤ i := h; omega
         replace hYy0 := hYy0.upd hxu fun i h1 h2 h => by have h : N ≤ i := h; omega
         replace hYy1 := hYy1.upd hxu fun i h1 h2 h => by have h : N ≤ i := h; omega
         obtain ⟨⟨bt, hbt, hNt, ct, hBt, hst⟩, ⟨o, dt, uo, hv5, hoW, huo, hdt, hok, hov⟩, _⟩ := he
         refine X_storeW (b := bt) (ys := [(celAt (tupAt (val 5) 0) 0), (celAt (tupAt (val 5) 0) 1), (celAt (tupAt (val 5) 0) 2), (celAt (tupAt (val 5) 0) 3), (celAt (tupAt (val 5) 0) 4)]) A27 hbt (by show (tupAt (val 5) 0) = .agg #[celAt (tupAt (val 5) 0) 0, celAt (tupAt (val 5) 0) 1, celAt (tupAt (val 5) 0) 2, celAt (tupAt (val 5) 0) 3, celAt (tupAt (val 5) 0) 4]; rw [hv5]; rfl) (List.forall_mem_cons.2 ⟨((by rw [hv5]; rfl)), (List.forall_mem_cons.2 ⟨((by rw [hv5]; exact hoW.k.1.sv.one)), (List.forall_mem_cons.2 ⟨((by rw [hv5]; exact hoW.v.1.sv.one)), (List.forall_mem_cons.2 ⟨((by rw [hv5]; rfl)), (List.forall_mem_cons.2 ⟨((by rw [hv5]; rfl)), (fun _ h => by cases h)⟩)⟩)⟩)⟩)⟩) rfl hBt hst ?_
         intro w9 hu9 hb9
         exact ⟨RTy.put hNt hBt hb9 (by rw [hst]; rfl) hu9, bt, hbt, hNt, hb9⟩
        intro v12_ W35 hx35 he35
        replace hx35 := (rty_pre 27 N).trans (RTy.ext (Upd.drew _ _)) hx35
        have hxu35 := hx35.upd
        have hz35 := hx35.size
        replace hB1 := hB1.upd hxu35 fun h => by have h : N ≤ b1 := h; omega
        replace hs := hs.upd hxu35 fun i h1 h2 h => by have h : N ≤ i := h; omega
        replace hK := hK.upd hxu35 fun i h1 h2 h => by have h : N ≤ i := h; omega
        replace hV := hV.upd hxu35 fun i h1 h2 h => by have h : N ≤ i := h; omega
        replace hk := hk.upd hxu35 fun i hi h => by have hi := hk_b _ hi; have h : N ≤ i := h; omega
        replace hU := hU.trans (hxu35.mono fun i _ h => by have h : N ≤ i := h; show n0 ≤ i; omega)
        replace hYy0 := hYy0.upd hxu35 fun i h1 h2 h => by have h : N ≤ i := h; omega
        replace hYy1 := hYy1.upd hxu35 fun i h1 h2 h => by have h : N ≤ i := h; omega
        obtain ⟨⟨bt2, hbt2, hNt2, hBt2⟩, ⟨bt0, hbt0, _⟩, ⟨o, dt, uo, hv5, hoW, huo, hdt, hok, hov⟩, _⟩ := he35
        have hbt2l := hBt2.lt
        refine L_op rfl (X_assign (v := (tupAt (v12_ 5) 1)) rfl ?_)
        refine L_nil ?_
        refine T_n ?_
        refine W_seq ?_
        have hcs : (#[celAt (tupAt (v12_ 5) 0) 0, celAt (tupAt (v12_ 5) 0) 1, celAt (tupAt (v12_ 5) 0) 2, celAt (tupAt (v12_ 5) 0) 3, celAt (tupAt (v12_ 5) 0) 4] : Array Value) = (snC o).toArray := by rw [hv5]; rfl
        rw [hcs] at hBt2
        have hoR := hoW.rd
        have hdt1 : tupAt (v12_ 5) 1 = .bool dt := by rw [hv5]; rfl
        clear hv5 hcs
        have hno := drop_len (ks := bl s.ks) (m := e.2)
        rw [← hok, bl_len, bl_len] at hno
        obtain ⟨N9, hN9⟩ : ∃ n, n = W35.heap.size := ⟨_, rfl⟩
        refine W_draw 10 [[], [], [], [1, 2], [1, 2, 3], [0, 1, 2, 3, 4], [0, 1, 2, 3, 4, 5], [0, 1, 2, 3, 4, 5, 6], [0, 1, 2, 3, 4, 5, 6], [0, 1, 2, 3, 4, 5, 6, 7], [0, 1, 2, 3, 4, 5, 6, 7, 8, 9]] mixed (by kernel_rfl) ?_
        refine ⟨.det (fun val => (.agg ([(.int .u32 (o.tx)), o.kv, o.vv, (.int .u8 (o.mr)), (.int .u8 (o.lv))]).toArray)), ⟨fun _ _ hv => rfl, fun _ _ _ _ _ => trivial⟩, fun val h_ W hx he => ⟨trivial, ?_⟩, ?_⟩
        ·replace hx := (Upd.drew _ _).trans hx
         replace hBt2 := hBt2.ext hx
         refine id (X_loadA (p := ptr bt2 0) (xs := [(.int .u32 (o.tx)), o.kv, o.vv, (.int .u8 (o.mr)), (.int .u8 (o.lv))]) A27 hbt2 hBt2.atAll rfl ?_)
         exact ⟨Upd.refl _ _, rfl⟩
        refine ⟨.det (fun val => kv), ⟨fun _ _ hv => rfl, fun _ _ _ _ _ => trivial⟩, fun val h_ W hx he => ⟨trivial, ?_⟩, ?_⟩
        ·exact X_move (v := kv) rfl ⟨Upd.refl _ _, rfl⟩
        refine ⟨.det (fun val => (.int .i64 (((i : Nat) : Int)))), ⟨fun _ _ hv => rfl, fun _ _ _ _ _ => trivial⟩, fun val h_ W hx he => ⟨trivial, ?_⟩, ?_⟩
        ·exact X_move (v := (.int .i64 (((i : Nat) : Int)))) rfl ⟨Upd.refl _ _, rfl⟩
        refine ⟨.det (fun val => (pof kv ((((i : Nat) : Int) : Int).toNat * 1))), ⟨fun _ _ hv => rfl, fun _ _ _ _ _ => trivial⟩, fun val h_ W hx he => ⟨trivial, ?_⟩, ?_⟩
        ·replace hx := (Upd.drew _ _).trans hx
         replace hK := hK.ext hx
         refine id (X_idx (v := kv) (n := es.length) (k := .i64) (i := ((i : Nat) : Int)) S22 rfl hK.sv rfl (by omega) (by omega) ?_)
         exact ⟨Upd.refl _ _, rfl⟩
        refine ⟨.det (fun val => e.1), ⟨fun _ _ hv => rfl, fun _ _ _ _ _ => trivial⟩, fun val h_ W hx he => ⟨trivial, ?_⟩, ?_⟩
        ·replace hx := (Upd.drew _ _).trans hx
         replace hK := hK.ext hx
         refine id (X_load (v := e.1) T23 rfl (bkey hK (Int.toNat_natCast _) hei) ?_)
         exact ⟨Upd.refl _ _, rfl⟩
        refine ⟨.abs (fun _ x_ W_ => ∃ y u, x_ = .tuple #[y, .bool false] ∧ BOwn W_ 5 N9 u (y, ((getO (bl o.ks) (bl o.vs) e.2).getD [])) ∧ u ≤ W_.heap.size), ⟨fun _ _ _ => rfl, fun _ _ _ _ hu h => (by obtain ⟨y, u, h1, h2, h3⟩ := h; exact ⟨y, u, h1, BOwn.ext h2 hu, Nat.le_trans h3 hu.size⟩)⟩, fun val h_ W hx he => ⟨trivial, ?_⟩, ?_⟩
        ·replace hx := (Upd.drew _ _).trans hx
         replace hK := hK.ext hx
         replace hoR := hoR.ext hx
         have hxz := hx.size
         have hcr_ := c_get o W N uo (by omega) hoR e.1 e.2 hel (brd hK hei)
         rw [show (getO (bl o.ks) (bl o.vs) e.2).isSome = false from (by rw [hinv.dg hok hov]; rfl)] at hcr_
         refine X_fn (vs := [(.agg #[(.int .u32 (o.tx)), o.kv, o.vv, (.int .u8 (o.mr)), (.int .u8 (o.lv))]), e.1]) en5 rfl ?_
         refine CT.mono hcr_ ?_
         rintro v9 w9 ⟨y, rfl, hY, hu9⟩
         exact ⟨hu9, y, _, rfl, hY.mono (lo' := N9) (by omega) (Nat.le_refl _), Nat.le_refl _⟩
        refine ⟨.det (fun val => (val 5)), ⟨fun _ _ hv => (by simp only [hv 5 rfl]), fun _ _ _ _ _ => trivial⟩, fun val h_ W hx he => ⟨trivial, ?_⟩, ?_⟩
        ·obtain ⟨⟨y2, uy2, hvy2, hYy2, hly2_⟩, he⟩ := he
         have hty2 : tupAt (val 5) 0 = y2 := by rw [hvy2]; rfl
         rw [← hty2] at hYy2
         replace hYy2 := BOwn.rd hYy2
         refine id (X_move (v := (val 5)) rfl ?_)
         exact ⟨Upd.refl _ _, rfl⟩
        refine ⟨.det (fun val => tupAt (val 5) 0), ⟨fun _ _ hv => (by simp only [hv 5 rfl]), fun _ _ _ _ _ => trivial⟩, fun val h_ W hx he => ⟨trivial, ?_⟩, ?_⟩
        ·obtain ⟨⟨y, u9, hv9, hY9, hu9_⟩, _⟩ := he
         refine X_extract (l := [y, .bool false]) (v := y) hv9 rfl ?_
         exact ⟨Upd.refl _ _, by show y = tupAt (val 5) 0; rw [show val 5 = _ from hv9]; rfl⟩
        refine ⟨.det (fun val => .bool false), ⟨fun _ _ hv => rfl, fun _ _ _ _ _ => trivial⟩, fun val h_ W hx he => ⟨trivial, ?_⟩, ?_⟩
        ·obtain ⟨⟨y, u9, hv9, hY9, hu9_⟩, _⟩ := he
         refine X_extract (l := [y, .bool false]) (v := .bool false) hv9 rfl ?_
         exact ⟨Upd.refl _ _, rfl⟩
        refine ⟨.det (fun val => (tupAt (val 5) 0)), ⟨fun _ _ hv => (by simp only [hv 5 rfl]), fun _ _ _ _ _ => trivial⟩, fun val h_ W hx he => ⟨trivial, ?_⟩, ?_⟩
        ·obtain ⟨⟨y2, uy2, hvy2, hYy2, hly2_⟩, he⟩ := he
         have hty2 : tupAt (val 5) 0 = y2 := by rw [hvy2]; rfl
         rw [← hty2] at hYy2
         replace hYy2 := BOwn.rd hYy2
         refine id (X_assign (v := (tupAt (val 5) 0)) rfl ?_)
         exact ⟨Upd.refl _ _, rfl⟩
        intro v13_ W37 hx37 he37
        replace hx37 := (Upd.drew _ _).trans hx37
        have hz37 := hx37.size
        replace hB1 := hB1.ext hx37
        replace hs := hs.ext hx37
        replace hK := hK.ext hx37
        replace hV := hV.ext hx37
        replace hk := hk.ext hx37
        replace hU := hU.trans (Ext.upd hx37)
        replace hYy0 := hYy0.ext hx37
        replace hYy1 := hYy1.ext hx37
        replace hBt2 := hBt2.ext hx37
        replace hoR := hoR.ext hx37
        obtain ⟨⟨y2, uy2, hvy2, hYy2, hly2_⟩, he37⟩ := he37
        have hty2 : tupAt (v13_ 5) 0 = y2 := by rw [hvy2]; rfl
        rw [← hty2] at hYy2
        replace hYy2 := BOwn.rd hYy2
        refine L_op rfl (X_assign (v := (.bool (false))) rfl ?_)
        refine L_nil ?_
        refine T_n ?_
        refine W_seq ?_
        refine W_seq ?_
        refine W_reg ?_
        refine L_op rfl (X_move (v := (tupAt (v12_ 5) 1)) rfl ?_)
        refine L_op rfl (X_move (v := (.bool ((getO (bl s.ks) (bl s.vs) e.2).isSome))) rfl ?_)
        refine L_op rfl (X_cmpBool (a := dt) (b := (getO (bl s.ks) (bl s.vs) e.2).isSome) (r := false) Tryd.underlying4 hdt1 rfl (.inr ⟨rfl, by rw [get_some, hdt]; cases dt <;> rfl⟩) ?_)
        refine L_op rfl (X_move (v := (.bool (false))) rfl ?_)
        refine L_gy (dj := 134) rfl rfl rfl (X_move (v := (.bool (false))) rfl ?_)
        refine L_op rfl (X_pick (t := false) (v := (.bool (false))) rfl rfl ?_)
        refine L_nil ?_
        refine T_n ?_
        refine W_cf rfl ?_
        refine W_skip ?_
        refine T_n ?_
        refine W_seq ?_
        refine W_reg ?_
        refine L_op rfl (X_loadA (p := ptr bt2 0) (xs := [(.int .u32 (o.tx)), o.kv, o.vv, (.int .u8 (o.mr)), (.int .u8 (o.lv))]) A27 hbt2 hBt2.atAll rfl ?_)
        refine L_op0 (X_storeW (b := b1) (ys := [(.int .u32 (o.tx)), o.kv, o.vv, (.int .u8 (o.mr)), (.int .u8 (o.lv))]) A27 rfl rfl (List.forall_mem_cons.2 ⟨rfl, (List.forall_mem_cons.2 ⟨(hoR.k.sv.one), (List.forall_mem_cons.2 ⟨(hoR.v.sv.one), (List.forall_mem_cons.2 ⟨rfl, (List.forall_mem_cons.2 ⟨rfl, (fun _ h => by cases h)⟩)⟩)⟩)⟩)⟩) rfl hB1 rfl ?_)
        intro w39 hu39 hb39
        have hz39 := hu39.size
        replace hs := hs.upd hu39 fun i h1 h2 h => by have h : i = b1 := h; omega
        replace hK := hK.upd hu39 fun i h1 h2 h => by have h : i = b1 := h; omega
        replace hV := hV.upd hu39 fun i h1 h2 h => by have h : i = b1 := h; omega
        replace hk := hk.upd hu39 fun i hi h => by have hi := hk_b _ hi; have h : i = b1 := h; omega
        replace hU := hU.trans (hu39.mono fun i _ h => by have h : i = b1 := h; show n0 ≤ i; omega)
        replace hYy0 := hYy0.upd hu39 fun i h1 h2 h => by have h : i = b1 := h; omega
        replace hYy1 := hYy1.upd hu39 fun i h1 h2 h => by have h : i = b1 := h; omega
        replace hBt2 := hBt2.upd hu39 fun h => by have h : bt2 = b1 := h; omega
        replace hoR := hoR.upd hu39 fun i h1 h2 h => by have h : i = b1 := h; omega
        replace hYy2 := hYy2.upd hu39 fun i h1 h2 h => by have h : i = b1 := h; omega
        replace hB1 : Blk w39 b1 #[(.int .u32 (o.tx)), o.kv, o.vv, (.int .u8 (o.mr)), (.int .u8 (o.lv))] 27 := hb39
        refine L_nil ?_
        refine T_n ?_
        refine W_seq ?_
        refine W_reg ?_
        refine L_op rfl (X_loadA (p := (ptr b1 (0))) (xs := [(.int .u32 (o.tx)), o.kv, o.vv, (.int .u8 (o.mr)), (.int .u8 (o.lv))]) A27 rfl hB1.atAll rfl ?_)
        refine L_op rfl (X_move (v := key) rfl ?_)
        have hcr_ := c_get o w39 N uo (by omega) hoR key m hm hk
        refine L_op rfl (X_fn (vs := [(.agg ([(.int .u32 (o.tx)), o.kv, o.vv, (.int .u8 (o.mr)), (.int .u8 (o.lv))]).toArray), key]) en5 rfl ?_)
        refine CT.mono hcr_ ?_
        clear hcr_
        rintro _ w40 ⟨yb, rfl, hYyb, hu40⟩
        have hz40 := hu40.size
        replace hYyb := hYyb.rd
        obtain ⟨Vyb, hVyb⟩ : ∃ n, n = w40.heap.size := ⟨_, rfl⟩
        rw [← hVyb] at hYyb
        replace hs := hs.ext hu40
        replace hK := hK.ext hu40
        replace hV := hV.ext hu40
        replace hk := hk.ext hu40
        replace hU := hU.trans (Ext.upd hu40)
        replace hYy0 := hYy0.ext hu40
        replace hYy1 := hYy1.ext hu40
        replace hBt2 := hBt2.ext hu40
        replace hoR := hoR.ext hu40
        replace hYy2 := hYy2.ext hu40
        replace hB1 := hB1.ext hu40
        obtain ⟨yt, hyt⟩ : ∃ b, b = (getO (bl o.ks) (bl o.vs) m).isSome := ⟨_, rfl⟩
        rw [← hyt]
        obtain ⟨yl, hyl⟩ : ∃ b, b = (getO (bl o.ks) (bl o.vs) m).getD [] := ⟨_, rfl⟩
        rw [← hyl] at hYyb
        refine L_op rfl (X_move (v := (.tuple #[yb, (.bool (yt))])) rfl ?_)
        refine L_op rfl (X_extract (l := [yb, (.bool (yt))]) (v := yb) rfl rfl ?_)
        refine L_op rfl (X_extract (l := [yb, (.bool (yt))]) (v := (.bool (yt))) rfl rfl ?_)
        refine L_op rfl (X_assign (v := yb) rfl ?_)
        refine L_op rfl (X_assign (v := (.bool (yt))) rfl ?_)
        refine L_nil ?_
        refine T_n ?_
        refine W_seq ?_
        refine W_seq ?_
        rcases Bool.eq_false_or_eq_true (scmp .neq (e.2) (m)) with hs41 | hs41
        ·have hgo := hinv.do hok hov (ne_of_neq hs41)
         have hye : yt = ev := by rw [hyt, hev, hgo]
         have hyL : yl = hd := by rw [hyl, hhd, hgo]
         refine W_draw 17 [[], [], [0, 1], [0, 1, 2], [0, 1, 2, 3], [], [5], [0, 1, 2, 3, 4, 5, 6], [0, 1, 2, 3, 4, 5, 6, 7], [0, 1, 2, 3, 4, 5, 6, 7, 8], [0, 1, 2, 3, 4, 5, 6, 7, 8], [0, 1, 2, 3, 4, 5, 6, 7, 8, 9, 10], [0, 1, 2, 3, 4, 5, 6, 7, 8, 9, 10, 11], [0, 1, 2, 3, 4, 5, 6, 7, 8, 9, 10, 11, 12], [0, 1, 2, 3, 4, 5, 6, 7, 8, 9, 10, 11, 12, 13], [0, 1, 2, 3, 4, 5, 6, 7, 8, 9, 10, 11, 12], [0, 1, 2, 3, 4, 5, 6, 7, 8, 9, 10, 11, 12, 15], [0, 1, 2, 3, 4, 5, 6, 7, 8, 9, 10, 11, 12, 13, 14, 15, 16], [0, 1, 2, 3, 4, 5, 6, 7, 8, 9, 10, 11, 12, 13, 14, 15, 16, 17], [0, 1, 2, 3, 4, 5, 6, 7, 8, 9, 10, 11, 12, 13, 14, 15, 16, 17, 18]] mixed (by kernel_rfl) ?_
         refine ⟨.det (fun val => kv), ⟨fun _ _ hv => rfl, fun _ _ _ _ _ => trivial⟩, fun val h_ W hx he => ⟨trivial, ?_⟩, ?_⟩
         ·exact X_move (v := kv) rfl ⟨Upd.refl _ _, rfl⟩
         refine ⟨.det (fun val => (.int .i64 (((i : Nat) : Int)))), ⟨fun _ _ hv => rfl, fun _ _ _ _ _ => trivial⟩, fun val h_ W hx he => ⟨trivial, ?_⟩, ?_⟩
         ·exact X_move (v := (.int .i64 (((i : Nat) : Int)))) rfl ⟨Upd.refl _ _, rfl⟩
         refine ⟨.det (fun val => (pof kv ((((i : Nat) : Int) : Int).toNat * 1))), ⟨fun _ _ hv => rfl, fun _ _ _ _ _ => trivial⟩, fun val h_ W hx he => ⟨trivial, ?_⟩, ?_⟩
         ·replace hx := (Upd.drew _ _).trans hx
          replace hK := hK.ext hx
          refine id (X_idx (v := kv) (n := es.length) (k := .i64) (i := ((i : Nat) : Int)) S22 rfl hK.sv rfl (by omega) (by omega) ?_)
          exact ⟨Upd.refl _ _, rfl⟩
         refine ⟨.det (fun val => e.1), ⟨fun _ _ hv => rfl, fun _ _ _ _ _ => trivial⟩, fun val h_ W hx he => ⟨trivial, ?_⟩, ?_⟩
         ·replace hx := (Upd.drew _ _).trans hx
          replace hK := hK.ext hx
          refine id (X_load (v := e.1) T23 rfl (bkey hK (Int.toNat_natCast _) hei) ?_)
          exact ⟨Upd.refl _ _, rfl⟩
         refine ⟨.det (fun val => (strV (e.2))), ⟨fun _ _ hv => rfl, fun _ _ _ _ _ => trivial⟩, fun val h_ W hx he => ⟨trivial, ?_⟩, ?_⟩
         ·replace hx := (Upd.drew _ _).trans hx
          replace hK := hK.ext hx
          refine id (X_str (v := e.1) (l := e.2) Tryd.underlying23 Tryd.underlying5 Tryd.underlying9 rfl (brd hK hei) ?_)
          exact ⟨Upd.refl _ _, rfl⟩
         refine ⟨.det (fun val => key), ⟨fun _ _ hv => rfl, fun _ _ _ _ _ => trivial⟩, fun val h_ W hx he => ⟨trivial, ?_⟩, ?_⟩
         ·exact X_move (v := key) rfl ⟨Upd.refl _ _, rfl⟩
         refine ⟨.det (fun val => (strV (m))), ⟨fun _ _ hv => rfl, fun _ _ _ _ _ => trivial⟩, fun val h_ W hx he => ⟨trivial, ?_⟩, ?_⟩
         ·replace hx := (Upd.drew _ _).trans hx
          replace hk := hk.ext hx
          refine id (X_str (v := key) (l := m) Tryd.underlying23 Tryd.underlying5 Tryd.underlying9 rfl hk ?_)
          exact ⟨Upd.refl _ _, rfl⟩
         refine ⟨.det (fun val => (.bool (true))), ⟨fun _ _ hv => rfl, fun _ _ _ _ _ => trivial⟩, fun val h_ W hx he => ⟨trivial, ?_⟩, ?_⟩
         ·exact X_scmp (a := e.2) (b := m) (r := true) rfl rfl rfl hs41 ⟨Upd.refl _ _, rfl⟩
         refine ⟨.det (fun val => (.bool (true))), ⟨fun _ _ hv => rfl, fun _ _ _ _ _ => trivial⟩, fun val h_ W hx he => ⟨trivial, ?_⟩, ?_⟩
         ·exact X_move (v := (.bool (true))) rfl ⟨Upd.refl _ _, rfl⟩
         refine ⟨.det (fun val => (.bool (yt))), ⟨fun _ _ hv => rfl, fun _ _ _ _ _ => trivial⟩, fun val h_ W hx he => ⟨⟨152, rfl, rfl⟩, ?_⟩, ?_⟩
         ·exact X_move (v := (.bool (yt))) rfl ⟨Upd.refl _ _, rfl⟩
         refine ⟨.det (fun val => (.bool (ev))), ⟨fun _ _ hv => rfl, fun _ _ _ _ _ => trivial⟩, fun val h_ W hx he => ⟨⟨152, rfl, rfl⟩, ?_⟩, ?_⟩
         ·exact X_move (v := (.bool (ev))) rfl ⟨Upd.refl _ _, rfl⟩
         refine ⟨.det (fun val => (.bool (false))), ⟨fun _ _ hv => rfl, fun _ _ _ _ _ => trivial⟩, fun val h_ W hx he => ⟨⟨152, rfl, rfl⟩, ?_⟩, ?_⟩
         ·exact X_cmpBool (a := yt) (b := ev) (r := false) Tryd.underlying4 rfl rfl (.inr ⟨rfl, by rw [hye]; cases ev <;> rfl⟩) ⟨Upd.refl _ _, rfl⟩
         refine ⟨.det (fun val => (.bool (false))), ⟨fun _ _ hv => rfl, fun _ _ _ _ _ => trivial⟩, fun val h_ W hx he => ⟨⟨152, rfl, rfl⟩, ?_⟩, ?_⟩
         ·exact X_move (v := (.bool (false))) rfl ⟨Upd.refl _ _, rfl⟩
         refine ⟨.det (fun val => yb), ⟨fun _ _ hv => rfl, fun _ _ _ _ _ => trivial⟩, fun val h_ W hx he => ⟨⟨156, rfl, rfl⟩, ?_⟩, ?_⟩
         ·exact X_move (v := yb) rfl ⟨Upd.refl _ _, rfl⟩
         refine ⟨.det (fun val => (strV (yl))), ⟨fun _ _ hv => rfl, fun _ _ _ _ _ => trivial⟩, fun val h_ W hx he => ⟨⟨156, rfl, rfl⟩, ?_⟩, ?_⟩
         ·replace hx := (Upd.drew _ _).trans hx
          replace hYyb := hYyb.ext hx
          refine id (X_str (v := yb) (l := yl) Tryd.underlying23 Tryd.underlying5 Tryd.underlying9 rfl hYyb.1 ?_)
          exact ⟨Upd.refl _ _, rfl⟩
         refine ⟨.det (fun val => y0), ⟨fun _ _ hv => rfl, fun _ _ _ _ _ => trivial⟩, fun val h_ W hx he => ⟨⟨156, rfl, rfl⟩, ?_⟩, ?_⟩
         ·exact X_move (v := y0) rfl ⟨Upd.refl _ _, rfl⟩
         refine ⟨.det (fun val => (strV (hd))), ⟨fun _ _ hv => rfl, fun _ _ _ _ _ => trivial⟩, fun val h_ W hx he => ⟨⟨156, rfl, rfl⟩, ?_⟩, ?_⟩
         ·replace hx := (Upd.drew _ _).trans hx
          replace hYy0 := hYy0.ext hx
          refine id (X_str (v := y0) (l := hd) Tryd.underlying23 Tryd.underlying5 Tryd.underlying9 rfl hYy0.1 ?_)
          exact ⟨Upd.refl _ _, rfl⟩
         intro val W42 hx42 he42
         replace hx42 := (Upd.drew _ _).trans hx42
         have hz42 := hx42.size
         replace hs := hs.ext hx42
         replace hK := hK.ext hx42
         replace hV := hV.ext hx42
         replace hk := hk.ext hx42
         replace hU := hU.trans (Ext.upd hx42)
         replace hYy0 := hYy0.ext hx42
         replace hYy1 := hYy1.ext hx42
         replace hBt2 := hBt2.ext hx42
         replace hoR := hoR.ext hx42
         replace hYy2 := hYy2.ext hx42
         replace hB1 := hB1.ext hx42
         replace hYyb := hYyb.ext hx42
         refine L_gy (dj := 156) rfl rfl rfl (X_scmp (a := yl) (b := hd) (r := false) rfl rfl rfl (scmp_ne hyL) ?_)
         refine L_gy (dj := 152) rfl rfl rfl (X_pick (t := false) (v := (.bool (false))) rfl rfl ?_)
         refine L_op rfl (X_pick (t := true) (v := (.bool (false))) rfl rfl ?_)
         refine L_nil ?_
         refine T_n ?_
         refine W_cf rfl ?_
         refine W_skip ?_
         refine T_n ?_
         refine W_exit ?_
         refine T_e ?_
         refine B_x ?_
         refine T_n ?_
         refine W_reg ?_
         refine L_op rfl (X_move (v := (.int .i64 (((i : Nat) : Int)))) rfl ?_)
         refine L_op rfl (X_arith (k := .i64) (a := ((i : Nat) : Int)) (b := 1) (r := ((i + 1 : Nat) : Int)) rfl rfl rfl (iadd64 (by omega) (by omega) (by omega)) ?_)
         refine L_op rfl (X_assign (v := (.int .i64 (((i + 1 : Nat) : Int)))) rfl ?_)
         refine L_nil ?_
         refine T_n ?_
         exact ⟨rfl, (i + 1, o), ⟨⟨hi, hB1, hoR.mono (by omega) (by omega), hK, hV, hk, ⟨dropP L e.2, hinv.drop hei hf hok hov hpb2 (by omega)⟩, hU⟩, (by show es.length - (i + 1) < es.length - i; omega)⟩, (Out.in_ rfl rfl (Out.mk rfl)), ⟨rfl, trivial⟩⟩
        ·refine W_draw 17 [[], [], [0, 1], [0, 1, 2], [0, 1, 2, 3], [], [5], [0, 1, 2, 3, 4, 5, 6], [0, 1, 2, 3, 4, 5, 6, 7], [0, 1, 2, 3, 4, 5, 6, 7, 8], [0, 1, 2, 3, 4, 5, 6, 7, 8], [0, 1, 2, 3, 4, 5, 6, 7, 8, 9, 10], [0, 1, 2, 3, 4, 5, 6, 7, 8, 9, 10, 11], [0, 1, 2, 3, 4, 5, 6, 7, 8, 9, 10, 11, 12], [0, 1, 2, 3, 4, 5, 6, 7, 8, 9, 10, 11, 12, 13], [0, 1, 2, 3, 4, 5, 6, 7, 8, 9, 10, 11, 12], [0, 1, 2, 3, 4, 5, 6, 7, 8, 9, 10, 11, 12, 15], [0, 1, 2, 3, 4, 5, 6, 7, 8, 9, 10, 11, 12, 13, 14, 15, 16], [0, 1, 2, 3, 4, 5, 6, 7, 8, 9, 10, 11, 12, 13, 14, 15, 16, 17], [0, 1, 2, 3, 4, 5, 6, 7, 8, 9, 10, 11, 12, 13, 14, 15, 16, 17, 18]] mixed (by kernel_rfl) ?_
         refine ⟨.det (fun val => kv), ⟨fun _ _ hv => rfl, fun _ _ _ _ _ => trivial⟩, fun val h_ W hx he => ⟨trivial, ?_⟩, ?_⟩
         ·exact X_move (v := kv) rfl ⟨Upd.refl _ _, rfl⟩
         refine ⟨.det (fun val => (.int .i64 (((i : Nat) : Int)))), ⟨fun _ _ hv => rfl, fun _ _ _ _ _ => trivial⟩, fun val h_ W hx he => ⟨trivial, ?_⟩, ?_⟩
         ·exact X_move (v := (.int .i64 (((i : Nat) : Int)))) rfl ⟨Upd.refl _ _, rfl⟩
         refine ⟨.det (fun val => (pof kv ((((i : Nat) : Int) : Int).toNat * 1))), ⟨fun _ _ hv => rfl, fun _ _ _ _ _ => trivial⟩, fun val h_ W hx he => ⟨trivial, ?_⟩, ?_⟩
         ·replace hx := (Upd.drew _ _).trans hx
          replace hK := hK.ext hx
          refine id (X_idx (v := kv) (n := es.length) (k := .i64) (i := ((i : Nat) : Int)) S22 rfl hK.sv rfl (by omega) (by omega) ?_)
          exact ⟨Upd.refl _ _, rfl⟩
         refine ⟨.det (fun val => e.1), ⟨fun _ _ hv => rfl, fun _ _ _ _ _ => trivial⟩, fun val h_ W hx he => ⟨trivial, ?_⟩, ?_⟩
         ·replace hx := (Upd.drew _ _).trans hx
          replace hK := hK.ext hx
          refine id (X_load (v := e.1) T23 rfl (bkey hK (Int.toNat_natCast _) hei) ?_)
          exact ⟨Upd.refl _ _, rfl⟩
         refine ⟨.det (fun val => (strV (e.2))), ⟨fun _ _ hv => rfl, fun _ _ _ _ _ => trivial⟩, fun val h_ W hx he => ⟨trivial, ?_⟩, ?_⟩
         ·replace hx := (Upd.drew _ _).trans hx
          replace hK := hK.ext hx
          refine id (X_str (v := e.1) (l := e.2) Tryd.underlying23 Tryd.underlying5 Tryd.underlying9 rfl (brd hK hei) ?_)
          exact ⟨Upd.refl _ _, rfl⟩
         refine ⟨.det (fun val => key), ⟨fun _ _ hv => rfl, fun _ _ _ _ _ => trivial⟩, fun val h_ W hx he => ⟨trivial, ?_⟩, ?_⟩
         ·exact X_move (v := key) rfl ⟨Upd.refl _ _, rfl⟩
         refine ⟨.det (fun val => (strV (m))), ⟨fun _ _ hv => rfl, fun _ _ _ _ _ => trivial⟩, fun val h_ W hx he => ⟨trivial, ?_⟩, ?_⟩
         ·replace hx := (Upd.drew _ _).trans hx
          replace hk := hk.ext hx
          refine id (X_str (v := key) (l := m) Tryd.underlying23 Tryd.underlying5 Tryd.underlying9 rfl hk ?_)
          exact ⟨Upd.refl _ _, rfl⟩
         refine ⟨.det (fun val => (.bool (false))), ⟨fun _ _ hv => rfl, fun _ _ _ _ _ => trivial⟩, fun val h_ W hx he => ⟨trivial, ?_⟩, ?_⟩
         ·exact X_scmp (a := e.2) (b := m) (r := false) rfl rfl rfl hs41 ⟨Upd.refl _ _, rfl⟩
         refine ⟨.det (fun val => (.bool (false))), ⟨fun _ _ hv => rfl, fun _ _ _ _ _ => trivial⟩, fun val h_ W hx he => ⟨trivial, ?_⟩, ?_⟩
         ·exact X_move (v := (.bool (false))) rfl ⟨Upd.refl _ _, rfl⟩
         refine ⟨.no, ⟨fun _ _ _ => trivial, fun _ _ _ _ _ => trivial⟩, fun val h_ W hx he => ⟨152, rfl, .inl rfl⟩, ?_⟩
         refine ⟨.no, ⟨fun _ _ _ => trivial, fun _ _ _ _ _ => trivial⟩, fun val h_ W hx he => ⟨152, rfl, .inl rfl⟩, ?_⟩
         refine ⟨.no, ⟨fun _ _ _ => trivial, fun _ _ _ _ _ => trivial⟩, fun val h_ W hx he => ⟨152, rfl, .inl rfl⟩, ?_⟩
         refine ⟨.no, ⟨fun _ _ _ => trivial, fun _ _ _ _ _ => trivial⟩, fun val h_ W hx he => ⟨152, rfl, .inl rfl⟩, ?_⟩
         refine ⟨.no, ⟨fun _ _ _ => trivial, fun _ _ _ _ _ => trivial⟩, fun val h_ W hx he => ⟨156, rfl, .inr rfl⟩, ?_⟩
         refine ⟨.no, ⟨fun _ _ _ => trivial, fun _ _ _ _ _ => trivial⟩, fun val h_ W hx he => ⟨156, rfl, .inr rfl⟩, ?_⟩
         refine ⟨.no, ⟨fun _ _ _ => trivial, fun _ _ _ _ _ => trivial⟩, fun val h_ W hx he => ⟨156, rfl, .inr rfl⟩, ?_⟩
         refine ⟨.no, ⟨fun _ _ _ => trivial, fun _ _ _ _ _ => trivial⟩, fun val h_ W hx he => ⟨156, rfl, .inr rfl⟩, ?_⟩
         intro val W44 hx44 he44
         replace hx44 := (Upd.drew _ _).trans hx44
         have hz44 := hx44.size
         replace hs := hs.ext hx44
         replace hK := hK.ext hx44
         replace hV := hV.ext hx44
         replace hk := hk.ext hx44
         replace hU := hU.trans (Ext.upd hx44)
         replace hYy0 := hYy0.ext hx44
         replace hYy1 := hYy1.ext hx44
         replace hBt2 := hBt2.ext hx44
         replace hoR := hoR.ext hx44
         replace hYy2 := hYy2.ext hx44
         replace hB1 := hB1.ext hx44
         replace hYyb := hYyb.ext hx44
         refine L_gu (dj := 156) rfl rfl rfl ?_
         refine L_gn (dj := 152) (t := false) rfl rfl rfl rfl ?_
         refine L_op rfl (X_pick (t := false) (v := (.bool (false))) rfl rfl ?_)
         refine L_nil ?_
         refine T_n ?_
         refine W_cf rfl ?_
         refine W_skip ?_
         refine T_n ?_
         refine W_exit ?_
         refine T_e ?_
         refine B_x ?_
         refine T_n ?_
         refine W_reg ?_
         refine L_op rfl (X_move (v := (.int .i64 (((i : Nat) : Int)))) rfl ?_)
         refine L_op rfl (X_arith (k := .i64) (a := ((i : Nat) : Int)) (b := 1) (r := ((i + 1 : Nat) : Int)) rfl rfl rfl (iadd64 (by omega) (by omega) (by omega)) ?_)
         refine L_op rfl (X_assign (v := (.int .i64 (((i + 1 : Nat) : Int)))) rfl ?_)
         refine L_nil ?_
         refine T_n ?_
         exact ⟨rfl, (i + 1, o), ⟨⟨hi, hB1, hoR.mono (by omega) (by omega), hK, hV, hk, ⟨dropP L e.2, hinv.drop hei hf hok hov hpb2 (by omega)⟩, hU⟩, (by show es.length - (i + 1) < es.length - i; omega)⟩, (Out.in_ rfl rfl (Out.mk rfl)), ⟨rfl, trivial⟩⟩
       ·refine L_gy (dj := 95) rfl rfl rfl (X_cmp (k := .u8) (a := ((x1.toNat : Nat) : Int)) (b := 255) (r := false) rfl rfl rfl (decide_eq_false (p := ((((x1.toNat : Nat) : Int)) : Int) = ((255) : Int)) (by omega)) ?_)
        have hpb2 : putB f.2 = true := by rw [putB_at hx1]; exact bne_iff_ne.2 fun h_ => hc32 (u8_255.2 h_)
        refine L_op rfl (X_pick (t := true) (v := (.bool (false))) rfl rfl ?_)
        refine L_nil ?_
        refine T_n ?_
        refine W_cf rfl ?_
        refine W_skip ?_
        refine T_n ?_
        exact ⟨rfl, (), ⟨hpb2, rfl⟩, (Out.suf rfl rfl), trivial⟩
      ·refine L_op rfl (X_cmp (k := .i64) (a := ((f.2.length : Nat) : Int)) (b := 0) (r := false) rfl rfl rfl (decide_eq_false (p := ((0) : Int) < ((((f.2.length : Nat) : Int)) : Int)) (by omega)) ?_)
       have hpb2 : putB f.2 = true := putB_nil (by omega)
       refine L_op rfl (X_move (v := (.bool (false))) rfl ?_)
       refine L_gn (dj := 95) (t := false) rfl rfl rfl rfl ?_
       refine L_gn (dj := 95) (t := false) rfl rfl rfl rfl ?_
       refine L_gn (dj := 95) (t := false) rfl rfl rfl rfl ?_
       refine L_gn (dj := 95) (t := false) rfl rfl rfl rfl ?_
       refine L_gn (dj := 95) (t := false) rfl rfl rfl rfl ?_
       refine L_gn (dj := 95) (t := false) rfl rfl rfl rfl ?_
       refine L_gn (dj := 95) (t := false) rfl rfl rfl rfl ?_
       refine L_op rfl (X_pick (t := false) (v := (.bool (false))) rfl rfl ?_)
       refine L_nil ?_
       refine T_n ?_
       refine W_cf rfl ?_
       refine W_skip ?_
       refine T_n ?_
       exact ⟨rfl, (), ⟨hpb2, rfl⟩, (Out.suf rfl rfl), trivial⟩
     ·rintro _u _ _ ⟨hpb2, rfl⟩
      refine W_seq ?_
      refine W_draw 9 [[], [], [], [1, 2], [1, 2, 3], [], [], [5, 6], [5, 6, 7], [0, 1, 2, 3, 4, 5, 6, 7, 8], [0, 1, 2, 3, 4, 5, 6, 7, 8, 9]] mixed (by kernel_rfl) ?_
      refine ⟨.det (fun val => (.agg ([(.int .u32 (s.tx)), s.kv, s.vv, (.int .u8 (s.mr)), (.int .u8 (s.lv))]).toArray)), ⟨fun _ _ hv => rfl, fun _ _ _ _ _ => trivial⟩, fun val h_ W hx he => ⟨trivial, ?_⟩, ?_⟩
      ·replace hx := (Upd.drew _ _).trans hx
       replace hB1 := hB1.ext hx
       refine id (X_loadA (p := (ptr b1 (0))) (xs := [(.int .u32 (s.tx)), s.kv, s.vv, (.int .u8 (s.mr)), (.int .u8 (s.lv))]) A27 rfl hB1.atAll rfl ?_)
       exact ⟨Upd.refl _ _, rfl⟩
      refine ⟨.det (fun val => kv), ⟨fun _ _ hv => rfl, fun _ _ _ _ _ => trivial⟩, fun val h_ W hx he => ⟨trivial, ?_⟩, ?_⟩
      ·exact X_move (v := kv) rfl ⟨Upd.refl _ _, rfl⟩
      refine ⟨.det (fun val => (.int .i64 (((i : Nat) : Int)))), ⟨fun _ _ hv => rfl, fun _ _ _ _ _ => trivial⟩, fun val h_ W hx he => ⟨trivial, ?_⟩, ?_⟩
      ·exact X_move (v := (.int .i64 (((i : Nat) : Int)))) rfl ⟨Upd.refl _ _, rfl⟩
      refine ⟨.det (fun val => (pof kv ((((i : Nat) : Int) : Int).toNat * 1))), ⟨fun _ _ hv => rfl, fun _ _ _ _ _ => trivial⟩, fun val h_ W hx he => ⟨trivial, ?_⟩, ?_⟩
      ·replace hx := (Upd.drew _ _).trans hx
       replace hK := hK.ext hx
       refine id (X_idx (v := kv) (n := es.length) (k := .i64) (i := ((i : Nat) : Int)) S22 rfl hK.sv rfl (by omega) (by omega) ?_)
       exact ⟨Upd.refl _ _, rfl⟩
      refine ⟨.det (fun val => e.1), ⟨fun _ _ hv => rfl, fun _ _ _ _ _ => trivial⟩, fun val h_ W hx he => ⟨trivial, ?_⟩, ?_⟩
      ·replace hx := (Upd.drew _ _).trans hx
       replace hK := hK.ext hx
       refine id (X_load (v := e.1) T23 rfl (bkey hK (Int.toNat_natCast _) hei) ?_)
       exact ⟨Upd.refl _ _, rfl⟩
      refine ⟨.det (fun val => vv), ⟨fun _ _ hv => rfl, fun _ _ _ _ _ => trivial⟩, fun val h_ W hx he => ⟨trivial, ?_⟩, ?_⟩
      ·exact X_move (v := vv) rfl ⟨Upd.refl _ _, rfl⟩
      refine ⟨.det (fun val => (.int .i64 (((i : Nat) : Int)))), ⟨fun _ _ hv => rfl, fun _ _ _ _ _ => trivial⟩, fun val h_ W hx he => ⟨trivial, ?_⟩, ?_⟩
      ·exact X_move (v := (.int .i64 (((i : Nat) : Int)))) rfl ⟨Upd.refl _ _, rfl⟩
      refine ⟨.det (fun val => (pof vv ((((i : Nat) : Int) : Int).toNat * 1))), ⟨fun _ _ hv => rfl, fun _ _ _ _ _ => trivial⟩, fun val h_ W hx he => ⟨trivial, ?_⟩, ?_⟩
      ·replace hx := (Upd.drew _ _).trans hx
       replace hV := hV.ext hx
       refine id (X_idx (v := vv) (n := fs.length) (k := .i64) (i := ((i : Nat) : Int)) S22 rfl hV.sv rfl (by omega) (by omega) ?_)
       exact ⟨Upd.refl _ _, rfl⟩
      refine ⟨.det (fun val => f.1), ⟨fun _ _ hv => rfl, fun _ _ _ _ _ => trivial⟩, fun val h_ W hx he => ⟨trivial, ?_⟩, ?_⟩
      ·replace hx := (Upd.drew _ _).trans hx
       replace hV := hV.ext hx
       refine id (X_load (v := f.1) T23 rfl (bkey hV (Int.toNat_natCast _) hf) ?_)
       exact ⟨Upd.refl _ _, rfl⟩
      intro val W46 hx46 he46
      replace hx46 := (Upd.drew _ _).trans hx46
      have hz46 := hx46.size
      replace hB1 := hB1.ext hx46
      replace hs := hs.ext hx46
      replace hK := hK.ext hx46
      replace hV := hV.ext hx46
      replace hk := hk.ext hx46
      replace hU := hU.trans (Ext.upd hx46)
      replace hYy0 := hYy0.ext hx46
      have hcr_ := c_put s W46 (b1 + 1) U_ (by omega) hs e.1 e.2 hel (brd hK hei) f.1 f.2 hfl (brd hV hf) (by omega)
      refine L_op rfl (X_fn (vs := [(.agg ([(.int .u32 (s.tx)), s.kv, s.vv, (.int .u8 (s.mr)), (.int .u8 (s.lv))]).toArray), e.1, f.1]) en7 rfl ?_)
      refine CT.mono hcr_ ?_
      clear hcr_
      rintro _ w49 ⟨o, rfl, ⟨hoR, _⟩, hok, hov, hu49⟩
      have hz49 := hu49.size
      obtain ⟨uo0, huo0⟩ : ∃ n, n = W46.heap.size := ⟨_, rfl⟩
      obtain ⟨uo, huo_⟩ : ∃ n, n = w49.heap.size := ⟨_, rfl⟩
      rw [← huo0, ← huo_] at hoR
      replace hB1 := hB1.ext hu49
      replace hs := hs.ext hu49
      replace hK := hK.ext hu49
      replace hV := hV.ext hu49
      replace hk := hk.ext hu49
      replace hU := hU.trans (Ext.upd hu49)
      replace hYy0 := hYy0.ext hu49
      have hno := put_len (ks := bl s.ks) (m := e.2)
      rw [← hok, bl_len, bl_len] at hno
      refine L_op0 (X_storeW (b := b1) (ys := [(.int .u32 (o.tx)), o.kv, o.vv, (.int .u8 (o.mr)), (.int .u8 (o.lv))]) A27 rfl rfl (List.forall_mem_cons.2 ⟨rfl, (List.forall_mem_cons.2 ⟨(hoR.k.sv.one), (List.forall_mem_cons.2 ⟨(hoR.v.sv.one), (List.forall_mem_cons.2 ⟨rfl, (List.forall_mem_cons.2 ⟨rfl, (fun _ h => by cases h)⟩)⟩)⟩)⟩)⟩) rfl hB1 rfl ?_)
      intro w50 hu50 hb50
      have hz50 := hu50.size
      replace hs := hs.upd hu50 fun i h1 h2 h => by have h : i = b1 := h; omega
      replace hK := hK.upd hu50 fun i h1 h2 h => by have h : i = b1 := h; omega
      replace hV := hV.upd hu50 fun i h1 h2 h => by have h : i = b1 := h; omega
      replace hk := hk.upd hu50 fun i hi h => by have hi := hk_b _ hi; have h : i = b1 := h; omega
      replace hU := hU.trans (hu50.mono fun i _ h => by have h : i = b1 := h; show n0 ≤ i; omega)
      replace hYy0 := hYy0.upd hu50 fun i h1 h2 h => by have h : i = b1 := h; omega
      replace hoR := hoR.upd hu50 fun i h1 h2 h => by have h : i = b1 := h; omega
      replace hB1 : Blk w50 b1 #[(.int .u32 (o.tx)), o.kv, o.vv, (.int .u8 (o.mr)), (.int .u8 (o.lv))] 27 := hb50
      refine L_nil ?_
      refine T_n ?_
      refine W_seq ?_
      obtain ⟨N9, hN9⟩ : ∃ n, n = w50.heap.size := ⟨_, rfl⟩
      refine W_draw 10 [[], [], [], [1, 2], [1, 2, 3], [0, 1, 2, 3, 4], [0, 1, 2, 3, 4, 5], [0, 1, 2, 3, 4, 5, 6], [0, 1, 2, 3, 4, 5, 6], [0, 1, 2, 3, 4, 5, 6, 7], [0, 1, 2, 3, 4, 5, 6, 7, 8, 9]] mixed (by kernel_rfl) ?_
      refine ⟨.det (fun val => (.agg ([(.int .u32 (o.tx)), o.kv, o.vv, (.int .u8 (o.mr)), (.int .u8 (o.lv))]).toArray)), ⟨fun _ _ hv => rfl, fun _ _ _ _ _ => trivial⟩, fun val h_ W hx he => ⟨trivial, ?_⟩, ?_⟩
      ·replace hx := (Upd.drew _ _).trans hx
       replace hB1 := hB1.ext hx
       refine id (X_loadA (p := (ptr b1 (0))) (xs := [(.int .u32 (o.tx)), o.kv, o.vv, (.int .u8 (o.mr)), (.int .u8 (o.lv))]) A27 rfl hB1.atAll rfl ?_)
       exact ⟨Upd.refl _ _, rfl⟩
      refine ⟨.det (fun val => kv), ⟨fun _ _ hv => rfl, fun _ _ _ _ _ => trivial⟩, fun val h_ W hx he => ⟨trivial, ?_⟩, ?_⟩
      ·exact X_move (v := kv) rfl ⟨Upd.refl _ _, rfl⟩
      refine ⟨.det (fun val => (.int .i64 (((i : Nat) : Int)))), ⟨fun _ _ hv => rfl, fun _ _ _ _ _ => trivial⟩, fun val h_ W hx he => ⟨trivial, ?_⟩, ?_⟩
      ·exact X_move (v := (.int .i64 (((i : Nat) : Int)))) rfl ⟨Upd.refl _ _, rfl⟩
      refine ⟨.det (fun val => (pof kv ((((i : Nat) : Int) : Int).toNat * 1))), ⟨fun _ _ hv => rfl, fun _ _ _ _ _ => trivial⟩, fun val h_ W hx he => ⟨trivial, ?_⟩, ?_⟩
      ·replace hx := (Upd.drew _ _).trans hx
       replace hK := hK.ext hx
       refine id (X_idx (v := kv) (n := es.length) (k := .i64) (i := ((i : Nat) : Int)) S22 rfl hK.sv rfl (by omega) (by omega) ?_)
       exact ⟨Upd.refl _ _, rfl⟩
      refine ⟨.det (fun val => e.1), ⟨fun _ _ hv => rfl, fun _ _ _ _ _ => trivial⟩, fun val h_ W hx he => ⟨trivial, ?_⟩, ?_⟩
      ·replace hx := (Upd.drew _ _).trans hx
       replace hK := hK.ext hx
       refine id (X_load (v := e.1) T23 rfl (bkey hK (Int.toNat_natCast _) hei) ?_)
       exact ⟨Upd.refl _ _, rfl⟩
      refine ⟨.abs (fun _ x_ W_ => ∃ y u, x_ = .tuple #[y, .bool true] ∧ BOwn W_ 5 N9 u (y, ((getO (bl o.ks) (bl o.vs) e.2).getD [])) ∧ u ≤ W_.heap.size), ⟨fun _ _ _ => rfl, fun _ _ _ _ hu h => (by obtain ⟨y, u, h1, h2, h3⟩ := h; exact ⟨y, u, h1, BOwn.ext h2 hu, Nat.le_trans h3 hu.size⟩)⟩, fun val h_ W hx he => ⟨trivial, ?_⟩, ?_⟩
      ·replace hx := (Upd.drew _ _).trans hx
       replace hK := hK.ext hx
       replace hoR := hoR.ext hx
       have hxz := hx.size
       have hcr_ := c_get o W uo0 uo (by omega) hoR e.1 e.2 hel (brd hK hei)
       rw [show (getO (bl o.ks) (bl o.vs) e.2).isSome = true from (by rw [hinv.pg hok hov]; rfl)] at hcr_
       refine X_fn (vs := [(.agg #[(.int .u32 (o.tx)), o.kv, o.vv, (.int .u8 (o.mr)), (.int .u8 (o.lv))]), e.1]) en5 rfl ?_
       refine CT.mono hcr_ ?_
       rintro v9 w9 ⟨y, rfl, hY, hu9⟩
       exact ⟨hu9, y, _, rfl, hY.mono (lo' := N9) (by omega) (Nat.le_refl _), Nat.le_refl _⟩
      refine ⟨.det (fun val => (val 5)), ⟨fun _ _ hv => (by simp only [hv 5 rfl]), fun _ _ _ _ _ => trivial⟩, fun val h_ W hx he => ⟨trivial, ?_⟩, ?_⟩
      ·obtain ⟨⟨y2, uy2, hvy2, hYy2, hly2_⟩, he⟩ := he
       have hty2 : tupAt (val 5) 0 = y2 := by rw [hvy2]; rfl
       rw [← hty2] at hYy2
       replace hYy2 := BOwn.rd hYy2
       refine id (X_move (v := (val 5)) rfl ?_)
       exact ⟨Upd.refl _ _, rfl⟩
      refine ⟨.det (fun val => tupAt (val 5) 0), ⟨fun _ _ hv => (by simp only [hv 5 rfl]), fun _ _ _ _ _ => trivial⟩, fun val h_ W hx he => ⟨trivial, ?_⟩, ?_⟩
      ·obtain ⟨⟨y, u9, hv9, hY9, hu9_⟩, _⟩ := he
       refine X_extract (l := [y, .bool true]) (v := y) hv9 rfl ?_
       exact ⟨Upd.refl _ _, by show y = tupAt (val 5) 0; rw [show val 5 = _ from hv9]; rfl⟩
      refine ⟨.det (fun val => .bool true), ⟨fun _ _ hv => rfl, fun _ _ _ _ _ => trivial⟩, fun val h_ W hx he => ⟨trivial, ?_⟩, ?_⟩
      ·obtain ⟨⟨y, u9, hv9, hY9, hu9_⟩, _⟩ := he
       refine X_extract (l := [y, .bool true]) (v := .bool true) hv9 rfl ?_
       exact ⟨Upd.refl _ _, rfl⟩
      refine ⟨.det (fun val => (tupAt (val 5) 0)), ⟨fun _ _ hv => (by simp only [hv 5 rfl]), fun _ _ _ _ _ => trivial⟩, fun val h_ W hx he => ⟨trivial, ?_⟩, ?_⟩
      ·obtain ⟨⟨y2, uy2, hvy2, hYy2, hly2_⟩, he⟩ := he
       have hty2 : tupAt (val 5) 0 = y2 := by rw [hvy2]; rfl
       rw [← hty2] at hYy2
       replace hYy2 := BOwn.rd hYy2
       refine id (X_assign (v := (tupAt (val 5) 0)) rfl ?_)
       exact ⟨Upd.refl _ _, rfl⟩
      intro v21_ W51 hx51 he51
      replace hx51 := (Upd.drew _ _).trans hx51
      have hz51 := hx51.size
      replace hs := hs.ext hx51
      replace hK := hK.ext hx51
      replace hV := hV.ext hx51
      replace hk := hk.ext hx51
      replace hU := hU.trans (Ext.upd hx51)
      replace hYy0 := hYy0.ext hx51
      replace hoR := hoR.ext hx51
      replace hB1 := hB1.ext hx51
      obtain ⟨⟨y2, uy2, hvy2, hYy2, hly2_⟩, he51⟩ := he51
      have hty2 : tupAt (v21_ 5) 0 = y2 := by rw [hvy2]; rfl
      rw [← hty2] at hYy2
      replace hYy2 := BOwn.rd hYy2
      refine L_op rfl (X_assign (v := (.bool (true))) rfl ?_)
      refine L_nil ?_
      refine T_n ?_
      refine W_seq ?_
      refine W_seq ?_
      refine W_draw 10 [[], [0], [0, 1], [0, 1, 2], [0, 1, 2, 3], [0, 1, 2], [0, 1, 2], [0, 1, 2, 5, 6], [0, 1, 2, 5, 6, 7], [0, 1, 2, 5, 6, 7, 8], [0, 1, 2, 3, 4, 5, 6, 7, 8, 9], [0, 1, 2, 3, 4, 5, 6, 7, 8, 9, 10]] mixed (by kernel_rfl) ?_
      refine ⟨.det (fun val => (.bool (true))), ⟨fun _ _ hv => rfl, fun _ _ _ _ _ => trivial⟩, fun val h_ W hx he => ⟨trivial, ?_⟩, ?_⟩
      ·exact X_move (v := (.bool (true))) rfl ⟨Upd.refl _ _, rfl⟩
      refine ⟨.det (fun val => (.bool (false))), ⟨fun _ _ hv => rfl, fun _ _ _ _ _ => trivial⟩, fun val h_ W hx he => ⟨trivial, ?_⟩, ?_⟩
      ·exact X_not (b := true) (r := false) rfl rfl ⟨Upd.refl _ _, rfl⟩
      refine ⟨.det (fun val => (.bool (false))), ⟨fun _ _ hv => rfl, fun _ _ _ _ _ => trivial⟩, fun val h_ W hx he => ⟨trivial, ?_⟩, ?_⟩
      ·exact X_move (v := (.bool (false))) rfl ⟨Upd.refl _ _, rfl⟩
      refine ⟨.det (fun val => (tupAt (v21_ 5) 0)), ⟨fun _ _ hv => rfl, fun _ _ _ _ _ => trivial⟩, fun val h_ W hx he => ⟨⟨185, rfl, rfl⟩, ?_⟩, ?_⟩
      ·exact X_move (v := (tupAt (v21_ 5) 0)) rfl ⟨Upd.refl _ _, rfl⟩
      refine ⟨.det (fun val => (strV (((getO (bl o.ks) (bl o.vs) e.2).getD [])))), ⟨fun _ _ hv => rfl, fun _ _ _ _ _ => trivial⟩, fun val h_ W hx he => ⟨⟨185, rfl, rfl⟩, ?_⟩, ?_⟩
      ·replace hx := (Upd.drew _ _).trans hx
       replace hYy2 := hYy2.ext hx
       refine id (X_str (v := (tupAt (v21_ 5) 0)) (l := ((getO (bl o.ks) (bl o.vs) e.2).getD [])) Tryd.underlying23 Tryd.underlying5 Tryd.underlying9 rfl hYy2.1 ?_)
       exact ⟨Upd.refl _ _, rfl⟩
      refine ⟨.det (fun val => vv), ⟨fun _ _ hv => rfl, fun _ _ _ _ _ => trivial⟩, fun val h_ W hx he => ⟨⟨185, rfl, rfl⟩, ?_⟩, ?_⟩
      ·exact X_move (v := vv) rfl ⟨Upd.refl _ _, rfl⟩
      refine ⟨.det (fun val => (.int .i64 (((i : Nat) : Int)))), ⟨fun _ _ hv => rfl, fun _ _ _ _ _ => trivial⟩, fun val h_ W hx he => ⟨⟨185, rfl, rfl⟩, ?_⟩, ?_⟩
      ·exact X_move (v := (.int .i64 (((i : Nat) : Int)))) rfl ⟨Upd.refl _ _, rfl⟩
      refine ⟨.det (fun val => (pof vv ((((i : Nat) : Int) : Int).toNat * 1))), ⟨fun _ _ hv => rfl, fun _ _ _ _ _ => trivial⟩, fun val h_ W hx he => ⟨⟨185, rfl, rfl⟩, ?_⟩, ?_⟩
      ·replace hx := (Upd.drew _ _).trans hx
       replace hV := hV.ext hx
       refine id (X_idx (v := vv) (n := fs.length) (k := .i64) (i := ((i : Nat) : Int)) S22 rfl hV.sv rfl (by omega) (by omega) ?_)
       exact ⟨Upd.refl _ _, rfl⟩
      refine ⟨.det (fun val => f.1), ⟨fun _ _ hv => rfl, fun _ _ _ _ _ => trivial⟩, fun val h_ W hx he => ⟨⟨185, rfl, rfl⟩, ?_⟩, ?_⟩
      ·replace hx := (Upd.drew _ _).trans hx
       replace hV := hV.ext hx
       refine id (X_load (v := f.1) T23 rfl (bkey hV (Int.toNat_natCast _) hf) ?_)
       exact ⟨Upd.refl _ _, rfl⟩
      refine ⟨.det (fun val => (strV (f.2))), ⟨fun _ _ hv => rfl, fun _ _ _ _ _ => trivial⟩, fun val h_ W hx he => ⟨⟨185, rfl, rfl⟩, ?_⟩, ?_⟩
      ·replace hx := (Upd.drew _ _).trans hx
       replace hV := hV.ext hx
       refine id (X_str (v := f.1) (l := f.2) Tryd.underlying23 Tryd.underlying5 Tryd.underlying9 rfl (brd hV hf) ?_)
       exact ⟨Upd.refl _ _, rfl⟩
      intro val W53 hx53 he53
      replace hx53 := (Upd.drew _ _).trans hx53
      have hz53 := hx53.size
      replace hs := hs.ext hx53
      replace hK := hK.ext hx53
      replace hV := hV.ext hx53
      replace hk := hk.ext hx53
      replace hU := hU.trans (Ext.upd hx53)
      replace hYy0 := hYy0.ext hx53
      replace hoR := hoR.ext hx53
      replace hB1 := hB1.ext hx53
      replace hYy2 := hYy2.ext hx53
      have hyv : (getO (bl o.ks) (bl o.vs) e.2).getD [] = f.2 := by rw [hinv.pg hok hov]; rfl
      refine L_gy (dj := 185) rfl rfl rfl (X_scmp (a := ((getO (bl o.ks) (bl o.vs) e.2).getD [])) (b := f.2) (r := false) rfl rfl rfl (scmp_ne hyv) ?_)
      refine L_op rfl (X_pick (t := false) (v := (.bool (false))) rfl rfl ?_)
      refine L_nil ?_
      refine T_n ?_
      refine W_cf rfl ?_
      refine W_skip ?_
      refine T_n ?_
      refine W_seq ?_
      refine W_reg ?_
      refine L_op rfl (X_loadA (p := (ptr b1 (0))) (xs := [(.int .u32 (o.tx)), o.kv, o.vv, (.int .u8 (o.mr)), (.int .u8 (o.lv))]) A27 rfl hB1.atAll rfl ?_)
      refine L_op rfl (X_move (v := key) rfl ?_)
      have hcr_ := c_get o W53 uo0 uo (by omega) hoR key m hm hk
      refine L_op rfl (X_fn (vs := [(.agg ([(.int .u32 (o.tx)), o.kv, o.vv, (.int .u8 (o.mr)), (.int .u8 (o.lv))]).toArray), key]) en5 rfl ?_)
      refine CT.mono hcr_ ?_
      clear hcr_
      rintro _ w55 ⟨yb, rfl, hYyb, hu55⟩
      have hz55 := hu55.size
      replace hYyb := hYyb.rd
      obtain ⟨Vyb, hVyb⟩ : ∃ n, n = w55.heap.size := ⟨_, rfl⟩
      rw [← hVyb] at hYyb
      replace hs := hs.ext hu55
      replace hK := hK.ext hu55
      replace hV := hV.ext hu55
      replace hk := hk.ext hu55
      replace hU := hU.trans (Ext.upd hu55)
      replace hYy0 := hYy0.ext hu55
      replace hoR := hoR.ext hu55
      replace hB1 := hB1.ext hu55
      replace hYy2 := hYy2.ext hu55
      obtain ⟨yt, hyt⟩ : ∃ b, b = (getO (bl o.ks) (bl o.vs) m).isSome := ⟨_, rfl⟩
      rw [← hyt]
      obtain ⟨yl, hyl⟩ : ∃ b, b = (getO (bl o.ks) (bl o.vs) m).getD [] := ⟨_, rfl⟩
      rw [← hyl] at hYyb
      refine L_op rfl (X_move (v := (.tuple #[yb, (.bool (yt))])) rfl ?_)
      refine L_op rfl (X_extract (l := [yb, (.bool (yt))]) (v := yb) rfl rfl ?_)
      refine L_op rfl (X_extract (l := [yb, (.bool (yt))]) (v := (.bool (yt))) rfl rfl ?_)
      refine L_op rfl (X_assign (v := yb) rfl ?_)
      refine L_op rfl (X_assign (v := (.bool (yt))) rfl ?_)
      refine L_nil ?_
      refine T_n ?_
      refine W_seq ?_
      rcases Bool.eq_false_or_eq_true (scmp .neq (e.2) (m)) with hs56 | hs56
      ·have hgo := hinv.po hok hov (ne_of_neq hs56)
       have hye : yt = ev := by rw [hyt, hev, hgo]
       have hyL : yl = hd := by rw [hyl, hhd, hgo]
       refine W_draw 17 [[], [], [0, 1], [0, 1, 2], [0, 1, 2, 3], [], [5], [0, 1, 2, 3, 4, 5, 6], [0, 1, 2, 3, 4, 5, 6, 7], [0, 1, 2, 3, 4, 5, 6, 7, 8], [0, 1, 2, 3, 4, 5, 6, 7, 8], [0, 1, 2, 3, 4, 5, 6, 7, 8, 9, 10], [0, 1, 2, 3, 4, 5, 6, 7, 8, 9, 10, 11], [0, 1, 2, 3, 4, 5, 6, 7, 8, 9, 10, 11, 12], [0, 1, 2, 3, 4, 5, 6, 7, 8, 9, 10, 11, 12, 13], [0, 1, 2, 3, 4, 5, 6, 7, 8, 9, 10, 11, 12], [0, 1, 2, 3, 4, 5, 6, 7, 8, 9, 10, 11, 12, 15], [0, 1, 2, 3, 4, 5, 6, 7, 8, 9, 10, 11, 12, 13, 14, 15, 16], [0, 1, 2, 3, 4, 5, 6, 7, 8, 9, 10, 11, 12, 13, 14, 15, 16, 17], [0, 1, 2, 3, 4, 5, 6, 7, 8, 9, 10, 11, 12, 13, 14, 15, 16, 17, 18]] mixed (by kernel_rfl) ?_
       refine ⟨.det (fun val => kv), ⟨fun _ _ hv => rfl, fun _ _ _ _ _ => trivial⟩, fun val h_ W hx he => ⟨trivial, ?_⟩, ?_⟩
       ·exact X_move (v := kv) rfl ⟨Upd.refl _ _, rfl⟩
       refine ⟨.det (fun val => (.int .i64 (((i : Nat) : Int)))), ⟨fun _ _ hv => rfl, fun _ _ _ _ _ => trivial⟩, fun val h_ W hx he => ⟨trivial, ?_⟩, ?_⟩
       ·exact X_move (v := (.int .i64 (((i : Nat) : Int)))) rfl ⟨Upd.refl _ _, rfl⟩
       refine ⟨.det (fun val => (pof kv ((((i : Nat) : Int) : Int).toNat * 1))), ⟨fun _ _ hv => rfl, fun _ _ _ _ _ => trivial⟩, fun val h_ W hx he => ⟨trivial, ?_⟩, ?_⟩
       ·replace hx := (Upd.drew _ _).trans hx
        replace hK := hK.ext hx
        refine id (X_idx (v := kv) (n := es.length) (k := .i64) (i := ((i : Nat) : Int)) S22 rfl hK.sv rfl (by omega) (by omega) ?_)
        exact ⟨Upd.refl _ _, rfl⟩
       refine ⟨.det (fun val => e.1), ⟨fun _ _ hv => rfl, fun _ _ _ _ _ => trivial⟩, fun val h_ W hx he => ⟨trivial, ?_⟩, ?_⟩
       ·replace hx := (Upd.drew _ _).trans hx
        replace hK := hK.ext hx
        refine id (X_load (v := e.1) T23 rfl (bkey hK (Int.toNat_natCast _) hei) ?_)
        exact ⟨Upd.refl _ _, rfl⟩
       refine ⟨.det (fun val => (strV (e.2))), ⟨fun _ _ hv => rfl, fun _ _ _ _ _ => trivial⟩, fun val h_ W hx he => ⟨trivial, ?_⟩, ?_⟩
       ·replace hx := (Upd.drew _ _).trans hx
        replace hK := hK.ext hx
        refine id (X_str (v := e.1) (l := e.2) Tryd.underlying23 Tryd.underlying5 Tryd.underlying9 rfl (brd hK hei) ?_)
        exact ⟨Upd.refl _ _, rfl⟩
       refine ⟨.det (fun val => key), ⟨fun _ _ hv => rfl, fun _ _ _ _ _ => trivial⟩, fun val h_ W hx he => ⟨trivial, ?_⟩, ?_⟩
       ·exact X_move (v := key) rfl ⟨Upd.refl _ _, rfl⟩
       refine ⟨.det (fun val => (strV (m))), ⟨fun _ _ hv => rfl, fun _ _ _ _ _ => trivial⟩, fun val h_ W hx he => ⟨trivial, ?_⟩, ?_⟩
       ·replace hx := (Upd.drew _ _).trans hx
        replace hk := hk.ext hx
        refine id (X_str (v := key) (l := m) Tryd.underlying23 Tryd.underlying5 Tryd.underlying9 rfl hk ?_)
        exact ⟨Upd.refl _ _, rfl⟩
       refine ⟨.det (fun val => (.bool (true))), ⟨fun _ _ hv => rfl, fun _ _ _ _ _ => trivial⟩, fun val h_ W hx he => ⟨trivial, ?_⟩, ?_⟩
       ·exact X_scmp (a := e.2) (b := m) (r := true) rfl rfl rfl hs56 ⟨Upd.refl _ _, rfl⟩
       refine ⟨.det (fun val => (.bool (true))), ⟨fun _ _ hv => rfl, fun _ _ _ _ _ => trivial⟩, fun val h_ W hx he => ⟨trivial, ?_⟩, ?_⟩
       ·exact X_move (v := (.bool (true))) rfl ⟨Upd.refl _ _, rfl⟩
       refine ⟨.det (fun val => (.bool (yt))), ⟨fun _ _ hv => rfl, fun _ _ _ _ _ => trivial⟩, fun val h_ W hx he => ⟨⟨209, rfl, rfl⟩, ?_⟩, ?_⟩
       ·exact X_move (v := (.bool (yt))) rfl ⟨Upd.refl _ _, rfl⟩
       refine ⟨.det (fun val => (.bool (ev))), ⟨fun _ _ hv => rfl, fun _ _ _ _ _ => trivial⟩, fun val h_ W hx he => ⟨⟨209, rfl, rfl⟩, ?_⟩, ?_⟩
       ·exact X_move (v := (.bool (ev))) rfl ⟨Upd.refl _ _, rfl⟩
       refine ⟨.det (fun val => (.bool (false))), ⟨fun _ _ hv => rfl, fun _ _ _ _ _ => trivial⟩, fun val h_ W hx he => ⟨⟨209, rfl, rfl⟩, ?_⟩, ?_⟩
       ·exact X_cmpBool (a := yt) (b := ev) (r := false) Tryd.underlying4 rfl rfl (.inr ⟨rfl, by rw [hye]; cases ev <;> rfl⟩) ⟨Upd.refl _ _, rfl⟩
       refine ⟨.det (fun val => (.bool (false))), ⟨fun _ _ hv => rfl, fun _ _ _ _ _ => trivial⟩, fun val h_ W hx he => ⟨⟨209, rfl, rfl⟩, ?_⟩, ?_⟩
       ·exact X_move (v := (.bool (false))) rfl ⟨Upd.refl _ _, rfl⟩
       refine ⟨.det (fun val => yb), ⟨fun _ _ hv => rfl, fun _ _ _ _ _ => trivial⟩, fun val h_ W hx he => ⟨⟨213, rfl, rfl⟩, ?_⟩, ?_⟩
       ·exact X_move (v := yb) rfl ⟨Upd.refl _ _, rfl⟩
       refine ⟨.det (fun val => (strV (yl))), ⟨fun _ _ hv => rfl, fun _ _ _ _ _ => trivial⟩, fun val h_ W hx he => ⟨⟨213, rfl, rfl⟩, ?_⟩, ?_⟩
       ·replace hx := (Upd.drew _ _).trans hx
        replace hYyb := hYyb.ext hx
        refine id (X_str (v := yb) (l := yl) Tryd.underlying23 Tryd.underlying5 Tryd.underlying9 rfl hYyb.1 ?_)
        exact ⟨Upd.refl _ _, rfl⟩
       refine ⟨.det (fun val => y0), ⟨fun _ _ hv => rfl, fun _ _ _ _ _ => trivial⟩, fun val h_ W hx he => ⟨⟨213, rfl, rfl⟩, ?_⟩, ?_⟩
       ·exact X_move (v := y0) rfl ⟨Upd.refl _ _, rfl⟩
       refine ⟨.det (fun val => (strV (hd))), ⟨fun _ _ hv => rfl, fun _ _ _ _ _ => trivial⟩, fun val h_ W hx he => ⟨⟨213, rfl, rfl⟩, ?_⟩, ?_⟩
       ·replace hx := (Upd.drew _ _).trans hx
        replace hYy0 := hYy0.ext hx
        refine id (X_str (v := y0) (l := hd) Tryd.underlying23 Tryd.underlying5 Tryd.underlying9 rfl hYy0.1 ?_)
        exact ⟨Upd.refl _ _, rfl⟩
       intro val W57 hx57 he57
       replace hx57 := (Upd.drew _ _).trans hx57
       have hz57 := hx57.size
       replace hs := hs.ext hx57
       replace hK := hK.ext hx57
       replace hV := hV.ext hx57
       replace hk := hk.ext hx57
       replace hU := hU.trans (Ext.upd hx57)
       replace hYy0 := hYy0.ext hx57
       replace hoR := hoR.ext hx57
       replace hB1 := hB1.ext hx57
       replace hYy2 := hYy2.ext hx57
       replace hYyb := hYyb.ext hx57
       refine L_gy (dj := 213) rfl rfl rfl (X_scmp (a := yl) (b := hd) (r := false) rfl rfl rfl (scmp_ne hyL) ?_)
       refine L_gy (dj := 209) rfl rfl rfl (X_pick (t := false) (v := (.bool (false))) rfl rfl ?_)
       refine L_op rfl (X_pick (t := true) (v := (.bool (false))) rfl rfl ?_)
       refine L_nil ?_
       refine T_n ?_
       refine W_cf rfl ?_
       refine W_skip ?_
       refine B_n ?_
       refine T_n ?_
       refine W_reg ?_
       refine L_op rfl (X_move (v := (.int .i64 (((i : Nat) : Int)))) rfl ?_)
       refine L_op rfl (X_arith (k := .i64) (a := ((i : Nat) : Int)) (b := 1) (r := ((i + 1 : Nat) : Int)) rfl rfl rfl (iadd64 (by omega) (by omega) (by omega)) ?_)
       refine L_op rfl (X_assign (v := (.int .i64 (((i + 1 : Nat) : Int)))) rfl ?_)
       refine L_nil ?_
       refine T_n ?_
       exact ⟨rfl, (i + 1, o), ⟨⟨hi, hB1, hoR.mono (by omega) (by omega), hK, hV, hk, ⟨putP L e.2 f.2, hinv.put hei hf hok hov hpb2 (by omega)⟩, hU⟩, (by show es.length - (i + 1) < es.length - i; omega)⟩, (Out.in_ rfl rfl (Out.in_ rfl rfl (Out.mk rfl))), ⟨rfl, trivial⟩⟩
      ·refine W_draw 17 [[], [], [0, 1], [0, 1, 2], [0, 1, 2, 3], [], [5], [0, 1, 2, 3, 4, 5, 6], [0, 1, 2, 3, 4, 5, 6, 7], [0, 1, 2, 3, 4, 5, 6, 7, 8], [0, 1, 2, 3, 4, 5, 6, 7, 8], [0, 1, 2, 3, 4, 5, 6, 7, 8, 9, 10], [0, 1, 2, 3, 4, 5, 6, 7, 8, 9, 10, 11], [0, 1, 2, 3, 4, 5, 6, 7, 8, 9, 10, 11, 12], [0, 1, 2, 3, 4, 5, 6, 7, 8, 9, 10, 11, 12, 13], [0, 1, 2, 3, 4, 5, 6, 7, 8, 9, 10, 11, 12], [0, 1, 2, 3, 4, 5, 6, 7, 8, 9, 10, 11, 12, 15], [0, 1, 2, 3, 4, 5, 6, 7, 8, 9, 10, 11, 12, 13, 14, 15, 16], [0, 1, 2, 3, 4, 5, 6, 7, 8, 9, 10, 11, 12, 13, 14, 15, 16, 17], [0, 1, 2, 3, 4, 5, 6, 7, 8, 9, 10, 11, 12, 13, 14, 15, 16, 17, 18]] mixed (by kernel_rfl) ?_
       refine ⟨.det (fun val => kv), ⟨fun _ _ hv => rfl, fun _ _ _ _ _ => trivial⟩, fun val h_ W hx he => ⟨trivial, ?_⟩, ?_⟩
       ·exact X_move (v := kv) rfl ⟨Upd.refl _ _, rfl⟩
       refine ⟨.det (fun val => (.int .i64 (((i : Nat) : Int)))), ⟨fun _ _ hv => rfl, fun _ _ _ _ _ => trivial⟩, fun val h_ W hx he => ⟨trivial, ?_⟩, ?_⟩
       ·exact X_move (v := (.int .i64 (((i : Nat) : Int)))) rfl ⟨Upd.refl _ _, rfl⟩
       refine ⟨.det (fun val => (pof kv ((((i : Nat) : Int) : Int).toNat * 1))), ⟨fun _ _ hv => rfl, fun _ _ _ _ _ => trivial⟩, fun val h_ W hx he => ⟨trivial, ?_⟩, ?_⟩
       ·replace hx := (Upd.drew _ _).trans hx
        replace hK := hK.ext hx
        refine id (X_idx (v := kv) (n := es.length) (k := .i64) (i := ((i : Nat) : Int)) S22 rfl hK.sv rfl (by omega) (by omega) ?_)
        exact ⟨Upd.refl _ _, rfl⟩
       refine ⟨.det (fun val => e.1), ⟨fun _ _ hv => rfl, fun _ _ _ _ _ => trivial⟩, fun val h_ W hx he => ⟨trivial, ?_⟩, ?_⟩
       ·replace hx := (Upd.drew _ _).trans hx
        replace hK := hK.ext hx
        refine id (X_load (v := e.1) T23 rfl (bkey hK (Int.toNat_natCast _) hei) ?_)
        exact ⟨Upd.refl _ _, rfl⟩
       refine ⟨.det (fun val => (strV (e.2))), ⟨fun _ _ hv => rfl, fun _ _ _ _ _ => trivial⟩, fun val h_ W hx he => ⟨trivial, ?_⟩, ?_⟩
       ·replace hx := (Upd.drew _ _).trans hx
        replace hK := hK.ext hx
        refine id (X_str (v := e.1) (l := e.2) Tryd.underlying23 Tryd.underlying5 Tryd.underlying9 rfl (brd hK hei) ?_)
        exact ⟨Upd.refl _ _, rfl⟩
       refine ⟨.det (fun val => key), ⟨fun _ _ hv => rfl, fun _ _ _ _ _ => trivial⟩, fun val h_ W hx he => ⟨trivial, ?_⟩, ?_⟩
       ·exact X_move (v := key) rfl ⟨Upd.refl _ _, rfl⟩
       refine ⟨.det (fun val => (strV (m))), ⟨fun _ _ hv => rfl, fun _ _ _ _ _ => trivial⟩, fun val h_ W hx he => ⟨trivial, ?_⟩, ?_⟩
       ·replace hx := (Upd.drew _ _).trans hx
        replace hk := hk.ext hx
        refine id (X_str (v := key) (l := m) Tryd.underlying23 Tryd.underlying5 Tryd.underlying9 rfl hk ?_)
        exact ⟨Upd.refl _ _, rfl⟩
       refine ⟨.det (fun val => (.bool (false))), ⟨fun _ _ hv => rfl, fun _ _ _ _ _ => trivial⟩, fun val h_ W hx he => ⟨trivial, ?_⟩, ?_⟩
       ·exact X_scmp (a := e.2) (b := m) (r := false) rfl rfl rfl hs56 ⟨Upd.refl _ _, rfl⟩
       refine ⟨.det (fun val => (.bool (false))), ⟨fun _ _ hv => rfl, fun _ _ _ _ _ => trivial⟩, fun val h_ W hx he => ⟨trivial, ?_⟩, ?_⟩
       ·exact X_move (v := (.bool (false))) rfl ⟨Upd.refl _ _, rfl⟩
       refine ⟨.no, ⟨fun _ _ _ => trivial, fun _ _ _ _ _ => trivial⟩, fun val h_ W hx he => ⟨209, rfl, .inl rfl⟩, ?_⟩
       refine ⟨.no, ⟨fun _ _ _ => trivial, fun _ _ _ _ _ => trivial⟩, fun val h_ W hx he => ⟨209, rfl, .inl rfl⟩, ?_⟩
       refine ⟨.no, ⟨fun _ _ _ => trivial, fun _ _ _ _ _ => trivial⟩, fun val h_ W hx he => ⟨209, rfl, .inl rfl⟩, ?_⟩
       refine ⟨.no, ⟨fun _ _ _ => trivial, fun _ _ _ _ _ => trivial⟩, fun val h_ W hx he => ⟨209, rfl, .inl rfl⟩, ?_⟩
       refine ⟨.no, ⟨fun _ _ _ => trivial, fun _ _ _ _ _ => trivial⟩, fun val h_ W hx he => ⟨213, rfl, .inr rfl⟩, ?_⟩
       refine ⟨.no, ⟨fun _ _ _ => trivial, fun _ _ _ _ _ => trivial⟩, fun val h_ W hx he => ⟨213, rfl, .inr rfl⟩, ?_⟩
       refine ⟨.no, ⟨fun _ _ _ => trivial, fun _ _ _ _ _ => trivial⟩, fun val h_ W hx he => ⟨213, rfl, .inr rfl⟩, ?_⟩
       refine ⟨.no, ⟨fun _ _ _ => trivial, fun _ _ _ _ _ => trivial⟩, fun val h_ W hx he => ⟨213, rfl, .inr rfl⟩, ?_⟩
       intro val W59 hx59 he59
       replace hx59 := (Upd.drew _ _).trans hx59
       have hz59 := hx59.size
       replace hs := hs.ext hx59
       replace hK := hK.ext hx59
       replace hV := hV.ext hx59
       replace hk := hk.ext hx59
       replace hU := hU.trans (Ext.upd hx59)
       replace hYy0 := hYy0.ext hx59
       replace hoR := hoR.ext hx59
       replace hB1 := hB1.ext hx59
       replace hYy2 := hYy2.ext hx59
       replace hYyb := hYyb.ext hx59
       refine L_gu (dj := 213) rfl rfl rfl ?_
       refine L_gn (dj := 209) (t := false) rfl rfl rfl rfl ?_
       refine L_op rfl (X_pick (t := false) (v := (.bool (false))) rfl rfl ?_)
       refine L_nil ?_
       refine T_n ?_
       refine W_cf rfl ?_
       refine W_skip ?_
       refine B_n ?_
       refine T_n ?_
       refine W_reg ?_
       refine L_op rfl (X_move (v := (.int .i64 (((i : Nat) : Int)))) rfl ?_)
       refine L_op rfl (X_arith (k := .i64) (a := ((i : Nat) : Int)) (b := 1) (r := ((i + 1 : Nat) : Int)) rfl rfl rfl (iadd64 (by omega) (by omega) (by omega)) ?_)
       refine L_op rfl (X_assign (v := (.int .i64 (((i + 1 : Nat) : Int)))) rfl ?_)
       refine L_nil ?_
       refine T_n ?_
       exact ⟨rfl, (i + 1, o), ⟨⟨hi, hB1, hoR.mono (by omega) (by omega), hK, hV, hk, ⟨putP L e.2 f.2, hinv.put hei hf hok hov hpb2 (by omega)⟩, hU⟩, (by show es.length - (i + 1) < es.length - i; omega)⟩, (Out.in_ rfl rfl (Out.in_ rfl rfl (Out.mk rfl))), ⟨rfl, trivial⟩⟩
   ·refine L_op rfl (X_cmp (k := .i64) (a := ((i : Nat) : Int)) (b := ((es.length : Nat) : Int)) (r := false) rfl rfl rfl (decide_eq_false (p := ((((i : Nat) : Int)) : Int) < ((((es.length : Nat) : Int)) : Int)) (by omega)) ?_)
    refine L_nil ?_
    refine T_n ?_
    refine W_cf rfl ?_
    refine W_exit ?_
    refine T_e ?_
    refine T_e ?_
    refine B_x ?_
    refine T_n ?_
    refine W_seq ?_
    have hie : i = es.length := by omega
    obtain ⟨sk, hsk⟩ : ∃ z, z = seekD (bl s.ks) m true := ⟨_, rfl⟩
    have hskb := seek_lo (K := bl s.ks) (m := m)
    rw [← hsk, bl_len] at hskb
    obtain ⟨⟨n, t⟩, hat⟩ : ∃ z, atD (bl s.ks) m = z := ⟨_, rfl⟩
    have hnl : n ≤ s.ks.length := by have h9 := at_le m (bl s.ks); rw [hat, bl_len] at h9; exact h9
    have hsm := hs.sm; have hlen := hs.len; have hris := hinv.rise
    refine W_draw 4 [[], [0], [0, 1], [], [0, 1, 2, 3]] mixed (by kernel_rfl) ?_
    refine ⟨.det (fun val => (ptr b1 (1))), ⟨fun _ _ hv => rfl, fun _ _ _ _ _ => trivial⟩, fun val h_ W hx he => ⟨trivial, ?_⟩, ?_⟩
    ·exact X_fldP (b := b1) (o := 0) (r := 1) Fd27_1 rfl rfl ⟨Upd.refl _ _, rfl⟩
    refine ⟨.det (fun val => s.kv), ⟨fun _ _ hv => rfl, fun _ _ _ _ _ => trivial⟩, fun val h_ W hx he => ⟨trivial, ?_⟩, ?_⟩
    ·replace hx := (Upd.drew _ _).trans hx
     replace hB1 := hB1.ext hx
     refine id (X_load (p := (ptr b1 (1))) (v := s.kv) T22 rfl (hB1.at1 rfl) ?_)
     exact ⟨Upd.refl _ _, rfl⟩
    refine ⟨.det (fun val => (.int .i64 (((s.ks.length : Nat) : Int)))), ⟨fun _ _ hv => rfl, fun _ _ _ _ _ => trivial⟩, fun val h_ W hx he => ⟨trivial, ?_⟩, ?_⟩
    ·replace hx := (Upd.drew _ _).trans hx
     replace hs := hs.ext hx
     refine id (X_len (v := s.kv) (n := s.ks.length) Tryd.underlying22 rfl hs.k.sv ?_)
     exact ⟨Upd.refl _ _, rfl⟩
    refine ⟨.det (fun val => (.int .i64 (-1))), ⟨fun _ _ hv => rfl, fun _ _ _ _ _ => trivial⟩, fun val h_ W hx he => ⟨trivial, ?_⟩, ?_⟩
    ·exact X_assign (v := (.int .i64 (-1))) rfl ⟨Upd.refl _ _, rfl⟩
    intro val W61 hx61 he61
    replace hx61 := (Upd.drew _ _).trans hx61
    have hz61 := hx61.size
    replace hB1 := hB1.ext hx61
    replace hs := hs.ext hx61
    replace hk := hk.ext hx61
    replace hU := hU.trans (Ext.upd hx61)
    refine L_op rfl (X_assign (v := (.int .i64 (((s.ks.length : Nat) : Int)))) rfl ?_)
    refine L_nil ?_
    refine T_n ?_
    refine W_seq ?_
    refine W_seq ?_
    refine W_reg ?_
    refine L_op rfl (X_assign (v := (.int .i64 (0))) rfl ?_)
    refine L_nil ?_
    refine T_n ?_
    refine W_block ?_
    refine W_loop (α := Nat × Int × Int) [6, 23, 24, 25, 224, 225, 226, 227, 228, 229, 230, 231, 232, 233, 234, 235, 236, 237, 238, 239, 240, 241, 242, 243, 244, 245, 246, 247, 248, 249, 250, 251, 252, 253, 254, 255, 256, 257, 258, 259, 260, 261, 262, 263, 264, 265, 266, 267, 268, 269, 270, 271, 272, 273, 274, 275] (fun ⟨j, lo, hi⟩ => [(25, (.int .i64 (((j : Nat) : Int)))), (23, (.int .i64 (lo))), (24, (.int .i64 (hi)))]) (fun ⟨j, lo, hi⟩ w_ => j ≤ s.ks.length ∧ lo = min ((j : Int) - 1) sk ∧ ((n < j ∧ hi = (n : Int)) ∨ (j ≤ n ∧ hi = (s.ks.length : Int))) ∧ Blk w_ b1 (snC s).toArray 27 ∧ s.R w_ (b1 + 1) U_ ∧ Rd w_ 1 key m.length (m.map byteV) ∧ U_ ≤ w_.heap.size ∧ Upd (fun i => n0 ≤ i) w w_) (fun ⟨j, lo, hi⟩ => s.ks.length - j) ⟨rfl, (0, -1, ((s.ks.length : Nat) : Int)), ⟨Nat.zero_le _, by omega, .inr ⟨Nat.zero_le _, rfl⟩, hB1, hs, hk, by omega, hU⟩, Out.refl _ _, ⟨rfl, rfl, rfl, trivial⟩⟩ ?_
    rintro ⟨j, lo, hi⟩ w62 _ ⟨hjl, hlo_, hhi_, hB1, hs, hk, hUl, hU⟩
    have hsz_ := hU.size
    have hb1l := hB1.lt
    refine W_seq ?_
    refine W_seq ?_
    refine W_reg ?_
    refine L_op rfl (X_move (v := (.int .i64 (((j : Nat) : Int)))) rfl ?_)
    refine L_op rfl (X_fldP (b := b1) (o := 0) (r := 1) Fd27_1 rfl rfl ?_)
    refine L_op rfl (X_load (p := (ptr b1 (1))) (v := s.kv) T22 rfl (hB1.at1 rfl) ?_)
    refine L_op rfl (X_len (v := s.kv) (n := s.ks.length) Tryd.underlying22 rfl hs.k.sv ?_)
    by_cases hc63 : (((j : Nat) : Int) : Int) < (((s.ks.length : Nat) : Int))
    ·refine L_op rfl (X_cmp (k := .i64) (a := ((j : Nat) : Int)) (b := ((s.ks.length : Nat) : Int)) (r := true) rfl rfl rfl (decide_eq_true (p := ((((j : Nat) : Int)) : Int) < ((((s.ks.length : Nat) : Int)) : Int)) (by omega)) ?_)
     have hj : j < s.ks.length := by omega
     obtain ⟨eb, heb⟩ : ∃ e, s.ks[j]? = some e := ⟨_, List.getElem?_eq_getElem hj⟩
     refine L_nil ?_
     refine T_n ?_
     refine W_ct rfl ?_
     refine W_skip ?_
     refine T_n ?_
     refine W_seq ?_
     refine W_block ?_
     refine W_cut (α := Unit) [6, 231, 232, 233, 234, 235, 236, 237, 238, 239, 240, 241, 242, 243, 244, 245, 246, 247, 248] (fun _u => []) (fun _u w_ => Ext w62 w_) ?_ ?_
     ·refine W_seq ?_
      have hE := Upd.refl (fun _ => False) w62
      rcases Bool.eq_false_or_eq_true (decide (0 < j)) with hs65 | hs65
      ·have hj0 : 0 < j := of_decide_eq_true hs65
       obtain ⟨ea, hea⟩ : ∃ e, s.ks[j - 1]? = some e := ⟨_, List.getElem?_eq_getElem (by omega)⟩
       have hge : scmp .geq ea.2 eb.2 = false := geq_less (rise_at hris (bl_at hea) (bl_at heb) (by omega))
       refine W_draw 16 [[], [0], [0, 1], [0, 1, 2], [0, 1, 2, 3], [0, 1, 2], [0, 1, 2, 5], [0, 1, 2, 3, 4, 5, 6], [0, 1, 2, 3, 4, 5, 6, 7], [0, 1, 2, 3, 4, 5, 6, 7, 8], [0, 1, 2], [0, 1, 2, 10], [0, 1, 2], [0, 1, 2, 10, 11, 12], [0, 1, 2, 10, 11, 12, 13], [0, 1, 2, 10, 11, 12, 13, 14], [0, 1, 2, 3, 4, 5, 6, 7, 8, 9, 10, 11, 12, 13, 14, 15], [0, 1, 2, 3, 4, 5, 6, 7, 8, 9, 10, 11, 12, 13, 14, 15, 16]] mixed (by kernel_rfl) ?_
       refine ⟨.det (fun val => (.int .i64 (((j : Nat) : Int)))), ⟨fun _ _ hv => rfl, fun _ _ _ _ _ => trivial⟩, fun val h_ W hx he => ⟨trivial, ?_⟩, ?_⟩
       ·exact X_move (v := (.int .i64 (((j : Nat) : Int)))) rfl ⟨Upd.refl _ _, rfl⟩
       refine ⟨.det (fun val => (.bool (true))), ⟨fun _ _ hv => rfl, fun _ _ _ _ _ => trivial⟩, fun val h_ W hx he => ⟨trivial, ?_⟩, ?_⟩
       ·exact X_cmp (k := .i64) (a := ((j : Nat) : Int)) (b := 0) (r := true) rfl rfl rfl (decide_eq_true (p := ((0) : Int) < ((((j : Nat) : Int)) : Int)) (by omega)) ⟨Upd.refl _ _, rfl⟩
       refine ⟨.det (fun val => (.bool (true))), ⟨fun _ _ hv => rfl, fun _ _ _ _ _ => trivial⟩, fun val h_ W hx he => ⟨trivial, ?_⟩, ?_⟩
       ·exact X_move (v := (.bool (true))) rfl ⟨Upd.refl _ _, rfl⟩
       refine ⟨.det (fun val => (ptr b1 (1))), ⟨fun _ _ hv => rfl, fun _ _ _ _ _ => trivial⟩, fun val h_ W hx he => ⟨⟨233, rfl, rfl⟩, ?_⟩, ?_⟩
       ·exact X_fldP (b := b1) (o := 0) (r := 1) Fd27_1 rfl rfl ⟨Upd.refl _ _, rfl⟩
       refine ⟨.det (fun val => s.kv), ⟨fun _ _ hv => rfl, fun _ _ _ _ _ => trivial⟩, fun val h_ W hx he => ⟨⟨233, rfl, rfl⟩, ?_⟩, ?_⟩
       ·replace hx := (Upd.drew _ _).trans hx
        replace hB1 := hB1.ext hx
        refine id (X_load (p := (ptr b1 (1))) (v := s.kv) T22 rfl (hB1.at1 rfl) ?_)
        exact ⟨Upd.refl _ _, rfl⟩
       refine ⟨.det (fun val => (.int .i64 (((j : Nat) : Int)))), ⟨fun _ _ hv => rfl, fun _ _ _ _ _ => trivial⟩, fun val h_ W hx he => ⟨⟨233, rfl, rfl⟩, ?_⟩, ?_⟩
       ·exact X_move (v := (.int .i64 (((j : Nat) : Int)))) rfl ⟨Upd.refl _ _, rfl⟩
       refine ⟨.det (fun val => (.int .i64 ((((j : Nat) : Int) - 1 : Int)))), ⟨fun _ _ hv => rfl, fun _ _ _ _ _ => trivial⟩, fun val h_ W hx he => ⟨⟨233, rfl, rfl⟩, ?_⟩, ?_⟩
       ·exact X_arith (k := .i64) (a := ((j : Nat) : Int)) (b := 1) (r := (((j : Nat) : Int) - 1 : Int)) rfl rfl rfl (isub64 rfl (by omega) (by omega)) ⟨Upd.refl _ _, rfl⟩
       refine ⟨.det (fun val => (pof s.kv (((((j : Nat) : Int) - 1 : Int) : Int).toNat * 1))), ⟨fun _ _ hv => rfl, fun _ _ _ _ _ => trivial⟩, fun val h_ W hx he => ⟨⟨233, rfl, rfl⟩, ?_⟩, ?_⟩
       ·replace hx := (Upd.drew _ _).trans hx
        replace hs := hs.ext hx
        refine id (X_idx (v := s.kv) (n := s.ks.length) (k := .i64) (i := (((j : Nat) : Int) - 1 : Int)) S22 rfl hs.k.sv rfl (by omega) (by omega) ?_)
        exact ⟨Upd.refl _ _, rfl⟩
       refine ⟨.det (fun val => ea.1), ⟨fun _ _ hv => rfl, fun _ _ _ _ _ => trivial⟩, fun val h_ W hx he => ⟨⟨233, rfl, rfl⟩, ?_⟩, ?_⟩
       ·replace hx := (Upd.drew _ _).trans hx
        replace hs := hs.ext hx
        refine id (X_load (v := ea.1) T23 rfl (bkey hs.k ((by omega)) hea) ?_)
        exact ⟨Upd.refl _ _, rfl⟩
       refine ⟨.det (fun val => (strV (ea.2))), ⟨fun _ _ hv => rfl, fun _ _ _ _ _ => trivial⟩, fun val h_ W hx he => ⟨⟨233, rfl, rfl⟩, ?_⟩, ?_⟩
       ·replace hx := (Upd.drew _ _).trans hx
        replace hs := hs.ext hx
        refine id (X_str (v := ea.1) (l := ea.2) Tryd.underlying23 Tryd.underlying5 Tryd.underlying9 rfl (brd hs.k hea) ?_)
        exact ⟨Upd.refl _ _, rfl⟩
       refine ⟨.det (fun val => (ptr b1 (1))), ⟨fun _ _ hv => rfl, fun _ _ _ _ _ => trivial⟩, fun val h_ W hx he => ⟨⟨233, rfl, rfl⟩, ?_⟩, ?_⟩
       ·exact X_fldP (b := b1) (o := 0) (r := 1) Fd27_1 rfl rfl ⟨Upd.refl _ _, rfl⟩
       refine ⟨.det (fun val => s.kv), ⟨fun _ _ hv => rfl, fun _ _ _ _ _ => trivial⟩, fun val h_ W hx he => ⟨⟨233, rfl, rfl⟩, ?_⟩, ?_⟩
       ·replace hx := (Upd.drew _ _).trans hx
        replace hB1 := hB1.ext hx
        refine id (X_load (p := (ptr b1 (1))) (v := s.kv) T22 rfl (hB1.at1 rfl) ?_)
        exact ⟨Upd.refl _ _, rfl⟩
       refine ⟨.det (fun val => (.int .i64 (((j : Nat) : Int)))), ⟨fun _ _ hv => rfl, fun _ _ _ _ _ => trivial⟩, fun val h_ W hx he => ⟨⟨233, rfl, rfl⟩, ?_⟩, ?_⟩
       ·exact X_move (v := (.int .i64 (((j : Nat) : Int)))) rfl ⟨Upd.refl _ _, rfl⟩
       refine ⟨.det (fun val => (pof s.kv ((((j : Nat) : Int) : Int).toNat * 1))), ⟨fun _ _ hv => rfl, fun _ _ _ _ _ => trivial⟩, fun val h_ W hx he => ⟨⟨233, rfl, rfl⟩, ?_⟩, ?_⟩
       ·replace hx := (Upd.drew _ _).trans hx
        replace hs := hs.ext hx
        refine id (X_idx (v := s.kv) (n := s.ks.length) (k := .i64) (i := ((j : Nat) : Int)) S22 rfl hs.k.sv rfl (by omega) (by omega) ?_)
        exact ⟨Upd.refl _ _, rfl⟩
       refine ⟨.det (fun val => eb.1), ⟨fun _ _ hv => rfl, fun _ _ _ _ _ => trivial⟩, fun val h_ W hx he => ⟨⟨233, rfl, rfl⟩, ?_⟩, ?_⟩
       ·replace hx := (Upd.drew _ _).trans hx
        replace hs := hs.ext hx
        refine id (X_load (v := eb.1) T23 rfl (bkey hs.k (Int.toNat_natCast _) heb) ?_)
        exact ⟨Upd.refl _ _, rfl⟩
       refine ⟨.det (fun val => (strV (eb.2))), ⟨fun _ _ hv => rfl, fun _ _ _ _ _ => trivial⟩, fun val h_ W hx he => ⟨⟨233, rfl, rfl⟩, ?_⟩, ?_⟩
       ·replace hx := (Upd.drew _ _).trans hx
        replace hs := hs.ext hx
        refine id (X_str (v := eb.1) (l := eb.2) Tryd.underlying23 Tryd.underlying5 Tryd.underlying9 rfl (brd hs.k heb) ?_)
        exact ⟨Upd.refl _ _, rfl⟩
       intro val W66 hx66 he66
       replace hx66 := (Upd.drew _ _).trans hx66
       have hz66 := hx66.size
       replace hB1 := hB1.ext hx66
       replace hs := hs.ext hx66
       replace hk := hk.ext hx66
       replace hU := hU.trans (Ext.upd hx66)
       replace hE := hE.trans hx66
       refine L_gy (dj := 233) rfl rfl rfl (X_scmp (a := ea.2) (b := eb.2) (r := false) rfl rfl rfl hge ?_)
       refine L_op rfl (X_pick (t := true) (v := (.bool (false))) rfl rfl ?_)
       refine L_nil ?_
       refine T_n ?_
       refine W_cf rfl ?_
       refine W_skip ?_
       refine T_n ?_
       exact ⟨rfl, (), hE, (Out.suf rfl rfl), trivial⟩
      ·have hj0 := of_decide_eq_false hs65
       refine W_draw 16 [[], [0], [0, 1], [0, 1, 2], [0, 1, 2, 3], [0, 1, 2], [0, 1, 2, 5], [0, 1, 2, 3, 4, 5, 6], [0, 1, 2, 3, 4, 5, 6, 7], [0, 1, 2, 3, 4, 5, 6, 7, 8], [0, 1, 2], [0, 1, 2, 10], [0, 1, 2], [0, 1, 2, 10, 11, 12], [0, 1, 2, 10, 11, 12, 13], [0, 1, 2, 10, 11, 12, 13, 14], [0, 1, 2, 3, 4, 5, 6, 7, 8, 9, 10, 11, 12, 13, 14, 15], [0, 1, 2, 3, 4, 5, 6, 7, 8, 9, 10, 11, 12, 13, 14, 15, 16]] mixed (by kernel_rfl) ?_
       refine ⟨.det (fun val => (.int .i64 (((j : Nat) : Int)))), ⟨fun _ _ hv => rfl, fun _ _ _ _ _ => trivial⟩, fun val h_ W hx he => ⟨trivial, ?_⟩, ?_⟩
       ·exact X_move (v := (.int .i64 (((j : Nat) : Int)))) rfl ⟨Upd.refl _ _, rfl⟩
       refine ⟨.det (fun val => (.bool (false))), ⟨fun _ _ hv => rfl, fun _ _ _ _ _ => trivial⟩, fun val h_ W hx he => ⟨trivial, ?_⟩, ?_⟩
       ·exact X_cmp (k := .i64) (a := ((j : Nat) : Int)) (b := 0) (r := false) rfl rfl rfl (decide_eq_false (p := ((0) : Int) < ((((j : Nat) : Int)) : Int)) (by omega)) ⟨Upd.refl _ _, rfl⟩
       refine ⟨.det (fun val => (.bool (false))), ⟨fun _ _ hv => rfl, fun _ _ _ _ _ => trivial⟩, fun val h_ W hx he => ⟨trivial, ?_⟩, ?_⟩
       ·exact X_move (v := (.bool (false))) rfl ⟨Upd.refl _ _, rfl⟩
       refine ⟨.no, ⟨fun _ _ _ => trivial, fun _ _ _ _ _ => trivial⟩, fun val h_ W hx he => ⟨233, rfl, .inl rfl⟩, ?_⟩
       refine ⟨.no, ⟨fun _ _ _ => trivial, fun _ _ _ _ _ => trivial⟩, fun val h_ W hx he => ⟨233, rfl, .inl rfl⟩, ?_⟩
       refine ⟨.no, ⟨fun _ _ _ => trivial, fun _ _ _ _ _ => trivial⟩, fun val h_ W hx he => ⟨233, rfl, .inl rfl⟩, ?_⟩
       refine ⟨.no, ⟨fun _ _ _ => trivial, fun _ _ _ _ _ => trivial⟩, fun val h_ W hx he => ⟨233, rfl, .inl rfl⟩, ?_⟩
       refine ⟨.no, ⟨fun _ _ _ => trivial, fun _ _ _ _ _ => trivial⟩, fun val h_ W hx he => ⟨233, rfl, .inl rfl⟩, ?_⟩
       refine ⟨.no, ⟨fun _ _ _ => trivial, fun _ _ _ _ _ => trivial⟩, fun val h_ W hx he => ⟨233, rfl, .inl rfl⟩, ?_⟩
       refine ⟨.no, ⟨fun _ _ _ => trivial, fun _ _ _ _ _ => trivial⟩, fun val h_ W hx he => ⟨233, rfl, .inl rfl⟩, ?_⟩
       refine ⟨.no, ⟨fun _ _ _ => trivial, fun _ _ _ _ _ => trivial⟩, fun val h_ W hx he => ⟨233, rfl, .inl rfl⟩, ?_⟩
       refine ⟨.no, ⟨fun _ _ _ => trivial, fun _ _ _ _ _ => trivial⟩, fun val h_ W hx he => ⟨233, rfl, .inl rfl⟩, ?_⟩
       refine ⟨.no, ⟨fun _ _ _ => trivial, fun _ _ _ _ _ => trivial⟩, fun val h_ W hx he => ⟨233, rfl, .inl rfl⟩, ?_⟩
       refine ⟨.no, ⟨fun _ _ _ => trivial, fun _ _ _ _ _ => trivial⟩, fun val h_ W hx he => ⟨233, rfl, .inl rfl⟩, ?_⟩
       refine ⟨.no, ⟨fun _ _ _ => trivial, fun _ _ _ _ _ => trivial⟩, fun val h_ W hx he => ⟨233, rfl, .inl rfl⟩, ?_⟩
       refine ⟨.no, ⟨fun _ _ _ => trivial, fun _ _ _ _ _ => trivial⟩, fun val h_ W hx he => ⟨233, rfl, .inl rfl⟩, ?_⟩
       intro val W69 hx69 he69
       replace hx69 := (Upd.drew _ _).trans hx69
       have hz69 := hx69.size
       replace hB1 := hB1.ext hx69
       replace hs := hs.ext hx69
       replace hk := hk.ext hx69
       replace hU := hU.trans (Ext.upd hx69)
       replace hE := hE.trans hx69
       refine L_gn (dj := 233) (t := false) rfl rfl rfl rfl ?_
       refine L_op rfl (X_pick (t := false) (v := (.bool (false))) rfl rfl ?_)
       refine L_nil ?_
       refine T_n ?_
       refine W_cf rfl ?_
       refine W_skip ?_
       refine T_n ?_
       exact ⟨rfl, (), hE, (Out.suf rfl rfl), trivial⟩
     ·rintro _u w64 _ hE31
      have hzc64 := hE31.size
      replace hB1 := hB1.ext hE31
      replace hs := hs.ext hE31
      replace hk := hk.ext hE31
      replace hU := hU.trans (Ext.upd hE31)
      refine W_seq ?_
      refine W_seq ?_
      rcases Bool.eq_false_or_eq_true (scmp .leq (eb.2) (m)) with hs70 | hs70
      ·have hle := (le_iff hris (bl_at heb)).1 hs70
       rw [← hsk] at hle
       refine W_draw 8 [[], [0], [], [0, 1, 2], [0, 1, 2, 3], [0, 1, 2, 3, 4], [], [6], [0, 1, 2, 3, 4, 5, 6, 7]] mixed (by kernel_rfl) ?_
       refine ⟨.det (fun val => (ptr b1 (1))), ⟨fun _ _ hv => rfl, fun _ _ _ _ _ => trivial⟩, fun val h_ W hx he => ⟨trivial, ?_⟩, ?_⟩
       ·exact X_fldP (b := b1) (o := 0) (r := 1) Fd27_1 rfl rfl ⟨Upd.refl _ _, rfl⟩
       refine ⟨.det (fun val => s.kv), ⟨fun _ _ hv => rfl, fun _ _ _ _ _ => trivial⟩, fun val h_ W hx he => ⟨trivial, ?_⟩, ?_⟩
       ·replace hx := (Upd.drew _ _).trans hx
        replace hB1 := hB1.ext hx
        refine id (X_load (p := (ptr b1 (1))) (v := s.kv) T22 rfl (hB1.at1 rfl) ?_)
        exact ⟨Upd.refl _ _, rfl⟩
       refine ⟨.det (fun val => (.int .i64 (((j : Nat) : Int)))), ⟨fun _ _ hv => rfl, fun _ _ _ _ _ => trivial⟩, fun val h_ W hx he => ⟨trivial, ?_⟩, ?_⟩
       ·exact X_move (v := (.int .i64 (((j : Nat) : Int)))) rfl ⟨Upd.refl _ _, rfl⟩
       refine ⟨.det (fun val => (pof s.kv ((((j : Nat) : Int) : Int).toNat * 1))), ⟨fun _ _ hv => rfl, fun _ _ _ _ _ => trivial⟩, fun val h_ W hx he => ⟨trivial, ?_⟩, ?_⟩
       ·replace hx := (Upd.drew _ _).trans hx
        replace hs := hs.ext hx
        refine id (X_idx (v := s.kv) (n := s.ks.length) (k := .i64) (i := ((j : Nat) : Int)) S22 rfl hs.k.sv rfl (by omega) (by omega) ?_)
        exact ⟨Upd.refl _ _, rfl⟩
       refine ⟨.det (fun val => eb.1), ⟨fun _ _ hv => rfl, fun _ _ _ _ _ => trivial⟩, fun val h_ W hx he => ⟨trivial, ?_⟩, ?_⟩
       ·replace hx := (Upd.drew _ _).trans hx
        replace hs := hs.ext hx
        refine id (X_load (v := eb.1) T23 rfl (bkey hs.k (Int.toNat_natCast _) heb) ?_)
        exact ⟨Upd.refl _ _, rfl⟩
       refine ⟨.det (fun val => (strV (eb.2))), ⟨fun _ _ hv => rfl, fun _ _ _ _ _ => trivial⟩, fun val h_ W hx he => ⟨trivial, ?_⟩, ?_⟩
       ·replace hx := (Upd.drew _ _).trans hx
        replace hs := hs.ext hx
        refine id (X_str (v := eb.1) (l := eb.2) Tryd.underlying23 Tryd.underlying5 Tryd.underlying9 rfl (brd hs.k heb) ?_)
        exact ⟨Upd.refl _ _, rfl⟩
       refine ⟨.det (fun val => key), ⟨fun _ _ hv => rfl, fun _ _ _ _ _ => trivial⟩, fun val h_ W hx he => ⟨trivial, ?_⟩, ?_⟩
       ·exact X_move (v := key) rfl ⟨Upd.refl _ _, rfl⟩
       refine ⟨.det (fun val => (strV (m))), ⟨fun _ _ hv => rfl, fun _ _ _ _ _ => trivial⟩, fun val h_ W hx he => ⟨trivial, ?_⟩, ?_⟩
       ·replace hx := (Upd.drew _ _).trans hx
        replace hk := hk.ext hx
        refine id (X_str (v := key) (l := m) Tryd.underlying23 Tryd.underlying5 Tryd.underlying9 rfl hk ?_)
        exact ⟨Upd.refl _ _, rfl⟩
       intro val W71 hx71 he71
       replace hx71 := (Upd.drew _ _).trans hx71
       have hz71 := hx71.size
       replace hB1 := hB1.ext hx71
       replace hs := hs.ext hx71
       replace hk := hk.ext hx71
       replace hU := hU.trans (Ext.upd hx71)
       refine L_op rfl (X_scmp (a := eb.2) (b := m) (r := true) rfl rfl rfl hs70 ?_)
       refine L_nil ?_
       refine T_n ?_
       refine W_ct rfl ?_
       refine W_reg ?_
       refine L_op rfl (X_move (v := (.int .i64 (((j : Nat) : Int)))) rfl ?_)
       refine L_op rfl (X_assign (v := (.int .i64 (((j : Nat) : Int)))) rfl ?_)
       refine L_nil ?_
       refine T_n ?_
       refine W_seq ?_
       rcases Bool.eq_false_or_eq_true (scmp .geq (eb.2) (m)) with hs73 | hs73
       ·rcases Bool.eq_false_or_eq_true (decide (hi = ((s.ks.length : Nat) : Int))) with hs74 | hs74
        ·have hge := (ge_iff hris hat (bl_at heb)).1 hs73
         have hhe := of_decide_eq_true hs74
         refine W_draw 14 [[], [0], [], [0, 1, 2], [0, 1, 2, 3], [0, 1, 2, 3, 4], [], [6], [0, 1, 2, 3, 4, 5, 6, 7], [0, 1, 2, 3, 4, 5, 6, 7, 8], [0, 1, 2, 3, 4, 5, 6, 7, 8, 9], [0, 1, 2, 3, 4, 5, 6, 7, 8, 9], [0, 1, 2, 3, 4, 5, 6, 7, 8, 9, 11], [0, 1, 2, 3, 4, 5, 6, 7, 8, 9, 11, 12], [0, 1, 2, 3, 4, 5, 6, 7, 8, 9, 10, 11, 12, 13], [0, 1, 2, 3, 4, 5, 6, 7, 8, 9, 10, 11, 12, 13, 14]] mixed (by kernel_rfl) ?_
         refine ⟨.det (fun val => (ptr b1 (1))), ⟨fun _ _ hv => rfl, fun _ _ _ _ _ => trivial⟩, fun val h_ W hx he => ⟨trivial, ?_⟩, ?_⟩
         ·exact X_fldP (b := b1) (o := 0) (r := 1) Fd27_1 rfl rfl ⟨Upd.refl _ _, rfl⟩
         refine ⟨.det (fun val => s.kv), ⟨fun _ _ hv => rfl, fun _ _ _ _ _ => trivial⟩, fun val h_ W hx he => ⟨trivial, ?_⟩, ?_⟩
         ·replace hx := (Upd.drew _ _).trans hx
          replace hB1 := hB1.ext hx
          refine id (X_load (p := (ptr b1 (1))) (v := s.kv) T22 rfl (hB1.at1 rfl) ?_)
          exact ⟨Upd.refl _ _, rfl⟩
         refine ⟨.det (fun val => (.int .i64 (((j : Nat) : Int)))), ⟨fun _ _ hv => rfl, fun _ _ _ _ _ => trivial⟩, fun val h_ W hx he => ⟨trivial, ?_⟩, ?_⟩
         ·exact X_move (v := (.int .i64 (((j : Nat) : Int)))) rfl ⟨Upd.refl _ _, rfl⟩
         refine ⟨.det (fun val => (pof s.kv ((((j : Nat) : Int) : Int).toNat * 1))), ⟨fun _ _ hv => rfl, fun _ _ _ _ _ => trivial⟩, fun val h_ W hx he => ⟨trivial, ?_⟩, ?_⟩
         ·replace hx := (Upd.drew _ _).trans hx
          replace hs := hs.ext hx
          refine id (X_idx (v := s.kv) (n := s.ks.length) (k := .i64) (i := ((j : Nat) : Int)) S22 rfl hs.k.sv rfl (by omega) (by omega) ?_)
          exact ⟨Upd.refl _ _, rfl⟩
         refine ⟨.det (fun val => eb.1), ⟨fun _ _ hv => rfl, fun _ _ _ _ _ => trivial⟩, fun val h_ W hx he => ⟨trivial, ?_⟩, ?_⟩
         ·replace hx := (Upd.drew _ _).trans hx
          replace hs := hs.ext hx
          refine id (X_load (v := eb.1) T23 rfl (bkey hs.k (Int.toNat_natCast _) heb) ?_)
          exact ⟨Upd.refl _ _, rfl⟩
         refine ⟨.det (fun val => (strV (eb.2))), ⟨fun _ _ hv => rfl, fun _ _ _ _ _ => trivial⟩, fun val h_ W hx he => ⟨trivial, ?_⟩, ?_⟩
         ·replace hx := (Upd.drew _ _).trans hx
          replace hs := hs.ext hx
          refine id (X_str (v := eb.1) (l := eb.2) Tryd.underlying23 Tryd.underlying5 Tryd.underlying9 rfl (brd hs.k heb) ?_)
          exact ⟨Upd.refl _ _, rfl⟩
         refine ⟨.det (fun val => key), ⟨fun _ _ hv => rfl, fun _ _ _ _ _ => trivial⟩, fun val h_ W hx he => ⟨trivial, ?_⟩, ?_⟩
         ·exact X_move (v := key) rfl ⟨Upd.refl _ _, rfl⟩
         refine ⟨.det (fun val => (strV (m))), ⟨fun _ _ hv => rfl, fun _ _ _ _ _ => trivial⟩, fun val h_ W hx he => ⟨trivial, ?_⟩, ?_⟩
         ·replace hx := (Upd.drew _ _).trans hx
          replace hk := hk.ext hx
          refine id (X_str (v := key) (l := m) Tryd.underlying23 Tryd.underlying5 Tryd.underlying9 rfl hk ?_)
          exact ⟨Upd.refl _ _, rfl⟩
         refine ⟨.det (fun val => (.bool (true))), ⟨fun _ _ hv => rfl, fun _ _ _ _ _ => trivial⟩, fun val h_ W hx he => ⟨trivial, ?_⟩, ?_⟩
         ·exact X_scmp (a := eb.2) (b := m) (r := true) rfl rfl rfl hs73 ⟨Upd.refl _ _, rfl⟩
         refine ⟨.det (fun val => (.bool (true))), ⟨fun _ _ hv => rfl, fun _ _ _ _ _ => trivial⟩, fun val h_ W hx he => ⟨trivial, ?_⟩, ?_⟩
         ·exact X_move (v := (.bool (true))) rfl ⟨Upd.refl _ _, rfl⟩
         refine ⟨.det (fun val => (.int .i64 (hi))), ⟨fun _ _ hv => rfl, fun _ _ _ _ _ => trivial⟩, fun val h_ W hx he => ⟨⟨268, rfl, rfl⟩, ?_⟩, ?_⟩
         ·exact X_move (v := (.int .i64 (hi))) rfl ⟨Upd.refl _ _, rfl⟩
         refine ⟨.det (fun val => (ptr b1 (1))), ⟨fun _ _ hv => rfl, fun _ _ _ _ _ => trivial⟩, fun val h_ W hx he => ⟨⟨268, rfl, rfl⟩, ?_⟩, ?_⟩
         ·exact X_fldP (b := b1) (o := 0) (r := 1) Fd27_1 rfl rfl ⟨Upd.refl _ _, rfl⟩
         refine ⟨.det (fun val => s.kv), ⟨fun _ _ hv => rfl, fun _ _ _ _ _ => trivial⟩, fun val h_ W hx he => ⟨⟨268, rfl, rfl⟩, ?_⟩, ?_⟩
         ·replace hx := (Upd.drew _ _).trans hx
          replace hB1 := hB1.ext hx
          refine id (X_load (p := (ptr b1 (1))) (v := s.kv) T22 rfl (hB1.at1 rfl) ?_)
          exact ⟨Upd.refl _ _, rfl⟩
         refine ⟨.det (fun val => (.int .i64 (((s.ks.length : Nat) : Int)))), ⟨fun _ _ hv => rfl, fun _ _ _ _ _ => trivial⟩, fun val h_ W hx he => ⟨⟨268, rfl, rfl⟩, ?_⟩, ?_⟩
         ·replace hx := (Upd.drew _ _).trans hx
          replace hs := hs.ext hx
          refine id (X_len (v := s.kv) (n := s.ks.length) Tryd.underlying22 rfl hs.k.sv ?_)
          exact ⟨Upd.refl _ _, rfl⟩
         intro val W75 hx75 he75
         replace hx75 := (Upd.drew _ _).trans hx75
         have hz75 := hx75.size
         replace hB1 := hB1.ext hx75
         replace hs := hs.ext hx75
         replace hk := hk.ext hx75
         replace hU := hU.trans (Ext.upd hx75)
         refine L_gy (dj := 268) rfl rfl rfl (X_cmp (k := .i64) (a := hi) (b := ((s.ks.length : Nat) : Int)) (r := true) rfl rfl rfl (decide_eq_true (p := ((hi) : Int) = ((((s.ks.length : Nat) : Int)) : Int)) (by omega)) ?_)
         refine L_op rfl (X_pick (t := true) (v := (.bool (true))) rfl rfl ?_)
         refine L_nil ?_
         refine T_n ?_
         refine W_ct rfl ?_
         refine W_reg ?_
         refine L_op rfl (X_move (v := (.int .i64 (((j : Nat) : Int)))) rfl ?_)
         refine L_op rfl (X_assign (v := (.int .i64 (((j : Nat) : Int)))) rfl ?_)
         refine L_nil ?_
         refine B_n ?_
         refine T_n ?_
         refine W_reg ?_
         refine L_op rfl (X_move (v := (.int .i64 (((j : Nat) : Int)))) rfl ?_)
         refine L_op rfl (X_arith (k := .i64) (a := ((j : Nat) : Int)) (b := 1) (r := ((j + 1 : Nat) : Int)) rfl rfl rfl (iadd64 (by omega) (by omega) (by omega)) ?_)
         refine L_op rfl (X_assign (v := (.int .i64 (((j + 1 : Nat) : Int)))) rfl ?_)
         refine L_nil ?_
         refine T_n ?_
         exact ⟨rfl, (j + 1, ((j : Nat) : Int), ((j : Nat) : Int)), ⟨⟨hj, by omega, by omega, hB1, hs, hk, by omega, hU⟩, (by show s.ks.length - (j + 1) < s.ks.length - j; omega)⟩, (Out.in_ rfl rfl (Out.mk rfl)), ⟨rfl, rfl, rfl, trivial⟩⟩
        ·have hge := (ge_iff hris hat (bl_at heb)).1 hs73
         have hhe := of_decide_eq_false hs74
         refine W_draw 14 [[], [0], [], [0, 1, 2], [0, 1, 2, 3], [0, 1, 2, 3, 4], [], [6], [0, 1, 2, 3, 4, 5, 6, 7], [0, 1, 2, 3, 4, 5, 6, 7, 8], [0, 1, 2, 3, 4, 5, 6, 7, 8, 9], [0, 1, 2, 3, 4, 5, 6, 7, 8, 9], [0, 1, 2, 3, 4, 5, 6, 7, 8, 9, 11], [0, 1, 2, 3, 4, 5, 6, 7, 8, 9, 11, 12], [0, 1, 2, 3, 4, 5, 6, 7, 8, 9, 10, 11, 12, 13], [0, 1, 2, 3, 4, 5, 6, 7, 8, 9, 10, 11, 12, 13, 14]] mixed (by kernel_rfl) ?_
         refine ⟨.det (fun val => (ptr b1 (1))), ⟨fun _ _ hv => rfl, fun _ _ _ _ _ => trivial⟩, fun val h_ W hx he => ⟨trivial, ?_⟩, ?_⟩
         ·exact X_fldP (b := b1) (o := 0) (r := 1) Fd27_1 rfl rfl ⟨Upd.refl _ _, rfl⟩
         refine ⟨.det (fun val => s.kv), ⟨fun _ _ hv => rfl, fun _ _ _ _ _ => trivial⟩, fun val h_ W hx he => ⟨trivial, ?_⟩, ?_⟩
         ·replace hx := (Upd.drew _ _).trans hx
          replace hB1 := hB1.ext hx
          refine id (X_load (p := (ptr b1 (1))) (v := s.kv) T22 rfl (hB1.at1 rfl) ?_)
          exact ⟨Upd.refl _ _, rfl⟩
         refine ⟨.det (fun val => (.int .i64 (((j : Nat) : Int)))), ⟨fun _ _ hv => rfl, fun _ _ _ _ _ => trivial⟩, fun val h_ W hx he => ⟨trivial, ?_⟩, ?_⟩
         ·exact X_move (v := (.int .i64 (((j : Nat) : Int)))) rfl ⟨Upd.refl _ _, rfl⟩
         refine ⟨.det (fun val => (pof s.kv ((((j : Nat) : Int) : Int).toNat * 1))), ⟨fun _ _ hv => rfl, fun _ _ _ _ _ => trivial⟩, fun val h_ W hx he => ⟨trivial, ?_⟩, ?_⟩
         ·replace hx := (Upd.drew _ _).trans hx
          replace hs := hs.ext hx
          refine id (X_idx (v := s.kv) (n := s.ks.length) (k := .i64) (i := ((j : Nat) : Int)) S22 rfl hs.k.sv rfl (by omega) (by omega) ?_)
          exact ⟨Upd.refl _ _, rfl⟩
         refine ⟨.det (fun val => eb.1), ⟨fun _ _ hv => rfl, fun _ _ _ _ _ => trivial⟩, fun val h_ W hx he => ⟨trivial, ?_⟩, ?_⟩
         ·replace hx := (Upd.drew _ _).trans hx
          replace hs := hs.ext hx
          refine id (X_load (v := eb.1) T23 rfl (bkey hs.k (Int.toNat_natCast _) heb) ?_)
          exact ⟨Upd.refl _ _, rfl⟩
         refine ⟨.det (fun val => (strV (eb.2))), ⟨fun _ _ hv => rfl, fun _ _ _ _ _ => trivial⟩, fun val h_ W hx he => ⟨trivial, ?_⟩, ?_⟩
         ·replace hx := (Upd.drew _ _).trans hx
          replace hs := hs.ext hx
          refine id (X_str (v := eb.1) (l := eb.2) Tryd.underlying23 Tryd.underlying5 Tryd.underlying9 rfl (brd hs.k heb) ?_)
          exact ⟨Upd.refl _ _, rfl⟩
         refine ⟨.det (fun val => key), ⟨fun _ _ hv => rfl, fun _ _ _ _ _ => trivial⟩, fun val h_ W hx he => ⟨trivial, ?_⟩, ?_⟩
         ·exact X_move (v := key) rfl ⟨Upd.refl _ _, rfl⟩
         refine ⟨.det (fun val => (strV (m))), ⟨fun _ _ hv => rfl, fun _ _ _ _ _ => trivial⟩, fun val h_ W hx he => ⟨trivial, ?_⟩, ?_⟩
         ·replace hx := (Upd.drew _ _).trans hx
          replace hk := hk.ext hx
          refine id (X_str (v := key) (l := m) Tryd.underlying23 Tryd.underlying5 Tryd.underlying9 rfl hk ?_)
          exact ⟨Upd.refl _ _, rfl⟩
         refine ⟨.det (fun val => (.bool (true))), ⟨fun _ _ hv => rfl, fun _ _ _ _ _ => trivial⟩, fun val h_ W hx he => ⟨trivial, ?_⟩, ?_⟩
         ·exact X_scmp (a := eb.2) (b := m) (r := true) rfl rfl rfl hs73 ⟨Upd.refl _ _, rfl⟩
         refine ⟨.det (fun val => (.bool (true))), ⟨fun _ _ hv => rfl, fun _ _ _ _ _ => trivial⟩, fun val h_ W hx he => ⟨trivial, ?_⟩, ?_⟩
         ·exact X_move (v := (.bool (true))) rfl ⟨Upd.refl _ _, rfl⟩
         refine ⟨.det (fun val => (.int .i64 (hi))), ⟨fun _ _ hv => rfl, fun _ _ _ _ _ => trivial⟩, fun val h_ W hx he => ⟨⟨268, rfl, rfl⟩, ?_⟩, ?_⟩
         ·exact X_move (v := (.int .i64 (hi))) rfl ⟨Upd.refl _ _, rfl⟩
         refine ⟨.det (fun val => (ptr b1 (1))), ⟨fun _ _ hv => rfl, fun _ _ _ _ _ => trivial⟩, fun val h_ W hx he => ⟨⟨268, rfl, rfl⟩, ?_⟩, ?_⟩
         ·exact X_fldP (b := b1) (o := 0) (r := 1) Fd27_1 rfl rfl ⟨Upd.refl _ _, rfl⟩
         refine ⟨.det (fun val => s.kv), ⟨fun _ _ hv => rfl, fun _ _ _ _ _ => trivial⟩, fun val h_ W hx he => ⟨⟨268, rfl, rfl⟩, ?_⟩, ?_⟩
         ·replace hx := (Upd.drew _ _).trans hx
          replace hB1 := hB1.ext hx
          refine id (X_load (p := (ptr b1 (1))) (v := s.kv) T22 rfl (hB1.at1 rfl) ?_)
          exact ⟨Upd.refl _ _, rfl⟩
         refine ⟨.det (fun val => (.int .i64 (((s.ks.length : Nat) : Int)))), ⟨fun _ _ hv => rfl, fun _ _ _ _ _ => trivial⟩, fun val h_ W hx he => ⟨⟨268, rfl, rfl⟩, ?_⟩, ?_⟩
         ·replace hx := (Upd.drew _ _).trans hx
          replace hs := hs.ext hx
          refine id (X_len (v := s.kv) (n := s.ks.length) Tryd.underlying22 rfl hs.k.sv ?_)
          exact ⟨Upd.refl _ _, rfl⟩
         intro val W77 hx77 he77
         replace hx77 := (Upd.drew _ _).trans hx77
         have hz77 := hx77.size
         replace hB1 := hB1.ext hx77
         replace hs := hs.ext hx77
         replace hk := hk.ext hx77
         replace hU := hU.trans (Ext.upd hx77)
         refine L_gy (dj := 268) rfl rfl rfl (X_cmp (k := .i64) (a := hi) (b := ((s.ks.length : Nat) : Int)) (r := false) rfl rfl rfl (decide_eq_false (p := ((hi) : Int) = ((((s.ks.length : Nat) : Int)) : Int)) (by omega)) ?_)
         refine L_op rfl (X_pick (t := true) (v := (.bool (false))) rfl rfl ?_)
         refine L_nil ?_
         refine T_n ?_
         refine W_cf rfl ?_
         refine W_skip ?_
         refine B_n ?_
         refine T_n ?_
         refine W_reg ?_
         refine L_op rfl (X_move (v := (.int .i64 (((j : Nat) : Int)))) rfl ?_)
         refine L_op rfl (X_arith (k := .i64) (a := ((j : Nat) : Int)) (b := 1) (r := ((j + 1 : Nat) : Int)) rfl rfl rfl (iadd64 (by omega) (by omega) (by omega)) ?_)
         refine L_op rfl (X_assign (v := (.int .i64 (((j + 1 : Nat) : Int)))) rfl ?_)
         refine L_nil ?_
         refine T_n ?_
         exact ⟨rfl, (j + 1, ((j : Nat) : Int), hi), ⟨⟨hj, by omega, by omega, hB1, hs, hk, by omega, hU⟩, (by show s.ks.length - (j + 1) < s.ks.length - j; omega)⟩, (Out.in_ rfl rfl (Out.mk rfl)), ⟨rfl, rfl, rfl, trivial⟩⟩
       ·have hge : ¬ n ≤ j := fun h_ => by have h9 := (ge_iff hris hat (bl_at heb)).2 h_; rw [hs73] at h9; cases h9
        refine W_draw 14 [[], [0], [], [0, 1, 2], [0, 1, 2, 3], [0, 1, 2, 3, 4], [], [6], [0, 1, 2, 3, 4, 5, 6, 7], [0, 1, 2, 3, 4, 5, 6, 7, 8], [0, 1, 2, 3, 4, 5, 6, 7, 8, 9], [0, 1, 2, 3, 4, 5, 6, 7, 8, 9], [0, 1, 2, 3, 4, 5, 6, 7, 8, 9, 11], [0, 1, 2, 3, 4, 5, 6, 7, 8, 9, 11, 12], [0, 1, 2, 3, 4, 5, 6, 7, 8, 9, 10, 11, 12, 13], [0, 1, 2, 3, 4, 5, 6, 7, 8, 9, 10, 11, 12, 13, 14]] mixed (by kernel_rfl) ?_
        refine ⟨.det (fun val => (ptr b1 (1))), ⟨fun _ _ hv => rfl, fun _ _ _ _ _ => trivial⟩, fun val h_ W hx he => ⟨trivial, ?_⟩, ?_⟩
        ·exact X_fldP (b := b1) (o := 0) (r := 1) Fd27_1 rfl rfl ⟨Upd.refl _ _, rfl⟩
        refine ⟨.det (fun val => s.kv), ⟨fun _ _ hv => rfl, fun _ _ _ _ _ => trivial⟩, fun val h_ W hx he => ⟨trivial, ?_⟩, ?_⟩
        ·replace hx := (Upd.drew _ _).trans hx
         replace hB1 := hB1.ext hx
         refine id (X_load (p := (ptr b1 (1))) (v := s.kv) T22 rfl (hB1.at1 rfl) ?_)
         exact ⟨Upd.refl _ _, rfl⟩
        refine ⟨.det (fun val => (.int .i64 (((j : Nat) : Int)))), ⟨fun _ _ hv => rfl, fun _ _ _ _ _ => trivial⟩, fun val h_ W hx he => ⟨trivial, ?_⟩, ?_⟩
        ·exact X_move (v := (.int .i64 (((j : Nat) : Int)))) rfl ⟨Upd.refl _ _, rfl⟩
        refine ⟨.det (fun val => (pof s.kv ((((j : Nat) : Int) : Int).toNat * 1))), ⟨fun _ _ hv => rfl, fun _ _ _ _ _ => trivial⟩, fun val h_ W hx he => ⟨trivial, ?_⟩, ?_⟩
        ·replace hx := (Upd.drew _ _).trans hx
         replace hs := hs.ext hx
         refine id (X_idx (v := s.kv) (n := s.ks.length) (k := .i64) (i := ((j : Nat) : Int)) S22 rfl hs.k.sv rfl (by omega) (by omega) ?_)
         exact ⟨Upd.refl _ _, rfl⟩
        refine ⟨.det (fun val => eb.1), ⟨fun _ _ hv => rfl, fun _ _ _ _ _ => trivial⟩, fun val h_ W hx he => ⟨trivial, ?_⟩, ?_⟩
        ·replace hx := (Upd.drew _ _).trans hx
         replace hs := hs.ext hx
         refine id (X_load (v := eb.1) T23 rfl (bkey hs.k (Int.toNat_natCast _) heb) ?_)
         exact ⟨Upd.refl _ _, rfl⟩
        refine ⟨.det (fun val => (strV (eb.2))), ⟨fun _ _ hv => rfl, fun _ _ _ _ _ => trivial⟩, fun val h_ W hx he => ⟨trivial, ?_⟩, ?_⟩
        ·replace hx := (Upd.drew _ _).trans hx
         replace hs := hs.ext hx
         refine id (X_str (v := eb.1) (l := eb.2) Tryd.underlying23 Tryd.underlying5 Tryd.underlying9 rfl (brd hs.k heb) ?_)
         exact ⟨Upd.refl _ _, rfl⟩
        refine ⟨.det (fun val => key), ⟨fun _ _ hv => rfl, fun _ _ _ _ _ => trivial⟩, fun val h_ W hx he => ⟨trivial, ?_⟩, ?_⟩
        ·exact X_move (v := key) rfl ⟨Upd.refl _ _, rfl⟩
        refine ⟨.det (fun val => (strV (m))), ⟨fun _ _ hv => rfl, fun _ _ _ _ _ => trivial⟩, fun val h_ W hx he => ⟨trivial, ?_⟩, ?_⟩
        ·replace hx := (Upd.drew _ _).trans hx
         replace hk := hk.ext hx
         refine id (X_str (v := key) (l := m) Tryd.underlying23 Tryd.underlying5 Tryd.underlying9 rfl hk ?_)
         exact ⟨Upd.refl _ _, rfl⟩
        refine ⟨.det (fun val => (.bool (false))), ⟨fun _ _ hv => rfl, fun _ _ _ _ _ => trivial⟩, fun val h_ W hx he => ⟨trivial, ?_⟩, ?_⟩
        ·exact X_scmp (a := eb.2) (b := m) (r := false) rfl rfl rfl hs73 ⟨Upd.refl _ _, rfl⟩
        refine ⟨.det (fun val => (.bool (false))), ⟨fun _ _ hv => rfl, fun _ _ _ _ _ => trivial⟩, fun val h_ W hx he => ⟨trivial, ?_⟩, ?_⟩
        ·exact X_move (v := (.bool (false))) rfl ⟨Upd.refl _ _, rfl⟩
        refine ⟨.no, ⟨fun _ _ _ => trivial, fun _ _ _ _ _ => trivial⟩, fun val h_ W hx he => ⟨268, rfl, .inl rfl⟩, ?_⟩
        refine ⟨.no, ⟨fun _ _ _ => trivial, fun _ _ _ _ _ => trivial⟩, fun val h_ W hx he => ⟨268, rfl, .inl rfl⟩, ?_⟩
        refine ⟨.no, ⟨fun _ _ _ => trivial, fun _ _ _ _ _ => trivial⟩, fun val h_ W hx he => ⟨268, rfl, .inl rfl⟩, ?_⟩
        refine ⟨.no, ⟨fun _ _ _ => trivial, fun _ _ _ _ _ => trivial⟩, fun val h_ W hx he => ⟨268, rfl, .inl rfl⟩, ?_⟩
        intro val W79 hx79 he79
        replace hx79 := (Upd.drew _ _).trans hx79
        have hz79 := hx79.size
        replace hB1 := hB1.ext hx79
        replace hs := hs.ext hx79
        replace hk := hk.ext hx79
        replace hU := hU.trans (Ext.upd hx79)
        refine L_gn (dj := 268) (t := false) rfl rfl rfl rfl ?_
        refine L_op rfl (X_pick (t := false) (v := (.bool (false))) rfl rfl ?_)
        refine L_nil ?_
        refine T_n ?_
        refine W_cf rfl ?_
        refine W_skip ?_
        refine B_n ?_
        refine T_n ?_
        refine W_reg ?_
        refine L_op rfl (X_move (v := (.int .i64 (((j : Nat) : Int)))) rfl ?_)
        refine L_op rfl (X_arith (k := .i64) (a := ((j : Nat) : Int)) (b := 1) (r := ((j + 1 : Nat) : Int)) rfl rfl rfl (iadd64 (by omega) (by omega) (by omega)) ?_)
        refine L_op rfl (X_assign (v := (.int .i64 (((j + 1 : Nat) : Int)))) rfl ?_)
        refine L_nil ?_
        refine T_n ?_
        exact ⟨rfl, (j + 1, ((j : Nat) : Int), hi), ⟨⟨hj, by omega, by omega, hB1, hs, hk, by omega, hU⟩, (by show s.ks.length - (j + 1) < s.ks.length - j; omega)⟩, (Out.in_ rfl rfl (Out.mk rfl)), ⟨rfl, rfl, rfl, trivial⟩⟩
      ·have hle : ¬ (j : Int) ≤ sk := fun h_ => by rw [hsk] at h_; have h9 := (le_iff hris (bl_at heb)).2 h_; rw [hs70] at h9; cases h9
       refine W_draw 8 [[], [0], [], [0, 1, 2], [0, 1, 2, 3], [0, 1, 2, 3, 4], [], [6], [0, 1, 2, 3, 4, 5, 6, 7]] mixed (by kernel_rfl) ?_
       refine ⟨.det (fun val => (ptr b1 (1))), ⟨fun _ _ hv => rfl, fun _ _ _ _ _ => trivial⟩, fun val h_ W hx he => ⟨trivial, ?_⟩, ?_⟩
       ·exact X_fldP (b := b1) (o := 0) (r := 1) Fd27_1 rfl rfl ⟨Upd.refl _ _, rfl⟩
       refine ⟨.det (fun val => s.kv), ⟨fun _ _ hv => rfl, fun _ _ _ _ _ => trivial⟩, fun val h_ W hx he => ⟨trivial, ?_⟩, ?_⟩
       ·replace hx := (Upd.drew _ _).trans hx
        replace hB1 := hB1.ext hx
        refine id (X_load (p := (ptr b1 (1))) (v := s.kv) T22 rfl (hB1.at1 rfl) ?_)
        exact ⟨Upd.refl _ _, rfl⟩
       refine ⟨.det (fun val => (.int .i64 (((j : Nat) : Int)))), ⟨fun _ _ hv => rfl, fun _ _ _ _ _ => trivial⟩, fun val h_ W hx he => ⟨trivial, ?_⟩, ?_⟩
       ·exact X_move (v := (.int .i64 (((j : Nat) : Int)))) rfl ⟨Upd.refl _ _, rfl⟩
       refine ⟨.det (fun val => (pof s.kv ((((j : Nat) : Int) : Int).toNat * 1))), ⟨fun _ _ hv => rfl, fun _ _ _ _ _ => trivial⟩, fun val h_ W hx he => ⟨trivial, ?_⟩, ?_⟩
       ·replace hx := (Upd.drew _ _).trans hx
        replace hs := hs.ext hx
        refine id (X_idx (v := s.kv) (n := s.ks.length) (k := .i64) (i := ((j : Nat) : Int)) S22 rfl hs.k.sv rfl (by omega) (by omega) ?_)
        exact ⟨Upd.refl _ _, rfl⟩
       refine ⟨.det (fun val => eb.1), ⟨fun _ _ hv => rfl, fun _ _ _ _ _ => trivial⟩, fun val h_ W hx he => ⟨trivial, ?_⟩, ?_⟩
       ·replace hx := (Upd.drew _ _).trans hx
        replace hs := hs.ext hx
        refine id (X_load (v := eb.1) T23 rfl (bkey hs.k (Int.toNat_natCast _) heb) ?_)
        exact ⟨Upd.refl _ _, rfl⟩
       refine ⟨.det (fun val => (strV (eb.2))), ⟨fun _ _ hv => rfl, fun _ _ _ _ _ => trivial⟩, fun val h_ W hx he => ⟨trivial, ?_⟩, ?_⟩
       ·replace hx := (Upd.drew _ _).trans hx
        replace hs := hs.ext hx
        refine id (X_str (v := eb.1) (l := eb.2) Tryd.underlying23 Tryd.underlying5 Tryd.underlying9 rfl (brd hs.k heb) ?_)
        exact ⟨Upd.refl _ _, rfl⟩
       refine ⟨.det (fun val => key), ⟨fun _ _ hv => rfl, fun _ _ _ _ _ => trivial⟩, fun val h_ W hx he => ⟨trivial, ?_⟩, ?_⟩
       ·exact X_move (v := key) rfl ⟨Upd.refl _ _, rfl⟩
       refine ⟨.det (fun val => (strV (m))), ⟨fun _ _ hv => rfl, fun _ _ _ _ _ => trivial⟩, fun val h_ W hx he => ⟨trivial, ?_⟩, ?_⟩
       ·replace hx := (Upd.drew _ _).trans hx
        replace hk := hk.ext hx
        refine id (X_str (v := key) (l := m) Tryd.underlying23 Tryd.underlying5 Tryd.underlying9 rfl hk ?_)
        exact ⟨Upd.refl _ _, rfl⟩
       intro val W81 hx81 he81
       replace hx81 := (Upd.drew _ _).trans hx81
       have hz81 := hx81.size
       replace hB1 := hB1.ext hx81
       replace hs := hs.ext hx81
       replace hk := hk.ext hx81
       replace hU := hU.trans (Ext.upd hx81)
       refine L_op rfl (X_scmp (a := eb.2) (b := m) (r := false) rfl rfl rfl hs70 ?_)
       refine L_nil ?_
       refine T_n ?_
       refine W_cf rfl ?_
       refine W_skip ?_
       refine T_n ?_
       refine W_seq ?_
       rcases Bool.eq_false_or_eq_true (scmp .geq (eb.2) (m)) with hs83 | hs83
       ·rcases Bool.eq_false_or_eq_true (decide (hi = ((s.ks.length : Nat) : Int))) with hs84 | hs84
        ·have hge := (ge_iff hris hat (bl_at heb)).1 hs83
         have hhe := of_decide_eq_true hs84
         refine W_draw 14 [[], [0], [], [0, 1, 2], [0, 1, 2, 3], [0, 1, 2, 3, 4], [], [6], [0, 1, 2, 3, 4, 5, 6, 7], [0, 1, 2, 3, 4, 5, 6, 7, 8], [0, 1, 2, 3, 4, 5, 6, 7, 8, 9], [0, 1, 2, 3, 4, 5, 6, 7, 8, 9], [0, 1, 2, 3, 4, 5, 6, 7, 8, 9, 11], [0, 1, 2, 3, 4, 5, 6, 7, 8, 9, 11, 12], [0, 1, 2, 3, 4, 5, 6, 7, 8, 9, 10, 11, 12, 13], [0, 1, 2, 3, 4, 5, 6, 7, 8, 9, 10, 11, 12, 13, 14]] mixed (by kernel_rfl) ?_
         refine ⟨.det (fun val => (ptr b1 (1))), ⟨fun _ _ hv => rfl, fun _ _ _ _ _ => trivial⟩, fun val h_ W hx he => ⟨trivial, ?_⟩, ?_⟩
         ·exact X_fldP (b := b1) (o := 0) (r := 1) Fd27_1 rfl rfl ⟨Upd.refl _ _, rfl⟩
         refine ⟨.det (fun val => s.kv), ⟨fun _ _ hv => rfl, fun _ _ _ _ _ => trivial⟩, fun val h_ W hx he => ⟨trivial, ?_⟩, ?_⟩
         ·replace hx := (Upd.drew _ _).trans hx
          replace hB1 := hB1.ext hx
          refine id (X_load (p := (ptr b1 (1))) (v := s.kv) T22 rfl (hB1.at1 rfl) ?_)
          exact ⟨Upd.refl _ _, rfl⟩
         refine ⟨.det (fun val => (.int .i64 (((j : Nat) : Int)))), ⟨fun _ _ hv => rfl, fun _ _ _ _ _ => trivial⟩, fun val h_ W hx he => ⟨trivial, ?_⟩, ?_⟩
         ·exact X_move (v := (.int .i64 (((j : Nat) : Int)))) rfl ⟨Upd.refl _ _, rfl⟩
         refine ⟨.det (fun val => (pof s.kv ((((j : Nat) : Int) : Int).toNat * 1))), ⟨fun _ _ hv => rfl, fun _ _ _ _ _ => trivial⟩, fun val h_ W hx he => ⟨trivial, ?_⟩, ?_⟩
         ·replace hx := (Upd.drew _ _).trans hx
          replace hs := hs.ext hx
          refine id (X_idx (v := s.kv) (n := s.ks.length) (k := .i64) (i := ((j : Nat) : Int)) S22 rfl hs.k.sv rfl (by omega) (by omega) ?_)
          exact ⟨Upd.refl _ _, rfl⟩
         refine ⟨.det (fun val => eb.1), ⟨fun _ _ hv => rfl, fun _ _ _ _ _ => trivial⟩, fun val h_ W hx he => ⟨trivial, ?_⟩, ?_⟩
         ·replace hx := (Upd.drew _ _).trans hx
          replace hs := hs.ext hx
          refine id (X_load (v := eb.1) T23 rfl (bkey hs.k (Int.toNat_natCast _) heb) ?_)
          exact ⟨Upd.refl _ _, rfl⟩
         refine ⟨.det (fun val => (strV (eb.2))), ⟨fun _ _ hv => rfl, fun _ _ _ _ _ => trivial⟩, fun val h_ W hx he => ⟨trivial, ?_⟩, ?_⟩
         ·replace hx := (Upd.drew _ _).trans hx
          replace hs := hs.ext hx
          refine id (X_str (v := eb.1) (l := eb.2) Tryd.underlying23 Tryd.underlying5 Tryd.underlying9 rfl (brd hs.k heb) ?_)
          exact ⟨Upd.refl _ _, rfl⟩
         refine ⟨.det (fun val => key), ⟨fun _ _ hv => rfl, fun _ _ _ _ _ => trivial⟩, fun val h_ W hx he => ⟨trivial, ?_⟩, ?_⟩
         ·exact X_move (v := key) rfl ⟨Upd.refl _ _, rfl⟩
         refine ⟨.det (fun val => (strV (m))), ⟨fun _ _ hv => rfl, fun _ _ _ _ _ => trivial⟩, fun val h_ W hx he => ⟨trivial, ?_⟩, ?_⟩
         ·replace hx := (Upd.drew _ _).trans hx
          replace hk := hk.ext hx
          refine id (X_str (v := key) (l := m) Tryd.underlying23 Tryd.underlying5 Tryd.underlying9 rfl hk ?_)
          exact ⟨Upd.refl _ _, rfl⟩
         refine ⟨.det (fun val => (.bool (true))), ⟨fun _ _ hv => rfl, fun _ _ _ _ _ => trivial⟩, fun val h_ W hx he => ⟨trivial, ?_⟩, ?_⟩
         ·exact X_scmp (a := eb.2) (b := m) (r := true) rfl rfl rfl hs83 ⟨Upd.refl _ _, rfl⟩
         refine ⟨.det (fun val => (.bool (true))), ⟨fun _ _ hv => rfl, fun _ _ _ _ _ => trivial⟩, fun val h_ W hx he => ⟨trivial, ?_⟩, ?_⟩
         ·exact X_move (v := (.bool (true))) rfl ⟨Upd.refl _ _, rfl⟩
         refine ⟨.det (fun val => (.int .i64 (hi))), ⟨fun _ _ hv => rfl, fun _ _ _ _ _ => trivial⟩, fun val h_ W hx he => ⟨⟨268, rfl, rfl⟩, ?_⟩, ?_⟩
         ·exact X_move (v := (.int .i64 (hi))) rfl ⟨Upd.refl _ _, rfl⟩
         refine ⟨.det (fun val => (ptr b1 (1))), ⟨fun _ _ hv => rfl, fun _ _ _ _ _ => trivial⟩, fun val h_ W hx he => ⟨⟨268, rfl, rfl⟩, ?_⟩, ?_⟩
         ·exact X_fldP (b := b1) (o := 0) (r := 1) Fd27_1 rfl rfl ⟨Upd.refl _ _, rfl⟩
         refine ⟨.det (fun val => s.kv), ⟨fun _ _ hv => rfl, fun _ _ _ _ _ => trivial⟩, fun val h_ W hx he => ⟨⟨268, rfl, rfl⟩, ?_⟩, ?_⟩
         ·replace hx := (Upd.drew _ _).trans hx
          replace hB1 := hB1.ext hx
          refine id (X_load (p := (ptr b1 (1))) (v := s.kv) T22 rfl (hB1.at1 rfl) ?_)
          exact ⟨Upd.refl _ _, rfl⟩
         refine ⟨.det (fun val => (.int .i64 (((s.ks.length : Nat) : Int)))), ⟨fun _ _ hv => rfl, fun _ _ _ _ _ => trivial⟩, fun val h_ W hx he => ⟨⟨268, rfl, rfl⟩, ?_⟩, ?_⟩
         ·replace hx := (Upd.drew _ _).trans hx
          replace hs := hs.ext hx
          refine id (X_len (v := s.kv) (n := s.ks.length) Tryd.underlying22 rfl hs.k.sv ?_)
          exact ⟨Upd.refl _ _, rfl⟩
         intro val W85 hx85 he85
         replace hx85 := (Upd.drew _ _).trans hx85
         have hz85 := hx85.size
         replace hB1 := hB1.ext hx85
         replace hs := hs.ext hx85
         replace hk := hk.ext hx85
         replace hU := hU.trans (Ext.upd hx85)
         refine L_gy (dj := 268) rfl rfl rfl (X_cmp (k := .i64) (a := hi) (b := ((s.ks.length : Nat) : Int)) (r := true) rfl rfl rfl (decide_eq_true (p := ((hi) : Int) = ((((s.ks.length : Nat) : Int)) : Int)) (by omega)) ?_)
         refine L_op rfl (X_pick (t := true) (v := (.bool (true))) rfl rfl ?_)
         refine L_nil ?_
         refine T_n ?_
         refine W_ct rfl ?_
         refine W_reg ?_
         refine L_op rfl (X_move (v := (.int .i64 (((j : Nat) : Int)))) rfl ?_)
         refine L_op rfl (X_assign (v := (.int .i64 (((j : Nat) : Int)))) rfl ?_)
         refine L_nil ?_
         refine B_n ?_
         refine T_n ?_
         refine W_reg ?_
         refine L_op rfl (X_move (v := (.int .i64 (((j : Nat) : Int)))) rfl ?_)
         refine L_op rfl (X_arith (k := .i64) (a := ((j : Nat) : Int)) (b := 1) (r := ((j + 1 : Nat) : Int)) rfl rfl rfl (iadd64 (by omega) (by omega) (by omega)) ?_)
         refine L_op rfl (X_assign (v := (.int .i64 (((j + 1 : Nat) : Int)))) rfl ?_)
         refine L_nil ?_
         refine T_n ?_
         exact ⟨rfl, (j + 1, lo, ((j : Nat) : Int)), ⟨⟨hj, by omega, by omega, hB1, hs, hk, by omega, hU⟩, (by show s.ks.length - (j + 1) < s.ks.length - j; omega)⟩, (Out.in_ rfl rfl (Out.mk rfl)), ⟨rfl, rfl, rfl, trivial⟩⟩
        ·have hge := (ge_iff hris hat (bl_at heb)).1 hs83
         have hhe := of_decide_eq_false hs84
         refine W_draw 14 [[], [0], [], [0, 1, 2], [0, 1, 2, 3], [0, 1, 2, 3, 4], [], [6], [0, 1, 2, 3, 4, 5, 6, 7], [0, 1, 2, 3, 4, 5, 6, 7, 8], [0, 1, 2, 3, 4, 5, 6, 7, 8, 9], [0, 1, 2, 3, 4, 5, 6, 7, 8, 9], [0, 1, 2, 3, 4, 5, 6, 7, 8, 9, 11], [0, 1, 2, 3, 4, 5, 6, 7, 8, 9, 11, 12], [0, 1, 2, 3, 4, 5, 6, 7, 8, 9, 10, 11, 12, 13], [0, 1, 2, 3, 4, 5, 6, 7, 8, 9, 10, 11, 12, 13, 14]] mixed (by kernel_rfl) ?_
         refine ⟨.det (fun val => (ptr b1 (1))), ⟨fun _ _ hv => rfl, fun _ _ _ _ _ => trivial⟩, fun val h_ W hx he => ⟨trivial, ?_⟩, ?_⟩
         ·exact X_fldP (b := b1) (o := 0) (r := 1) Fd27_1 rfl rfl ⟨Upd.refl _ _, rfl⟩
         refine ⟨.det (fun val => s.kv), ⟨fun _ _ hv => rfl, fun _ _ _ _ _ => trivial⟩, fun val h_ W hx he => ⟨trivial, ?_⟩, ?_⟩
         ·replace hx := (Upd.drew _ _).trans hx
          replace hB1 := hB1.ext hx
          refine id (X_load (p := (ptr b1 (1))) (v := s.kv) T22 rfl (hB1.at1 rfl) ?_)
          exact ⟨Upd.refl _ _, rfl⟩
         refine ⟨.det (fun val => (.int .i64 (((j : Nat) : Int)))), ⟨fun _ _ hv => rfl, fun _ _ _ _ _ => trivial⟩, fun val h_ W hx he => ⟨trivial, ?_⟩, ?_⟩
         ·exact X_move (v := (.int .i64 (((j : Nat) : Int)))) rfl ⟨Upd.refl _ _, rfl⟩
         refine ⟨.det (fun val => (pof s.kv ((((j : Nat) : Int) : Int).toNat * 1))), ⟨fun _ _ hv => rfl, fun _ _ _ _ _ => trivial⟩, fun val h_ W hx he => ⟨trivial, ?_⟩, ?_⟩
         ·replace hx := (Upd.drew _ _).trans hx
          replace hs := hs.ext hx
          refine id (X_idx (v := s.kv) (n := s.ks.length) (k := .i64) (i := ((j : Nat) : Int)) S22 rfl hs.k.sv rfl (by omega) (by omega) ?_)
          exact ⟨Upd.refl _ _, rfl⟩
         refine ⟨.det (fun val => eb.1), ⟨fun _ _ hv => rfl, fun _ _ _ _ _ => trivial⟩, fun val h_ W hx he => ⟨trivial, ?_⟩, ?_⟩
         ·replace hx := (Upd.drew _ _).trans hx
          replace hs := hs.ext hx
          refine id (X_load (v := eb.1) T23 rfl (bkey hs.k (Int.toNat_natCast _) heb) ?_)
          exact ⟨Upd.refl _ _, rfl⟩
         refine ⟨.det (fun val => (strV (eb.2))), ⟨fun _ _ hv => rfl, fun _ _ _ _ _ => trivial⟩, fun val h_ W hx he => ⟨trivial, ?_⟩, ?_⟩
         ·replace hx := (Upd.drew _ _).trans hx
          replace hs := hs.ext hx
          refine id (X_str (v := eb.1) (l := eb.2) Tryd.underlying23 Tryd.underlying5 Tryd.underlying9 rfl (brd hs.k heb) ?_)
          exact ⟨Upd.refl _ _, rfl⟩
         refine ⟨.det (fun val => key), ⟨fun _ _ hv => rfl, fun _ _ _ _ _ => trivial⟩, fun val h_ W hx he => ⟨trivial, ?_⟩, ?_⟩
         ·exact X_move (v := key) rfl ⟨Upd.refl _ _, rfl⟩
         refine ⟨.det (fun val => (strV (m))), ⟨fun _ _ hv => rfl, fun _ _ _ _ _ => trivial⟩, fun val h_ W hx he => ⟨trivial, ?_⟩, ?_⟩
         ·replace hx := (Upd.drew _ _).trans hx
          replace hk := hk.ext hx
          refine id (X_str (v := key) (l := m) Tryd.underlying23 Tryd.underlying5 Tryd.underlying9 rfl hk ?_)
          exact ⟨Upd.refl _ _, rfl⟩
         refine ⟨.det (fun val => (.bool (true))), ⟨fun _ _ hv => rfl, fun _ _ _ _ _ => trivial⟩, fun val h_ W hx he => ⟨trivial, ?_⟩, ?_⟩
         ·exact X_scmp (a := eb.2) (b := m) (r := true) rfl rfl rfl hs83 ⟨Upd.refl _ _, rfl⟩
         refine ⟨.det (fun val => (.bool (true))), ⟨fun _ _ hv => rfl, fun _ _ _ _ _ => trivial⟩, fun val h_ W hx he => ⟨trivial, ?_⟩, ?_⟩
         ·exact X_move (v := (.bool (true))) rfl ⟨Upd.refl _ _, rfl⟩
         refine ⟨.det (fun val => (.int .i64 (hi))), ⟨fun _ _ hv => rfl, fun _ _ _ _ _ => trivial⟩, fun val h_ W hx he => ⟨⟨268, rfl, rfl⟩, ?_⟩, ?_⟩
         ·exact X_move (v := (.int .i64 (hi))) rfl ⟨Upd.refl _ _, rfl⟩
         refine ⟨.det (fun val => (ptr b1 (1))), ⟨fun _ _ hv => rfl, fun _ _ _ _ _ => trivial⟩, fun val h_ W hx he => ⟨⟨268, rfl, rfl⟩, ?_⟩, ?_⟩
         ·exact X_fldP (b := b1) (o := 0) (r := 1) Fd27_1 rfl rfl ⟨Upd.refl _ _, rfl⟩
         refine ⟨.det (fun val => s.kv), ⟨fun _ _ hv => rfl, fun _ _ _ _ _ => trivial⟩, fun val h_ W hx he => ⟨⟨268, rfl, rfl⟩, ?_⟩, ?_⟩
         ·replace hx := (Upd.drew _ _).trans hx
          replace hB1 := hB1.ext hx
          refine id (X_load (p := (ptr b1 (1))) (v := s.kv) T22 rfl (hB1.at1 rfl) ?_)
          exact ⟨Upd.refl _ _, rfl⟩
         refine ⟨.det (fun val => (.int .i64 (((s.ks.length : Nat) : Int)))), ⟨fun _ _ hv => rfl, fun _ _ _ _ _ => trivial⟩, fun val h_ W hx he => ⟨⟨268, rfl, rfl⟩, ?_⟩, ?_⟩
         ·replace hx := (Upd.drew _ _).trans hx
          replace hs := hs.ext hx
          refine id (X_len (v := s.kv) (n := s.ks.length) Tryd.underlying22 rfl hs.k.sv ?_)
          exact ⟨Upd.refl _ _, rfl⟩
         intro val W87 hx87 he87
         replace hx87 := (Upd.drew _ _).trans hx87
         have hz87 := hx87.size
         replace hB1 := hB1.ext hx87
         replace hs := hs.ext hx87
         replace hk := hk.ext hx87
         replace hU := hU.trans (Ext.upd hx87)
         refine L_gy (dj := 268) rfl rfl rfl (X_cmp (k := .i64) (a := hi) (b := ((s.ks.length : Nat) : Int)) (r := false) rfl rfl rfl (decide_eq_false (p := ((hi) : Int) = ((((s.ks.length : Nat) : Int)) : Int)) (by omega)) ?_)
         refine L_op rfl (X_pick (t := true) (v := (.bool (false))) rfl rfl ?_)
         refine L_nil ?_
         refine T_n ?_
         refine W_cf rfl ?_
         refine W_skip ?_
         refine B_n ?_
         refine T_n ?_
         refine W_reg ?_
         refine L_op rfl (X_move (v := (.int .i64 (((j : Nat) : Int)))) rfl ?_)
         refine L_op rfl (X_arith (k := .i64) (a := ((j : Nat) : Int)) (b := 1) (r := ((j + 1 : Nat) : Int)) rfl rfl rfl (iadd64 (by omega) (by omega) (by omega)) ?_)
         refine L_op rfl (X_assign (v := (.int .i64 (((j + 1 : Nat) : Int)))) rfl ?_)
         refine L_nil ?_
         refine T_n ?_
         exact ⟨rfl, (j + 1, lo, hi), ⟨⟨hj, by omega, by omega, hB1, hs, hk, by omega, hU⟩, (by show s.ks.length - (j + 1) < s.ks.length - j; omega)⟩, (Out.in_ rfl rfl (Out.mk rfl)), ⟨rfl, rfl, rfl, trivial⟩⟩
       ·have hge : ¬ n ≤ j := fun h_ => by have h9 := (ge_iff hris hat (bl_at heb)).2 h_; rw [hs83] at h9; cases h9
        refine W_draw 14 [[], [0], [], [0, 1, 2], [0, 1, 2, 3], [0, 1, 2, 3, 4], [], [6], [0, 1, 2, 3, 4, 5, 6, 7], [0, 1, 2, 3, 4, 5, 6, 7, 8], [0, 1, 2, 3, 4, 5, 6, 7, 8, 9], [0, 1, 2, 3, 4, 5, 6, 7, 8, 9], [0, 1, 2, 3, 4, 5, 6, 7, 8, 9, 11], [0, 1, 2, 3, 4, 5, 6, 7, 8, 9, 11, 12], [0, 1, 2, 3, 4, 5, 6, 7, 8, 9, 10, 11, 12, 13], [0, 1, 2, 3, 4, 5, 6, 7, 8, 9, 10, 11, 12, 13, 14]] mixed (by kernel_rfl) ?_
        refine ⟨.det (fun val => (ptr b1 (1))), ⟨fun _ _ hv => rfl, fun _ _ _ _ _ => trivial⟩, fun val h_ W hx he => ⟨trivial, ?_⟩, ?_⟩
        ·exact X_fldP (b := b1) (o := 0) (r := 1) Fd27_1 rfl rfl ⟨Upd.refl _ _, rfl⟩
        refine ⟨.det (fun val => s.kv), ⟨fun _ _ hv => rfl, fun _ _ _ _ _ => trivial⟩, fun val h_ W hx he => ⟨trivial, ?_⟩, ?_⟩
        ·replace hx := (Upd.drew _ _).trans hx
         replace hB1 := hB1.ext hx
         refine id (X_load (p := (ptr b1 (1))) (v := s.kv) T22 rfl (hB1.at1 rfl) ?_)
         exact ⟨Upd.refl _ _, rfl⟩
        refine ⟨.det (fun val => (.int .i64 (((j : Nat) : Int)))), ⟨fun _ _ hv => rfl, fun _ _ _ _ _ => trivial⟩, fun val h_ W hx he => ⟨trivial, ?_⟩, ?_⟩
        ·exact X_move (v := (.int .i64 (((j : Nat) : Int)))) rfl ⟨Upd.refl _ _, rfl⟩
        refine ⟨.det (fun val => (pof s.kv ((((j : Nat) : Int) : Int).toNat * 1))), ⟨fun _ _ hv => rfl, fun _ _ _ _ _ => trivial⟩, fun val h_ W hx he => ⟨trivial, ?_⟩, ?_⟩
        ·replace hx := (Upd.drew _ _).trans hx
         replace hs := hs.ext hx
         refine id (X_idx (v := s.kv) (n := s.ks.length) (k := .i64) (i := ((j : Nat) : Int)) S22 rfl hs.k.sv rfl (by omega) (by omega) ?_)
         exact ⟨Upd.refl _ _, rfl⟩
        refine ⟨.det (fun val => eb.1), ⟨fun _ _ hv => rfl, fun _ _ _ _ _ => trivial⟩, fun val h_ W hx he => ⟨trivial, ?_⟩, ?_⟩
        ·replace hx := (Upd.drew _ _).trans hx
         replace hs := hs.ext hx
         refine id (X_load (v := eb.1) T23 rfl (bkey hs.k (Int.toNat_natCast _) heb) ?_)
         exact ⟨Upd.refl _ _, rfl⟩
        refine ⟨.det (fun val => (strV (eb.2))), ⟨fun _ _ hv => rfl, fun _ _ _ _ _ => trivial⟩, fun val h_ W hx he => ⟨trivial, ?_⟩, ?_⟩
        ·replace hx := (Upd.drew _ _).trans hx
         replace hs := hs.ext hx
         refine id (X_str (v := eb.1) (l := eb.2) Tryd.underlying23 Tryd.underlying5 Tryd.underlying9 rfl (brd hs.k heb) ?_)
         exact ⟨Upd.refl _ _, rfl⟩
        refine ⟨.det (fun val => key), ⟨fun _ _ hv => rfl, fun _ _ _ _ _ => trivial⟩, fun val h_ W hx he => ⟨trivial, ?_⟩, ?_⟩
        ·exact X_move (v := key) rfl ⟨Upd.refl _ _, rfl⟩
        refine ⟨.det (fun val => (strV (m))), ⟨fun _ _ hv => rfl, fun _ _ _ _ _ => trivial⟩, fun val h_ W hx he => ⟨trivial, ?_⟩, ?_⟩
        ·replace hx := (Upd.drew _ _).trans hx
         replace hk := hk.ext hx
         refine id (X_str (v := key) (l := m) Tryd.underlying23 Tryd.underlying5 Tryd.underlying9 rfl hk ?_)
         exact ⟨Upd.refl _ _, rfl⟩
        refine ⟨.det (fun val => (.bool (false))), ⟨fun _ _ hv => rfl, fun _ _ _ _ _ => trivial⟩, fun val h_ W hx he => ⟨trivial, ?_⟩, ?_⟩
        ·exact X_scmp (a := eb.2) (b := m) (r := false) rfl rfl rfl hs83 ⟨Upd.refl _ _, rfl⟩
        refine ⟨.det (fun val => (.bool (false))), ⟨fun _ _ hv => rfl, fun _ _ _ _ _ => trivial⟩, fun val h_ W hx he => ⟨trivial, ?_⟩, ?_⟩
        ·exact X_move (v := (.bool (false))) rfl ⟨Upd.refl _ _, rfl⟩
        refine ⟨.no, ⟨fun _ _ _ => trivial, fun _ _ _ _ _ => trivial⟩, fun val h_ W hx he => ⟨268, rfl, .inl rfl⟩, ?_⟩
        refine ⟨.no, ⟨fun _ _ _ => trivial, fun _ _ _ _ _ => trivial⟩, fun val h_ W hx he => ⟨268, rfl, .inl rfl⟩, ?_⟩
        refine ⟨.no, ⟨fun _ _ _ => trivial, fun _ _ _ _ _ => trivial⟩, fun val h_ W hx he => ⟨268, rfl, .inl rfl⟩, ?_⟩
        refine ⟨.no, ⟨fun _ _ _ => trivial, fun _ _ _ _ _ => trivial⟩, fun val h_ W hx he => ⟨268, rfl, .inl rfl⟩, ?_⟩
        intro val W89 hx89 he89
        replace hx89 := (Upd.drew _ _).trans hx89
        have hz89 := hx89.size
        replace hB1 := hB1.ext hx89
        replace hs := hs.ext hx89
        replace hk := hk.ext hx89
        replace hU := hU.trans (Ext.upd hx89)
        refine L_gn (dj := 268) (t := false) rfl rfl rfl rfl ?_
        refine L_op rfl (X_pick (t := false) (v := (.bool (false))) rfl rfl ?_)
        refine L_nil ?_
        refine T_n ?_
        refine W_cf rfl ?_
        refine W_skip ?_
        refine B_n ?_
        refine T_n ?_
        refine W_reg ?_
        refine L_op rfl (X_move (v := (.int .i64 (((j : Nat) : Int)))) rfl ?_)
        refine L_op rfl (X_arith (k := .i64) (a := ((j : Nat) : Int)) (b := 1) (r := ((j + 1 : Nat) : Int)) rfl rfl rfl (iadd64 (by omega) (by omega) (by omega)) ?_)
        refine L_op rfl (X_assign (v := (.int .i64 (((j + 1 : Nat) : Int)))) rfl ?_)
        refine L_nil ?_
        refine T_n ?_
        exact ⟨rfl, (j + 1, lo, hi), ⟨⟨hj, by omega, by omega, hB1, hs, hk, by omega, hU⟩, (by show s.ks.length - (j + 1) < s.ks.length - j; omega)⟩, (Out.in_ rfl rfl (Out.mk rfl)), ⟨rfl, rfl, rfl, trivial⟩⟩
    ·refine L_op rfl (X_cmp (k := .i64) (a := ((j : Nat) : Int)) (b := ((s.ks.length : Nat) : Int)) (r := false) rfl rfl rfl (decide_eq_false (p := ((((j : Nat) : Int)) : Int) < ((((s.ks.length : Nat) : Int)) : Int)) (by omega)) ?_)
     refine L_nil ?_
     refine T_n ?_
     refine W_cf rfl ?_
     refine W_exit ?_
     refine T_e ?_
     refine T_e ?_
     refine B_x ?_
     refine T_n ?_
     refine W_seq ?_
     have hje : j = s.ks.length := by omega
     have hlo : lo = sk := by omega
     have hhi : hi = (n : Int) := by omega
     have hsn : seekD (bl s.ks) m false = ((n : Nat) : Int) := seek_n hat
     refine W_reg ?_
     refine L_op rfl (X_loadA (p := (ptr b1 (0))) (xs := [(.int .u32 (s.tx)), s.kv, s.vv, (.int .u8 (s.mr)), (.int .u8 (s.lv))]) A27 rfl hB1.atAll rfl ?_)
     refine L_op rfl (X_move (v := key) rfl ?_)
     have hcr_ := c_seek s w62 (b1 + 1) U_ (by omega) hs key m hm hk false
     refine L_op rfl (X_fn (vs := [(.agg ([(.int .u32 (s.tx)), s.kv, s.vv, (.int .u8 (s.mr)), (.int .u8 (s.lv))]).toArray), key, (.bool (false))]) en8 rfl ?_)
     refine CT.mono hcr_ ?_
     clear hcr_
     rintro _ w91 ⟨x1, y1, t1, rfl, hX1, hY1, ht1, hu91⟩
     have hz91 := hu91.size
     rw [hsn] at hX1 hY1 ht1
     replace hB1 := hB1.ext hu91
     replace hs := hs.ext hu91
     replace hk := hk.ext hu91
     replace hU := hU.trans (Ext.upd hu91)
     obtain ⟨kx1, hkx1⟩ : ∃ b, b = valD (bl s.ks) ((n : Nat) : Int) := ⟨_, rfl⟩
     rw [← hkx1] at hX1
     replace hX1 := hX1.rd
     obtain ⟨vx1, hvx1⟩ : ∃ b, b = valD (bl s.vs) ((n : Nat) : Int) := ⟨_, rfl⟩
     rw [← hvx1] at hY1
     replace hY1 := hY1.rd
     refine L_op rfl (X_move (v := (.tuple #[x1, y1, (.bool (t1))])) rfl ?_)
     refine L_op rfl (X_extract (l := [x1, y1, (.bool (t1))]) (v := x1) rfl rfl ?_)
     refine L_op rfl (X_extract (l := [x1, y1, (.bool (t1))]) (v := y1) rfl rfl ?_)
     refine L_op rfl (X_extract (l := [x1, y1, (.bool (t1))]) (v := (.bool (t1))) rfl rfl ?_)
     refine L_op rfl (X_assign (v := x1) rfl ?_)
     refine L_op rfl (X_assign (v := y1) rfl ?_)
     refine L_op rfl (X_assign (v := (.bool (t1))) rfl ?_)
     refine L_nil ?_
     refine T_n ?_
     refine W_seq ?_
     refine W_reg ?_
     refine L_op rfl (X_loadA (p := (ptr b1 (0))) (xs := [(.int .u32 (s.tx)), s.kv, s.vv, (.int .u8 (s.mr)), (.int .u8 (s.lv))]) A27 rfl hB1.atAll rfl ?_)
     refine L_op rfl (X_move (v := key) rfl ?_)
     have hcr_ := c_seek s w91 (b1 + 1) U_ (by omega) hs key m hm hk true
     refine L_op rfl (X_fn (vs := [(.agg ([(.int .u32 (s.tx)), s.kv, s.vv, (.int .u8 (s.mr)), (.int .u8 (s.lv))]).toArray), key, (.bool (true))]) en8 rfl ?_)
     refine CT.mono hcr_ ?_
     clear hcr_
     rintro _ w92 ⟨x2, y2, t2, rfl, hX2, hY2, ht2, hu92⟩
     have hz92 := hu92.size
     rw [← hsk] at hX2 hY2 ht2
     replace hB1 := hB1.ext hu92
     replace hs := hs.ext hu92
     replace hk := hk.ext hu92
     replace hU := hU.trans (Ext.upd hu92)
     replace hX1 := hX1.ext hu92
     replace hY1 := hY1.ext hu92
     obtain ⟨kx2, hkx2⟩ : ∃ b, b = valD (bl s.ks) sk := ⟨_, rfl⟩
     rw [← hkx2] at hX2
     replace hX2 := hX2.rd
     obtain ⟨vx2, hvx2⟩ : ∃ b, b = valD (bl s.vs) sk := ⟨_, rfl⟩
     rw [← hvx2] at hY2
     replace hY2 := hY2.rd
     refine L_op rfl (X_move (v := (.tuple #[x2, y2, (.bool (t2))])) rfl ?_)
     refine L_op rfl (X_extract (l := [x2, y2, (.bool (t2))]) (v := x2) rfl rfl ?_)
     refine L_op rfl (X_extract (l := [x2, y2, (.bool (t2))]) (v := y2) rfl rfl ?_)
     refine L_op rfl (X_extract (l := [x2, y2, (.bool (t2))]) (v := (.bool (t2))) rfl rfl ?_)
     refine L_op rfl (X_assign (v := x2) rfl ?_)
     refine L_op rfl (X_assign (v := y2) rfl ?_)
     refine L_op rfl (X_assign (v := (.bool (t2))) rfl ?_)
     refine L_nil ?_
     refine T_n ?_
     refine W_seq ?_
     refine W_seq ?_
     refine W_reg ?_
     rcases Bool.eq_false_or_eq_true t1 with rfl | rfl
     ·have hq1 := ht1.1 rfl
      obtain ⟨e1, he1⟩ : ∃ e, s.ks[n]? = some e := ⟨_, List.getElem?_eq_getElem (by omega)⟩
      have hkq1 : kx1 = e1.2 := by rw [hkx1]; exact val_at (by omega) (by rw [Int.toNat_natCast]; exact bl_at he1)
      obtain ⟨f1, hf1⟩ : ∃ e, s.vs[n]? = some e := ⟨_, List.getElem?_eq_getElem (by omega)⟩
      have hvq1 : vx1 = f1.2 := by rw [hvx1]; exact val_at (by omega) (by rw [Int.toNat_natCast]; exact bl_at hf1)
      rcases Bool.eq_false_or_eq_true t2 with rfl | rfl
      ·have hq2 := ht2.1 rfl
       obtain ⟨e2, he2⟩ : ∃ e, s.ks[sk.toNat]? = some e := ⟨_, List.getElem?_eq_getElem (by omega)⟩
       have hkq2 : kx2 = e2.2 := by rw [hkx2]; exact val_at (by omega) (bl_at he2)
       obtain ⟨f2, hf2⟩ : ∃ e, s.vs[sk.toNat]? = some e := ⟨_, List.getElem?_eq_getElem (by omega)⟩
       have hvq2 : vx2 = f2.2 := by rw [hvx2]; exact val_at (by omega) (bl_at hf2)
       refine L_op rfl (X_fldP (b := b1) (o := 0) (r := 2) Fd27_2 rfl rfl ?_)
       refine L_op rfl (X_load (p := (ptr b1 (2))) (v := s.vv) T22 rfl (hB1.at1 rfl) ?_)
       refine L_op rfl (X_len (v := s.vv) (n := s.vs.length) Tryd.underlying22 rfl hs.v.sv ?_)
       refine L_op rfl (X_fldP (b := b1) (o := 0) (r := 1) Fd27_1 rfl rfl ?_)
       refine L_op rfl (X_load (p := (ptr b1 (1))) (v := s.kv) T22 rfl (hB1.at1 rfl) ?_)
       refine L_op rfl (X_len (v := s.kv) (n := s.ks.length) Tryd.underlying22 rfl hs.k.sv ?_)
       refine L_op rfl (X_cmp (k := .i64) (a := ((s.vs.length : Nat) : Int)) (b := ((s.ks.length : Nat) : Int)) (r := false) rfl rfl rfl (decide_eq_false (p := ((((s.vs.length : Nat) : Int)) : Int) ≠ ((((s.ks.length : Nat) : Int)) : Int)) (by omega)) ?_)
       refine L_op rfl (X_move (v := (.bool (false))) rfl ?_)
       refine L_gy (dj := 297) rfl rfl rfl (X_move (v := (.bool (true))) rfl ?_)
       refine L_gy (dj := 297) rfl rfl rfl (X_move (v := (.int .i64 (hi))) rfl ?_)
       refine L_gy (dj := 297) rfl rfl rfl (X_fldP (b := b1) (o := 0) (r := 1) Fd27_1 rfl rfl ?_)
       refine L_gy (dj := 297) rfl rfl rfl (X_load (p := (ptr b1 (1))) (v := s.kv) T22 rfl (hB1.at1 rfl) ?_)
       refine L_gy (dj := 297) rfl rfl rfl (X_len (v := s.kv) (n := s.ks.length) Tryd.underlying22 rfl hs.k.sv ?_)
       refine L_gy (dj := 297) rfl rfl rfl (X_cmp (k := .i64) (a := hi) (b := ((s.ks.length : Nat) : Int)) (r := true) rfl rfl rfl (decide_eq_true (p := ((hi) : Int) < ((((s.ks.length : Nat) : Int)) : Int)) (by omega)) ?_)
       refine L_gy (dj := 297) rfl rfl rfl (X_cmpBool (a := true) (b := true) (r := false) Tryd.underlying4 rfl rfl (.inr ⟨rfl, rfl⟩) ?_)
       refine L_op rfl (X_pick (t := false) (v := (.bool (false))) rfl rfl ?_)
       refine L_op rfl (X_move (v := (.bool (false))) rfl ?_)
       refine L_gy (dj := 306) rfl rfl rfl (X_move (v := (.bool (true))) rfl ?_)
       refine L_gy (dj := 306) rfl rfl rfl (X_move (v := (.int .i64 (lo))) rfl ?_)
       refine L_gy (dj := 306) rfl rfl rfl (X_cmp (k := .i64) (a := lo) (b := 0) (r := true) rfl rfl rfl (decide_eq_true (p := ((0) : Int) ≤ ((lo) : Int)) (by omega)) ?_)
       refine L_gy (dj := 306) rfl rfl rfl (X_cmpBool (a := true) (b := true) (r := false) Tryd.underlying4 rfl rfl (.inr ⟨rfl, rfl⟩) ?_)
       refine L_op rfl (X_pick (t := false) (v := (.bool (false))) rfl rfl ?_)
       refine L_nil ?_
       refine T_n ?_
       refine W_cf rfl ?_
       refine W_skip ?_
       refine T_n ?_
       refine W_seq ?_
       refine W_seq ?_
       refine W_draw 44 [[], [0], [0, 1], [0, 1, 2], [0, 1], [0, 1, 4], [0, 1], [0, 1, 4, 5, 6], [0, 1, 4, 5, 6, 7], [0, 1, 4, 5, 6, 7, 8], [0, 1, 2, 3, 4, 5, 6, 7, 8, 9], [0, 1, 2, 3, 4, 5, 6, 7, 8, 9, 10], [0, 1, 2, 3, 4, 5, 6, 7, 8, 9, 10, 11], [0, 1, 2, 3, 4, 5, 6, 7, 8, 9, 10, 11, 12], [0, 1, 2, 3, 4, 5, 6, 7, 8, 9, 10, 11], [0, 1, 2, 3, 4, 5, 6, 7, 8, 9, 10, 11, 14], [0, 1, 2, 3, 4, 5, 6, 7, 8, 9, 10, 11], [0, 1, 2, 3, 4, 5, 6, 7, 8, 9, 10, 11, 14, 15, 16], [0, 1, 2, 3, 4, 5, 6, 7, 8, 9, 10, 11, 14, 15, 16, 17], [0, 1, 2, 3, 4, 5, 6, 7, 8, 9, 10, 11, 14, 15, 16, 17, 18], [0, 1, 2, 3, 4, 5, 6, 7, 8, 9, 10, 11, 12, 13, 14, 15, 16, 17, 18, 19], [0, 1, 2, 3, 4, 5, 6, 7, 8, 9, 10, 11, 12, 13, 14, 15, 16, 17, 18, 19, 20], [0, 1, 2, 3, 4, 5, 6, 7, 8, 9, 10, 11, 12, 13, 14, 15, 16, 17, 18, 19, 20, 21], [0, 1, 2, 3, 4, 5, 6, 7, 8, 9, 10, 11, 12, 13, 14, 15, 16, 17, 18, 19, 20, 21, 22], [0, 1, 2, 3, 4, 5, 6, 7, 8, 9, 10, 11, 12, 13, 14, 15, 16, 17, 18, 19, 20, 21, 22, 23], [0, 1, 2, 3, 4, 5, 6, 7, 8, 9, 10, 11, 12, 13, 14, 15, 16, 17, 18, 19, 20, 21, 22, 23, 24], [0, 1, 2, 3, 4, 5, 6, 7, 8, 9, 10, 11, 12, 13, 14, 15, 16, 17, 18, 19, 20, 21, 22, 23, 24, 25], [0, 1, 2, 3, 4, 5, 6, 7, 8, 9, 10, 11, 12, 13, 14, 15, 16, 17, 18, 19, 20, 21, 22, 23, 24, 25, 26], [0, 1, 2, 3, 4, 5, 6, 7, 8, 9, 10, 11, 12, 13, 14, 15, 16, 17, 18, 19, 20, 21, 22, 23, 24, 25], [0, 1, 2, 3, 4, 5, 6, 7, 8, 9, 10, 11, 12, 13, 14, 15, 16, 17, 18, 19, 20, 21, 22, 23, 24, 25, 28], [0, 1, 2, 3, 4, 5, 6, 7, 8, 9, 10, 11, 12, 13, 14, 15, 16, 17, 18, 19, 20, 21, 22, 23, 24, 25], [0, 1, 2, 3, 4, 5, 6, 7, 8, 9, 10, 11, 12, 13, 14, 15, 16, 17, 18, 19, 20, 21, 22, 23, 24, 25, 28, 29, 30], [0, 1, 2, 3, 4, 5, 6, 7, 8, 9, 10, 11, 12, 13, 14, 15, 16, 17, 18, 19, 20, 21, 22, 23, 24, 25, 28, 29, 30, 31], [0, 1, 2, 3, 4, 5, 6, 7, 8, 9, 10, 11, 12, 13, 14, 15, 16, 17, 18, 19, 20, 21, 22, 23, 24, 25, 28, 29, 30, 31, 32], [0, 1, 2, 3, 4, 5, 6, 7, 8, 9, 10, 11, 12, 13, 14, 15, 16, 17, 18, 19, 20, 21, 22, 23, 24, 25, 26, 27, 28, 29, 30, 31, 32, 33], [0, 1, 2, 3, 4, 5, 6, 7, 8, 9, 10, 11, 12, 13, 14, 15, 16, 17, 18, 19, 20, 21, 22, 23, 24, 25, 26, 27, 28, 29, 30, 31, 32, 33, 34], [0, 1, 2, 3, 4, 5, 6, 7, 8, 9, 10, 11, 12, 13, 14, 15, 16, 17, 18, 19, 20, 21, 22, 23, 24, 25, 26, 27, 28, 29, 30, 31, 32, 33, 34, 35], [0, 1, 2, 3, 4, 5, 6, 7, 8, 9, 10, 11, 12, 13, 14, 15, 16, 17, 18, 19, 20, 21, 22, 23, 24, 25, 26, 27, 28, 29, 30, 31, 32, 33, 34, 35, 36], [0, 1, 2, 3, 4, 5, 6, 7, 8, 9, 10, 11, 12, 13, 14, 15, 16, 17, 18, 19, 20, 21, 22, 23, 24, 25, 26, 27, 28, 29, 30, 31, 32, 33, 34, 35], [0, 1, 2, 3, 4, 5, 6, 7, 8, 9, 10, 11, 12, 13, 14, 15, 16, 17, 18, 19, 20, 21, 22, 23, 24, 25, 26, 27, 28, 29, 30, 31, 32, 33, 34, 35, 38], [0, 1, 2, 3, 4, 5, 6, 7, 8, 9, 10, 11, 12, 13, 14, 15, 16, 17, 18, 19, 20, 21, 22, 23, 24, 25, 26, 27, 28, 29, 30, 31, 32, 33, 34, 35], [0, 1, 2, 3, 4, 5, 6, 7, 8, 9, 10, 11, 12, 13, 14, 15, 16, 17, 18, 19, 20, 21, 22, 23, 24, 25, 26, 27, 28, 29, 30, 31, 32, 33, 34, 35, 38, 39, 40], [0, 1, 2, 3, 4, 5, 6, 7, 8, 9, 10, 11, 12, 13, 14, 15, 16, 17, 18, 19, 20, 21, 22, 23, 24, 25, 26, 27, 28, 29, 30, 31, 32, 33, 34, 35, 38, 39, 40, 41], [0, 1, 2, 3, 4, 5, 6, 7, 8, 9, 10, 11, 12, 13, 14, 15, 16, 17, 18, 19, 20, 21, 22, 23, 24, 25, 26, 27, 28, 29, 30, 31, 32, 33, 34, 35, 38, 39, 40, 41, 42], [0, 1, 2, 3, 4, 5, 6, 7, 8, 9, 10, 11, 12, 13, 14, 15, 16, 17, 18, 19, 20, 21, 22, 23, 24, 25, 26, 27, 28, 29, 30, 31, 32, 33, 34, 35, 36, 37, 38, 39, 40, 41, 42, 43], [0, 1, 2, 3, 4, 5, 6, 7, 8, 9, 10, 11, 12, 13, 14, 15, 16, 17, 18, 19, 20, 21, 22, 23, 24, 25, 26, 27, 28, 29, 30, 31, 32, 33, 34, 35, 36, 37, 38, 39, 40, 41, 42, 43, 44], [0, 1, 2, 3, 4, 5, 6, 7, 8, 9, 10, 11, 12, 13, 14, 15, 16, 17, 18, 19, 20, 21, 22, 23, 24, 25, 26, 27, 28, 29, 30, 31, 32, 33, 34, 35, 36, 37, 38, 39, 40, 41, 42, 43, 44, 45], [0, 1, 2, 3, 4, 5, 6, 7, 8, 9, 10, 11, 12, 13, 14, 15, 16, 17, 18, 19, 20, 21, 22, 23, 24, 25, 26, 27, 28, 29, 30, 31, 32, 33, 34, 35, 36, 37, 38, 39, 40, 41, 42, 43, 44, 45, 46]] mixed (by kernel_rfl) ?_
       refine ⟨.det (fun val => (.bool (true))), ⟨fun _ _ hv => rfl, fun _ _ _ _ _ => trivial⟩, fun val h_ W hx he => ⟨trivial, ?_⟩, ?_⟩
       ·exact X_move (v := (.bool (true))) rfl ⟨Upd.refl _ _, rfl⟩
       refine ⟨.det (fun val => (.bool (true))), ⟨fun _ _ hv => rfl, fun _ _ _ _ _ => trivial⟩, fun val h_ W hx he => ⟨trivial, ?_⟩, ?_⟩
       ·exact X_move (v := (.bool (true))) rfl ⟨Upd.refl _ _, rfl⟩
       refine ⟨.det (fun val => x1), ⟨fun _ _ hv => rfl, fun _ _ _ _ _ => trivial⟩, fun val h_ W hx he => ⟨⟨313, rfl, rfl⟩, ?_⟩, ?_⟩
       ·exact X_move (v := x1) rfl ⟨Upd.refl _ _, rfl⟩
       refine ⟨.det (fun val => (strV (kx1))), ⟨fun _ _ hv => rfl, fun _ _ _ _ _ => trivial⟩, fun val h_ W hx he => ⟨⟨313, rfl, rfl⟩, ?_⟩, ?_⟩
       ·replace hx := (Upd.drew _ _).trans hx
        replace hX1 := hX1.ext hx
        refine id (X_str (v := x1) (l := kx1) Tryd.underlying23 Tryd.underlying5 Tryd.underlying9 rfl hX1.1 ?_)
        exact ⟨Upd.refl _ _, rfl⟩
       refine ⟨.det (fun val => (ptr b1 (1))), ⟨fun _ _ hv => rfl, fun _ _ _ _ _ => trivial⟩, fun val h_ W hx he => ⟨⟨313, rfl, rfl⟩, ?_⟩, ?_⟩
       ·exact X_fldP (b := b1) (o := 0) (r := 1) Fd27_1 rfl rfl ⟨Upd.refl _ _, rfl⟩
       refine ⟨.det (fun val => s.kv), ⟨fun _ _ hv => rfl, fun _ _ _ _ _ => trivial⟩, fun val h_ W hx he => ⟨⟨313, rfl, rfl⟩, ?_⟩, ?_⟩
       ·replace hx := (Upd.drew _ _).trans hx
        replace hB1 := hB1.ext hx
        refine id (X_load (p := (ptr b1 (1))) (v := s.kv) T22 rfl (hB1.at1 rfl) ?_)
        exact ⟨Upd.refl _ _, rfl⟩
       refine ⟨.det (fun val => (.int .i64 (hi))), ⟨fun _ _ hv => rfl, fun _ _ _ _ _ => trivial⟩, fun val h_ W hx he => ⟨⟨313, rfl, rfl⟩, ?_⟩, ?_⟩
       ·exact X_move (v := (.int .i64 (hi))) rfl ⟨Upd.refl _ _, rfl⟩
       refine ⟨.det (fun val => (pof s.kv ((hi : Int).toNat * 1))), ⟨fun _ _ hv => rfl, fun _ _ _ _ _ => trivial⟩, fun val h_ W hx he => ⟨⟨313, rfl, rfl⟩, ?_⟩, ?_⟩
       ·replace hx := (Upd.drew _ _).trans hx
        replace hs := hs.ext hx
        refine id (X_idx (v := s.kv) (n := s.ks.length) (k := .i64) (i := hi) S22 rfl hs.k.sv rfl (by omega) (by omega) ?_)
        exact ⟨Upd.refl _ _, rfl⟩
       refine ⟨.det (fun val => e1.1), ⟨fun _ _ hv => rfl, fun _ _ _ _ _ => trivial⟩, fun val h_ W hx he => ⟨⟨313, rfl, rfl⟩, ?_⟩, ?_⟩
       ·replace hx := (Upd.drew _ _).trans hx
        replace hs := hs.ext hx
        refine id (X_load (v := e1.1) T23 rfl (bkey hs.k ((by omega)) he1) ?_)
        exact ⟨Upd.refl _ _, rfl⟩
       refine ⟨.det (fun val => (strV (e1.2))), ⟨fun _ _ hv => rfl, fun _ _ _ _ _ => trivial⟩, fun val h_ W hx he => ⟨⟨313, rfl, rfl⟩, ?_⟩, ?_⟩
       ·replace hx := (Upd.drew _ _).trans hx
        replace hs := hs.ext hx
        refine id (X_str (v := e1.1) (l := e1.2) Tryd.underlying23 Tryd.underlying5 Tryd.underlying9 rfl (brd hs.k he1) ?_)
        exact ⟨Upd.refl _ _, rfl⟩
       refine ⟨.det (fun val => (.bool (false))), ⟨fun _ _ hv => rfl, fun _ _ _ _ _ => trivial⟩, fun val h_ W hx he => ⟨⟨313, rfl, rfl⟩, ?_⟩, ?_⟩
       ·exact X_scmp (a := kx1) (b := e1.2) (r := false) rfl rfl rfl (scmp_ne hkq1) ⟨Upd.refl _ _, rfl⟩
       refine ⟨.det (fun val => (.bool (false))), ⟨fun _ _ hv => rfl, fun _ _ _ _ _ => trivial⟩, fun val h_ W hx he => ⟨⟨313, rfl, rfl⟩, ?_⟩, ?_⟩
       ·exact X_move (v := (.bool (false))) rfl ⟨Upd.refl _ _, rfl⟩
       refine ⟨.det (fun val => y1), ⟨fun _ _ hv => rfl, fun _ _ _ _ _ => trivial⟩, fun val h_ W hx he => ⟨⟨323, rfl, rfl⟩, ?_⟩, ?_⟩
       ·exact X_move (v := y1) rfl ⟨Upd.refl _ _, rfl⟩
       refine ⟨.det (fun val => (strV (vx1))), ⟨fun _ _ hv => rfl, fun _ _ _ _ _ => trivial⟩, fun val h_ W hx he => ⟨⟨323, rfl, rfl⟩, ?_⟩, ?_⟩
       ·replace hx := (Upd.drew _ _).trans hx
        replace hY1 := hY1.ext hx
        refine id (X_str (v := y1) (l := vx1) Tryd.underlying23 Tryd.underlying5 Tryd.underlying9 rfl hY1.1 ?_)
        exact ⟨Upd.refl _ _, rfl⟩
       refine ⟨.det (fun val => (ptr b1 (2))), ⟨fun _ _ hv => rfl, fun _ _ _ _ _ => trivial⟩, fun val h_ W hx he => ⟨⟨323, rfl, rfl⟩, ?_⟩, ?_⟩
       ·exact X_fldP (b := b1) (o := 0) (r := 2) Fd27_2 rfl rfl ⟨Upd.refl _ _, rfl⟩
       refine ⟨.det (fun val => s.vv), ⟨fun _ _ hv => rfl, fun _ _ _ _ _ => trivial⟩, fun val h_ W hx he => ⟨⟨323, rfl, rfl⟩, ?_⟩, ?_⟩
       ·replace hx := (Upd.drew _ _).trans hx
        replace hB1 := hB1.ext hx
        refine id (X_load (p := (ptr b1 (2))) (v := s.vv) T22 rfl (hB1.at1 rfl) ?_)
        exact ⟨Upd.refl _ _, rfl⟩
       refine ⟨.det (fun val => (.int .i64 (hi))), ⟨fun _ _ hv => rfl, fun _ _ _ _ _ => trivial⟩, fun val h_ W hx he => ⟨⟨323, rfl, rfl⟩, ?_⟩, ?_⟩
       ·exact X_move (v := (.int .i64 (hi))) rfl ⟨Upd.refl _ _, rfl⟩
       refine ⟨.det (fun val => (pof s.vv ((hi : Int).toNat * 1))), ⟨fun _ _ hv => rfl, fun _ _ _ _ _ => trivial⟩, fun val h_ W hx he => ⟨⟨323, rfl, rfl⟩, ?_⟩, ?_⟩
       ·replace hx := (Upd.drew _ _).trans hx
        replace hs := hs.ext hx
        refine id (X_idx (v := s.vv) (n := s.vs.length) (k := .i64) (i := hi) S22 rfl hs.v.sv rfl (by omega) (by omega) ?_)
        exact ⟨Upd.refl _ _, rfl⟩
       refine ⟨.det (fun val => f1.1), ⟨fun _ _ hv => rfl, fun _ _ _ _ _ => trivial⟩, fun val h_ W hx he => ⟨⟨323, rfl, rfl⟩, ?_⟩, ?_⟩
       ·replace hx := (Upd.drew _ _).trans hx
        replace hs := hs.ext hx
        refine id (X_load (v := f1.1) T23 rfl (bkey hs.v ((by omega)) hf1) ?_)
        exact ⟨Upd.refl _ _, rfl⟩
       refine ⟨.det (fun val => (strV (f1.2))), ⟨fun _ _ hv => rfl, fun _ _ _ _ _ => trivial⟩, fun val h_ W hx he => ⟨⟨323, rfl, rfl⟩, ?_⟩, ?_⟩
       ·replace hx := (Upd.drew _ _).trans hx
        replace hs := hs.ext hx
        refine id (X_str (v := f1.1) (l := f1.2) Tryd.underlying23 Tryd.underlying5 Tryd.underlying9 rfl (brd hs.v hf1) ?_)
        exact ⟨Upd.refl _ _, rfl⟩
       refine ⟨.det (fun val => (.bool (false))), ⟨fun _ _ hv => rfl, fun _ _ _ _ _ => trivial⟩, fun val h_ W hx he => ⟨⟨323, rfl, rfl⟩, ?_⟩, ?_⟩
       ·exact X_scmp (a := vx1) (b := f1.2) (r := false) rfl rfl rfl (scmp_ne hvq1) ⟨Upd.refl _ _, rfl⟩
       refine ⟨.det (fun val => (.bool (false))), ⟨fun _ _ hv => rfl, fun _ _ _ _ _ => trivial⟩, fun val h_ W hx he => ⟨⟨313, rfl, rfl⟩, ?_⟩, ?_⟩
       ·exact X_pick (t := false) (v := (.bool (false))) rfl rfl ⟨Upd.refl _ _, rfl⟩
       refine ⟨.det (fun val => (.bool (false))), ⟨fun _ _ hv => rfl, fun _ _ _ _ _ => trivial⟩, fun val h_ W hx he => ⟨trivial, ?_⟩, ?_⟩
       ·exact X_pick (t := true) (v := (.bool (false))) rfl rfl ⟨Upd.refl _ _, rfl⟩
       refine ⟨.det (fun val => (.bool (false))), ⟨fun _ _ hv => rfl, fun _ _ _ _ _ => trivial⟩, fun val h_ W hx he => ⟨trivial, ?_⟩, ?_⟩
       ·exact X_move (v := (.bool (false))) rfl ⟨Upd.refl _ _, rfl⟩
       refine ⟨.det (fun val => (.bool (true))), ⟨fun _ _ hv => rfl, fun _ _ _ _ _ => trivial⟩, fun val h_ W hx he => ⟨⟨335, rfl, rfl⟩, ?_⟩, ?_⟩
       ·exact X_move (v := (.bool (true))) rfl ⟨Upd.refl _ _, rfl⟩
       refine ⟨.det (fun val => (.bool (true))), ⟨fun _ _ hv => rfl, fun _ _ _ _ _ => trivial⟩, fun val h_ W hx he => ⟨⟨335, rfl, rfl⟩, ?_⟩, ?_⟩
       ·exact X_move (v := (.bool (true))) rfl ⟨Upd.refl _ _, rfl⟩
       refine ⟨.det (fun val => x2), ⟨fun _ _ hv => rfl, fun _ _ _ _ _ => trivial⟩, fun val h_ W hx he => ⟨⟨337, rfl, rfl⟩, ?_⟩, ?_⟩
       ·exact X_move (v := x2) rfl ⟨Upd.refl _ _, rfl⟩
       refine ⟨.det (fun val => (strV (kx2))), ⟨fun _ _ hv => rfl, fun _ _ _ _ _ => trivial⟩, fun val h_ W hx he => ⟨⟨337, rfl, rfl⟩, ?_⟩, ?_⟩
       ·replace hx := (Upd.drew _ _).trans hx
        replace hX2 := hX2.ext hx
        refine id (X_str (v := x2) (l := kx2) Tryd.underlying23 Tryd.underlying5 Tryd.underlying9 rfl hX2.1 ?_)
        exact ⟨Upd.refl _ _, rfl⟩
       refine ⟨.det (fun val => (ptr b1 (1))), ⟨fun _ _ hv => rfl, fun _ _ _ _ _ => trivial⟩, fun val h_ W hx he => ⟨⟨337, rfl, rfl⟩, ?_⟩, ?_⟩
       ·exact X_fldP (b := b1) (o := 0) (r := 1) Fd27_1 rfl rfl ⟨Upd.refl _ _, rfl⟩
       refine ⟨.det (fun val => s.kv), ⟨fun _ _ hv => rfl, fun _ _ _ _ _ => trivial⟩, fun val h_ W hx he => ⟨⟨337, rfl, rfl⟩, ?_⟩, ?_⟩
       ·replace hx := (Upd.drew _ _).trans hx
        replace hB1 := hB1.ext hx
        refine id (X_load (p := (ptr b1 (1))) (v := s.kv) T22 rfl (hB1.at1 rfl) ?_)
        exact ⟨Upd.refl _ _, rfl⟩
       refine ⟨.det (fun val => (.int .i64 (lo))), ⟨fun _ _ hv => rfl, fun _ _ _ _ _ => trivial⟩, fun val h_ W hx he => ⟨⟨337, rfl, rfl⟩, ?_⟩, ?_⟩
       ·exact X_move (v := (.int .i64 (lo))) rfl ⟨Upd.refl _ _, rfl⟩
       refine ⟨.det (fun val => (pof s.kv ((lo : Int).toNat * 1))), ⟨fun _ _ hv => rfl, fun _ _ _ _ _ => trivial⟩, fun val h_ W hx he => ⟨⟨337, rfl, rfl⟩, ?_⟩, ?_⟩
       ·replace hx := (Upd.drew _ _).trans hx
        replace hs := hs.ext hx
        refine id (X_idx (v := s.kv) (n := s.ks.length) (k := .i64) (i := lo) S22 rfl hs.k.sv rfl (by omega) (by omega) ?_)
        exact ⟨Upd.refl _ _, rfl⟩
       refine ⟨.det (fun val => e2.1), ⟨fun _ _ hv => rfl, fun _ _ _ _ _ => trivial⟩, fun val h_ W hx he => ⟨⟨337, rfl, rfl⟩, ?_⟩, ?_⟩
       ·replace hx := (Upd.drew _ _).trans hx
        replace hs := hs.ext hx
        refine id (X_load (v := e2.1) T23 rfl (bkey hs.k ((by omega)) he2) ?_)
        exact ⟨Upd.refl _ _, rfl⟩
       refine ⟨.det (fun val => (strV (e2.2))), ⟨fun _ _ hv => rfl, fun _ _ _ _ _ => trivial⟩, fun val h_ W hx he => ⟨⟨337, rfl, rfl⟩, ?_⟩, ?_⟩
       ·replace hx := (Upd.drew _ _).trans hx
        replace hs := hs.ext hx
        refine id (X_str (v := e2.1) (l := e2.2) Tryd.underlying23 Tryd.underlying5 Tryd.underlying9 rfl (brd hs.k he2) ?_)
        exact ⟨Upd.refl _ _, rfl⟩
       refine ⟨.det (fun val => (.bool (false))), ⟨fun _ _ hv => rfl, fun _ _ _ _ _ => trivial⟩, fun val h_ W hx he => ⟨⟨337, rfl, rfl⟩, ?_⟩, ?_⟩
       ·exact X_scmp (a := kx2) (b := e2.2) (r := false) rfl rfl rfl (scmp_ne hkq2) ⟨Upd.refl _ _, rfl⟩
       refine ⟨.det (fun val => (.bool (false))), ⟨fun _ _ hv => rfl, fun _ _ _ _ _ => trivial⟩, fun val h_ W hx he => ⟨⟨337, rfl, rfl⟩, ?_⟩, ?_⟩
       ·exact X_move (v := (.bool (false))) rfl ⟨Upd.refl _ _, rfl⟩
       refine ⟨.det (fun val => y2), ⟨fun _ _ hv => rfl, fun _ _ _ _ _ => trivial⟩, fun val h_ W hx he => ⟨⟨347, rfl, rfl⟩, ?_⟩, ?_⟩
       ·exact X_move (v := y2) rfl ⟨Upd.refl _ _, rfl⟩
       refine ⟨.det (fun val => (strV (vx2))), ⟨fun _ _ hv => rfl, fun _ _ _ _ _ => trivial⟩, fun val h_ W hx he => ⟨⟨347, rfl, rfl⟩, ?_⟩, ?_⟩
       ·replace hx := (Upd.drew _ _).trans hx
        replace hY2 := hY2.ext hx
        refine id (X_str (v := y2) (l := vx2) Tryd.underlying23 Tryd.underlying5 Tryd.underlying9 rfl hY2.1 ?_)
        exact ⟨Upd.refl _ _, rfl⟩
       refine ⟨.det (fun val => (ptr b1 (2))), ⟨fun _ _ hv => rfl, fun _ _ _ _ _ => trivial⟩, fun val h_ W hx he => ⟨⟨347, rfl, rfl⟩, ?_⟩, ?_⟩
       ·exact X_fldP (b := b1) (o := 0) (r := 2) Fd27_2 rfl rfl ⟨Upd.refl _ _, rfl⟩
       refine ⟨.det (fun val => s.vv), ⟨fun _ _ hv => rfl, fun _ _ _ _ _ => trivial⟩, fun val h_ W hx he => ⟨⟨347, rfl, rfl⟩, ?_⟩, ?_⟩
       ·replace hx := (Upd.drew _ _).trans hx
        replace hB1 := hB1.ext hx
        refine id (X_load (p := (ptr b1 (2))) (v := s.vv) T22 rfl (hB1.at1 rfl) ?_)
        exact ⟨Upd.refl _ _, rfl⟩
       refine ⟨.det (fun val => (.int .i64 (lo))), ⟨fun _ _ hv => rfl, fun _ _ _ _ _ => trivial⟩, fun val h_ W hx he => ⟨⟨347, rfl, rfl⟩, ?_⟩, ?_⟩
       ·exact X_move (v := (.int .i64 (lo))) rfl ⟨Upd.refl _ _, rfl⟩
       refine ⟨.det (fun val => (pof s.vv ((lo : Int).toNat * 1))), ⟨fun _ _ hv => rfl, fun _ _ _ _ _ => trivial⟩, fun val h_ W hx he => ⟨⟨347, rfl, rfl⟩, ?_⟩, ?_⟩
       ·replace hx := (Upd.drew _ _).trans hx
        replace hs := hs.ext hx
        refine id (X_idx (v := s.vv) (n := s.vs.length) (k := .i64) (i := lo) S22 rfl hs.v.sv rfl (by omega) (by omega) ?_)
        exact ⟨Upd.refl _ _, rfl⟩
       refine ⟨.det (fun val => f2.1), ⟨fun _ _ hv => rfl, fun _ _ _ _ _ => trivial⟩, fun val h_ W hx he => ⟨⟨347, rfl, rfl⟩, ?_⟩, ?_⟩
       ·replace hx := (Upd.drew _ _).trans hx
        replace hs := hs.ext hx
        refine id (X_load (v := f2.1) T23 rfl (bkey hs.v ((by omega)) hf2) ?_)
        exact ⟨Upd.refl _ _, rfl⟩
       refine ⟨.det (fun val => (strV (f2.2))), ⟨fun _ _ hv => rfl, fun _ _ _ _ _ => trivial⟩, fun val h_ W hx he => ⟨⟨347, rfl, rfl⟩, ?_⟩, ?_⟩
       ·replace hx := (Upd.drew _ _).trans hx
        replace hs := hs.ext hx
        refine id (X_str (v := f2.1) (l := f2.2) Tryd.underlying23 Tryd.underlying5 Tryd.underlying9 rfl (brd hs.v hf2) ?_)
        exact ⟨Upd.refl _ _, rfl⟩
       intro val W93 hx93 he93
       replace hx93 := (Upd.drew _ _).trans hx93
       have hz93 := hx93.size
       replace hB1 := hB1.ext hx93
       replace hs := hs.ext hx93
       replace hk := hk.ext hx93
       replace hU := hU.trans (Ext.upd hx93)
       replace hX1 := hX1.ext hx93
       replace hY1 := hY1.ext hx93
       replace hX2 := hX2.ext hx93
       replace hY2 := hY2.ext hx93
       refine L_gy (dj := 347) rfl rfl rfl (X_scmp (a := vx2) (b := f2.2) (r := false) rfl rfl rfl (scmp_ne hvq2) ?_)
       refine L_gy (dj := 337) rfl rfl rfl (X_pick (t := false) (v := (.bool (false))) rfl rfl ?_)
       refine L_gy (dj := 335) rfl rfl rfl (X_pick (t := true) (v := (.bool (false))) rfl rfl ?_)
       refine L_op rfl (X_pick (t := false) (v := (.bool (false))) rfl rfl ?_)
       refine L_nil ?_
       refine T_n ?_
       refine W_cf rfl ?_
       refine W_skip ?_
       refine T_n ?_
       refine W_seq ?_
       refine W_reg ?_
       have hcr_ := c_wakes W93
       refine L_op rfl (X_fn (vs := []) en4 rfl ?_)
       refine CT.mono hcr_ ?_
       clear hcr_
       rintro _ w98 ⟨rfl, hu98⟩
       have hz98 := hu98.size
       replace hB1 := hB1.ext hu98
       replace hs := hs.ext hu98
       replace hk := hk.ext hu98
       replace hU := hU.trans (Ext.upd hu98)
       replace hX1 := hX1.ext hu98
       replace hY1 := hY1.ext hu98
       replace hX2 := hX2.ext hu98
       replace hY2 := hY2.ext hu98
       refine L_op rfl (X_assign (v := (.bool (true))) rfl ?_)
       refine L_nil ?_
       refine T_n ?_
       refine W_ret ?_
       exact BQ_r (End_1 Tryd.results3 (v := .bool true) rfl ⟨rfl, hU.own hn0⟩)
      ·have hq2 : ¬ _ := fun h_ => by cases ht2.2 h_
       refine L_op rfl (X_fldP (b := b1) (o := 0) (r := 2) Fd27_2 rfl rfl ?_)
       refine L_op rfl (X_load (p := (ptr b1 (2))) (v := s.vv) T22 rfl (hB1.at1 rfl) ?_)
       refine L_op rfl (X_len (v := s.vv) (n := s.vs.length) Tryd.underlying22 rfl hs.v.sv ?_)
       refine L_op rfl (X_fldP (b := b1) (o := 0) (r := 1) Fd27_1 rfl rfl ?_)
       refine L_op rfl (X_load (p := (ptr b1 (1))) (v := s.kv) T22 rfl (hB1.at1 rfl) ?_)
       refine L_op rfl (X_len (v := s.kv) (n := s.ks.length) Tryd.underlying22 rfl hs.k.sv ?_)
       refine L_op rfl (X_cmp (k := .i64) (a := ((s.vs.length : Nat) : Int)) (b := ((s.ks.length : Nat) : Int)) (r := false) rfl rfl rfl (decide_eq_false (p := ((((s.vs.length : Nat) : Int)) : Int) ≠ ((((s.ks.length : Nat) : Int)) : Int)) (by omega)) ?_)
       refine L_op rfl (X_move (v := (.bool (false))) rfl ?_)
       refine L_gy (dj := 297) rfl rfl rfl (X_move (v := (.bool (true))) rfl ?_)
       refine L_gy (dj := 297) rfl rfl rfl (X_move (v := (.int .i64 (hi))) rfl ?_)
       refine L_gy (dj := 297) rfl rfl rfl (X_fldP (b := b1) (o := 0) (r := 1) Fd27_1 rfl rfl ?_)
       refine L_gy (dj := 297) rfl rfl rfl (X_load (p := (ptr b1 (1))) (v := s.kv) T22 rfl (hB1.at1 rfl) ?_)
       refine L_gy (dj := 297) rfl rfl rfl (X_len (v := s.kv) (n := s.ks.length) Tryd.underlying22 rfl hs.k.sv ?_)
       refine L_gy (dj := 297) rfl rfl rfl (X_cmp (k := .i64) (a := hi) (b := ((s.ks.length : Nat) : Int)) (r := true) rfl rfl rfl (decide_eq_true (p := ((hi) : Int) < ((((s.ks.length : Nat) : Int)) : Int)) (by omega)) ?_)
       refine L_gy (dj := 297) rfl rfl rfl (X_cmpBool (a := true) (b := true) (r := false) Tryd.underlying4 rfl rfl (.inr ⟨rfl, rfl⟩) ?_)
       refine L_op rfl (X_pick (t := false) (v := (.bool (false))) rfl rfl ?_)
       refine L_op rfl (X_move (v := (.bool (false))) rfl ?_)
       refine L_gy (dj := 306) rfl rfl rfl (X_move (v := (.bool (false))) rfl ?_)
       refine L_gy (dj := 306) rfl rfl rfl (X_move (v := (.int .i64 (lo))) rfl ?_)
       refine L_gy (dj := 306) rfl rfl rfl (X_cmp (k := .i64) (a := lo) (b := 0) (r := false) rfl rfl rfl (decide_eq_false (p := ((0) : Int) ≤ ((lo) : Int)) (by omega)) ?_)
       refine L_gy (dj := 306) rfl rfl rfl (X_cmpBool (a := false) (b := false) (r := false) Tryd.underlying4 rfl rfl (.inr ⟨rfl, rfl⟩) ?_)
       refine L_op rfl (X_pick (t := false) (v := (.bool (false))) rfl rfl ?_)
       refine L_nil ?_
       refine T_n ?_
       refine W_cf rfl ?_
       refine W_skip ?_
       refine T_n ?_
       refine W_seq ?_
       refine W_seq ?_
       refine W_draw 44 [[], [0], [0, 1], [0, 1, 2], [0, 1], [0, 1, 4], [0, 1], [0, 1, 4, 5, 6], [0, 1, 4, 5, 6, 7], [0, 1, 4, 5, 6, 7, 8], [0, 1, 2, 3, 4, 5, 6, 7, 8, 9], [0, 1, 2, 3, 4, 5, 6, 7, 8, 9, 10], [0, 1, 2, 3, 4, 5, 6, 7, 8, 9, 10, 11], [0, 1, 2, 3, 4, 5, 6, 7, 8, 9, 10, 11, 12], [0, 1, 2, 3, 4, 5, 6, 7, 8, 9, 10, 11], [0, 1, 2, 3, 4, 5, 6, 7, 8, 9, 10, 11, 14], [0, 1, 2, 3, 4, 5, 6, 7, 8, 9, 10, 11], [0, 1, 2, 3, 4, 5, 6, 7, 8, 9, 10, 11, 14, 15, 16], [0, 1, 2, 3, 4, 5, 6, 7, 8, 9, 10, 11, 14, 15, 16, 17], [0, 1, 2, 3, 4, 5, 6, 7, 8, 9, 10, 11, 14, 15, 16, 17, 18], [0, 1, 2, 3, 4, 5, 6, 7, 8, 9, 10, 11, 12, 13, 14, 15, 16, 17, 18, 19], [0, 1, 2, 3, 4, 5, 6, 7, 8, 9, 10, 11, 12, 13, 14, 15, 16, 17, 18, 19, 20], [0, 1, 2, 3, 4, 5, 6, 7, 8, 9, 10, 11, 12, 13, 14, 15, 16, 17, 18, 19, 20, 21], [0, 1, 2, 3, 4, 5, 6, 7, 8, 9, 10, 11, 12, 13, 14, 15, 16, 17, 18, 19, 20, 21, 22], [0, 1, 2, 3, 4, 5, 6, 7, 8, 9, 10, 11, 12, 13, 14, 15, 16, 17, 18, 19, 20, 21, 22, 23], [0, 1, 2, 3, 4, 5, 6, 7, 8, 9, 10, 11, 12, 13, 14, 15, 16, 17, 18, 19, 20, 21, 22, 23, 24], [0, 1, 2, 3, 4, 5, 6, 7, 8, 9, 10, 11, 12, 13, 14, 15, 16, 17, 18, 19, 20, 21, 22, 23, 24, 25], [0, 1, 2, 3, 4, 5, 6, 7, 8, 9, 10, 11, 12, 13, 14, 15, 16, 17, 18, 19, 20, 21, 22, 23, 24, 25, 26], [0, 1, 2, 3, 4, 5, 6, 7, 8, 9, 10, 11, 12, 13, 14, 15, 16, 17, 18, 19, 20, 21, 22, 23, 24, 25], [0, 1, 2, 3, 4, 5, 6, 7, 8, 9, 10, 11, 12, 13, 14, 15, 16, 17, 18, 19, 20, 21, 22, 23, 24, 25, 28], [0, 1, 2, 3, 4, 5, 6, 7, 8, 9, 10, 11, 12, 13, 14, 15, 16, 17, 18, 19, 20, 21, 22, 23, 24, 25], [0, 1, 2, 3, 4, 5, 6, 7, 8, 9, 10, 11, 12, 13, 14, 15, 16, 17, 18, 19, 20, 21, 22, 23, 24, 25, 28, 29, 30], [0, 1, 2, 3, 4, 5, 6, 7, 8, 9, 10, 11, 12, 13, 14, 15, 16, 17, 18, 19, 20, 21, 22, 23, 24, 25, 28, 29, 30, 31], [0, 1, 2, 3, 4, 5, 6, 7, 8, 9, 10, 11, 12, 13, 14, 15, 16, 17, 18, 19, 20, 21, 22, 23, 24, 25, 28, 29, 30, 31, 32], [0, 1, 2, 3, 4, 5, 6, 7, 8, 9, 10, 11, 12, 13, 14, 15, 16, 17, 18, 19, 20, 21, 22, 23, 24, 25, 26, 27, 28, 29, 30, 31, 32, 33], [0, 1, 2, 3, 4, 5, 6, 7, 8, 9, 10, 11, 12, 13, 14, 15, 16, 17, 18, 19, 20, 21, 22, 23, 24, 25, 26, 27, 28, 29, 30, 31, 32, 33, 34], [0, 1, 2, 3, 4, 5, 6, 7, 8, 9, 10, 11, 12, 13, 14, 15, 16, 17, 18, 19, 20, 21, 22, 23, 24, 25, 26, 27, 28, 29, 30, 31, 32, 33, 34, 35], [0, 1, 2, 3, 4, 5, 6, 7, 8, 9, 10, 11, 12, 13, 14, 15, 16, 17, 18, 19, 20, 21, 22, 23, 24, 25, 26, 27, 28, 29, 30, 31, 32, 33, 34, 35, 36], [0, 1, 2, 3, 4, 5, 6, 7, 8, 9, 10, 11, 12, 13, 14, 15, 16, 17, 18, 19, 20, 21, 22, 23, 24, 25, 26, 27, 28, 29, 30, 31, 32, 33, 34, 35], [0, 1, 2, 3, 4, 5, 6, 7, 8, 9, 10, 11, 12, 13, 14, 15, 16, 17, 18, 19, 20, 21, 22, 23, 24, 25, 26, 27, 28, 29, 30, 31, 32, 33, 34, 35, 38], [0, 1, 2, 3, 4, 5, 6, 7, 8, 9, 10, 11, 12, 13, 14, 15, 16, 17, 18, 19, 20, 21, 22, 23, 24, 25, 26, 27, 28, 29, 30, 31, 32, 33, 34, 35], [0, 1, 2, 3, 4, 5, 6, 7, 8, 9, 10, 11, 12, 13, 14, 15, 16, 17, 18, 19, 20, 21, 22, 23, 24, 25, 26, 27, 28, 29, 30, 31, 32, 33, 34, 35, 38, 39, 40], [0, 1, 2, 3, 4, 5, 6, 7, 8, 9, 10, 11, 12, 13, 14, 15, 16, 17, 18, 19, 20, 21, 22, 23, 24, 25, 26, 27, 28, 29, 30, 31, 32, 33, 34, 35, 38, 39, 40, 41], [0, 1, 2, 3, 4, 5, 6, 7, 8, 9, 10, 11, 12, 13, 14, 15, 16, 17, 18, 19, 20, 21, 22, 23, 24, 25, 26, 27, 28, 29, 30, 31, 32, 33, 34, 35, 38, 39, 40, 41, 42], [0, 1, 2, 3, 4, 5, 6, 7, 8, 9, 10, 11, 12, 13, 14, 15, 16, 17, 18, 19, 20, 21, 22, 23, 24, 25, 26, 27, 28, 29, 30, 31, 32, 33, 34, 35, 36, 37, 38, 39, 40, 41, 42, 43], [0, 1, 2, 3, 4, 5, 6, 7, 8, 9, 10, 11, 12, 13, 14, 15, 16, 17, 18, 19, 20, 21, 22, 23, 24, 25, 26, 27, 28, 29, 30, 31, 32, 33, 34, 35, 36, 37, 38, 39, 40, 41, 42, 43, 44], [0, 1, 2, 3, 4, 5, 6, 7, 8, 9, 10, 11, 12, 13, 14, 15, 16, 17, 18, 19, 20, 21, 22, 23, 24, 25, 26, 27, 28, 29, 30, 31, 32, 33, 34, 35, 36, 37, 38, 39, 40, 41, 42, 43, 44, 45], [0, 1, 2, 3, 4, 5, 6, 7, 8, 9, 10, 11, 12, 13, 14, 15, 16, 17, 18, 19, 20, 21, 22, 23, 24, 25, 26, 27, 28, 29, 30, 31, 32, 33, 34, 35, 36, 37, 38, 39, 40, 41, 42, 43, 44, 45, 46]] mixed (by kernel_rfl) ?_
       refine ⟨.det (fun val => (.bool (true))), ⟨fun _ _ hv => rfl, fun _ _ _ _ _ => trivial⟩, fun val h_ W hx he => ⟨trivial, ?_⟩, ?_⟩
       ·exact X_move (v := (.bool (true))) rfl ⟨Upd.refl _ _, rfl⟩
       refine ⟨.det (fun val => (.bool (true))), ⟨fun _ _ hv => rfl, fun _ _ _ _ _ => trivial⟩, fun val h_ W hx he => ⟨trivial, ?_⟩, ?_⟩
       ·exact X_move (v := (.bool (true))) rfl ⟨Upd.refl _ _, rfl⟩
       refine ⟨.det (fun val => x1), ⟨fun _ _ hv => rfl, fun _ _ _ _ _ => trivial⟩, fun val h_ W hx he => ⟨⟨313, rfl, rfl⟩, ?_⟩, ?_⟩
       ·exact X_move (v := x1) rfl ⟨Upd.refl _ _, rfl⟩
       refine ⟨.det (fun val => (strV (kx1))), ⟨fun _ _ hv => rfl, fun _ _ _ _ _ => trivial⟩, fun val h_ W hx he => ⟨⟨313, rfl, rfl⟩, ?_⟩, ?_⟩
       ·replace hx := (Upd.drew _ _).trans hx
        replace hX1 := hX1.ext hx
        refine id (X_str (v := x1) (l := kx1) Tryd.underlying23 Tryd.underlying5 Tryd.underlying9 rfl hX1.1 ?_)
        exact ⟨Upd.refl _ _, rfl⟩
       refine ⟨.det (fun val => (ptr b1 (1))), ⟨fun _ _ hv => rfl, fun _ _ _ _ _ => trivial⟩, fun val h_ W hx he => ⟨⟨313, rfl, rfl⟩, ?_⟩, ?_⟩
       ·exact X_fldP (b := b1) (o := 0) (r := 1) Fd27_1 rfl rfl ⟨Upd.refl _ _, rfl⟩
       refine ⟨.det (fun val => s.kv), ⟨fun _ _ hv => rfl, fun _ _ _ _ _ => trivial⟩, fun val h_ W hx he => ⟨⟨313, rfl, rfl⟩, ?_⟩, ?_⟩
       ·replace hx := (Upd.drew _ _).trans hx
        replace hB1 := hB1.ext hx
        refine id (X_load (p := (ptr b1 (1))) (v := s.kv) T22 rfl (hB1.at1 rfl) ?_)
        exact ⟨Upd.refl _ _, rfl⟩
       refine ⟨.det (fun val => (.int .i64 (hi))), ⟨fun _ _ hv => rfl, fun _ _ _ _ _ => trivial⟩, fun val h_ W hx he => ⟨⟨313, rfl, rfl⟩, ?_⟩, ?_⟩
       ·exact X_move (v := (.int .i64 (hi))) rfl ⟨Upd.refl _ _, rfl⟩
       refine ⟨.det (fun val => (pof s.kv ((hi : Int).toNat * 1))), ⟨fun _ _ hv => rfl, fun _ _ _ _ _ => trivial⟩, fun val h_ W hx he => ⟨⟨313, rfl, rfl⟩, ?_⟩, ?_⟩
       ·replace hx := (Upd.drew _ _).trans hx
        replace hs := hs.ext hx
        refine id (X_idx (v := s.kv) (n := s.ks.length) (k := .i64) (i := hi) S22 rfl hs.k.sv rfl (by omega) (by omega) ?_)
        exact ⟨Upd.refl _ _, rfl⟩
       refine ⟨.det (fun val => e1.1), ⟨fun _ _ hv => rfl, fun _ _ _ _ _ => trivial⟩, fun val h_ W hx he => ⟨⟨313, rfl, rfl⟩, ?_⟩, ?_⟩
       ·replace hx := (Upd.drew _ _).trans hx
        replace hs := hs.ext hx
        refine id (X_load (v := e1.1) T23 rfl (bkey hs.k ((by omega)) he1) ?_)
        exact ⟨Upd.refl _ _, rfl⟩
       refine ⟨.det (fun val => (strV (e1.2))), ⟨fun _ _ hv => rfl, fun _ _ _ _ _ => trivial⟩, fun val h_ W hx he => ⟨⟨313, rfl, rfl⟩, ?_⟩, ?_⟩
       ·replace hx := (Upd.drew _ _).trans hx
        replace hs := hs.ext hx
        refine id (X_str (v := e1.1) (l := e1.2) Tryd.underlying23 Tryd.underlying5 Tryd.underlying9 rfl (brd hs.k he1) ?_)
        exact ⟨Upd.refl _ _, rfl⟩
       refine ⟨.det (fun val => (.bool (false))), ⟨fun _ _ hv => rfl, fun _ _ _ _ _ => trivial⟩, fun val h_ W hx he => ⟨⟨313, rfl, rfl⟩, ?_⟩, ?_⟩
       ·exact X_scmp (a := kx1) (b := e1.2) (r := false) rfl rfl rfl (scmp_ne hkq1) ⟨Upd.refl _ _, rfl⟩
       refine ⟨.det (fun val => (.bool (false))), ⟨fun _ _ hv => rfl, fun _ _ _ _ _ => trivial⟩, fun val h_ W hx he => ⟨⟨313, rfl, rfl⟩, ?_⟩, ?_⟩
       ·exact X_move (v := (.bool (false))) rfl ⟨Upd.refl _ _, rfl⟩
       refine ⟨.det (fun val => y1), ⟨fun _ _ hv => rfl, fun _ _ _ _ _ => trivial⟩, fun val h_ W hx he => ⟨⟨323, rfl, rfl⟩, ?_⟩, ?_⟩
       ·exact X_move (v := y1) rfl ⟨Upd.refl _ _, rfl⟩
       refine ⟨.det (fun val => (strV (vx1))), ⟨fun _ _ hv => rfl, fun _ _ _ _ _ => trivial⟩, fun val h_ W hx he => ⟨⟨323, rfl, rfl⟩, ?_⟩, ?_⟩
       ·replace hx := (Upd.drew _ _).trans hx
        replace hY1 := hY1.ext hx
        refine id (X_str (v := y1) (l := vx1) Tryd.underlying23 Tryd.underlying5 Tryd.underlying9 rfl hY1.1 ?_)
        exact ⟨Upd.refl _ _, rfl⟩
       refine ⟨.det (fun val => (ptr b1 (2))), ⟨fun _ _ hv => rfl, fun _ _ _ _ _ => trivial⟩, fun val h_ W hx he => ⟨⟨323, rfl, rfl⟩, ?_⟩, ?_⟩
       ·exact X_fldP (b := b1) (o := 0) (r := 2) Fd27_2 rfl rfl ⟨Upd.refl _ _, rfl⟩
       refine ⟨.det (fun val => s.vv), ⟨fun _ _ hv => rfl, fun _ _ _ _ _ => trivial⟩, fun val h_ W hx he => ⟨⟨323, rfl, rfl⟩, ?_⟩, ?_⟩
       ·replace hx := (Upd.drew _ _).trans hx
        replace hB1 := hB1.ext hx
        refine id (X_load (p := (ptr b1 (2))) (v := s.vv) T22 rfl (hB1.at1 rfl) ?_)
        exact ⟨Upd.refl _ _, rfl⟩
       refine ⟨.det (fun val => (.int .i64 (hi))), ⟨fun _ _ hv => rfl, fun _ _ _ _ _ => trivial⟩, fun val h_ W hx he => ⟨⟨323, rfl, rfl⟩, ?_⟩, ?_⟩
       ·exact X_move (v := (.int .i64 (hi))) rfl ⟨Upd.refl _ _, rfl⟩
       refine ⟨.det (fun val => (pof s.vv ((hi : Int).toNat * 1))), ⟨fun _ _ hv => rfl, fun _ _ _ _ _ => trivial⟩, fun val h_ W hx he => ⟨⟨323, rfl, rfl⟩, ?_⟩, ?_⟩
       ·replace hx := (Upd.drew _ _).trans hx
        replace hs := hs.ext hx
        refine id (X_idx (v := s.vv) (n := s.vs.length) (k := .i64) (i := hi) S22 rfl hs.v.sv rfl (by omega) (by omega) ?_)
        exact ⟨Upd.refl _ _, rfl⟩
       refine ⟨.det (fun val => f1.1), ⟨fun _ _ hv => rfl, fun _ _ _ _ _ => trivial⟩, fun val h_ W hx he => ⟨⟨323, rfl, rfl⟩, ?_⟩, ?_⟩
       ·replace hx := (Upd.drew _ _).trans hx
        replace hs := hs.ext hx
        refine id (X_load (v := f1.1) T23 rfl (bkey hs.v ((by omega)) hf1) ?_)
        exact ⟨Upd.refl _ _, rfl⟩
       refine ⟨.det (fun val => (strV (f1.2))), ⟨fun _ _ hv => rfl, fun _ _ _ _ _ => trivial⟩, fun val h_ W hx he => ⟨⟨323, rfl, rfl⟩, ?_⟩, ?_⟩
       ·replace hx := (Upd.drew _ _).trans hx
        replace hs := hs.ext hx
        refine id (X_str (v := f1.1) (l := f1.2) Tryd.underlying23 Tryd.underlying5 Tryd.underlying9 rfl (brd hs.v hf1) ?_)
        exact ⟨Upd.refl _ _, rfl⟩
       refine ⟨.det (fun val => (.bool (false))), ⟨fun _ _ hv => rfl, fun _ _ _ _ _ => trivial⟩, fun val h_ W hx he => ⟨⟨323, rfl, rfl⟩, ?_⟩, ?_⟩
       ·exact X_scmp (a := vx1) (b := f1.2) (r := false) rfl rfl rfl (scmp_ne hvq1) ⟨Upd.refl _ _, rfl⟩
       refine ⟨.det (fun val => (.bool (false))), ⟨fun _ _ hv => rfl, fun _ _ _ _ _ => trivial⟩, fun val h_ W hx he => ⟨⟨313, rfl, rfl⟩, ?_⟩, ?_⟩
       ·exact X_pick (t := false) (v := (.bool (false))) rfl rfl ⟨Upd.refl _ _, rfl⟩
       refine ⟨.det (fun val => (.bool (false))), ⟨fun _ _ hv => rfl, fun _ _ _ _ _ => trivial⟩, fun val h_ W hx he => ⟨trivial, ?_⟩, ?_⟩
       ·exact X_pick (t := true) (v := (.bool (false))) rfl rfl ⟨Upd.refl _ _, rfl⟩
       refine ⟨.det (fun val => (.bool (false))), ⟨fun _ _ hv => rfl, fun _ _ _ _ _ => trivial⟩, fun val h_ W hx he => ⟨trivial, ?_⟩, ?_⟩
       ·exact X_move (v := (.bool (false))) rfl ⟨Upd.refl _ _, rfl⟩
       refine ⟨.det (fun val => (.bool (false))), ⟨fun _ _ hv => rfl, fun _ _ _ _ _ => trivial⟩, fun val h_ W hx he => ⟨⟨335, rfl, rfl⟩, ?_⟩, ?_⟩
       ·exact X_move (v := (.bool (false))) rfl ⟨Upd.refl _ _, rfl⟩
       refine ⟨.det (fun val => (.bool (false))), ⟨fun _ _ hv => rfl, fun _ _ _ _ _ => trivial⟩, fun val h_ W hx he => ⟨⟨335, rfl, rfl⟩, ?_⟩, ?_⟩
       ·exact X_move (v := (.bool (false))) rfl ⟨Upd.refl _ _, rfl⟩
       refine ⟨.no, ⟨fun _ _ _ => trivial, fun _ _ _ _ _ => trivial⟩, fun val h_ W hx he => ⟨337, rfl, .inl rfl⟩, ?_⟩
       refine ⟨.no, ⟨fun _ _ _ => trivial, fun _ _ _ _ _ => trivial⟩, fun val h_ W hx he => ⟨337, rfl, .inl rfl⟩, ?_⟩
       refine ⟨.no, ⟨fun _ _ _ => trivial, fun _ _ _ _ _ => trivial⟩, fun val h_ W hx he => ⟨337, rfl, .inl rfl⟩, ?_⟩
       refine ⟨.no, ⟨fun _ _ _ => trivial, fun _ _ _ _ _ => trivial⟩, fun val h_ W hx he => ⟨337, rfl, .inl rfl⟩, ?_⟩
       refine ⟨.no, ⟨fun _ _ _ => trivial, fun _ _ _ _ _ => trivial⟩, fun val h_ W hx he => ⟨337, rfl, .inl rfl⟩, ?_⟩
       refine ⟨.no, ⟨fun _ _ _ => trivial, fun _ _ _ _ _ => trivial⟩, fun val h_ W hx he => ⟨337, rfl, .inl rfl⟩, ?_⟩
       refine ⟨.no, ⟨fun _ _ _ => trivial, fun _ _ _ _ _ => trivial⟩, fun val h_ W hx he => ⟨337, rfl, .inl rfl⟩, ?_⟩
       refine ⟨.no, ⟨fun _ _ _ => trivial, fun _ _ _ _ _ => trivial⟩, fun val h_ W hx he => ⟨337, rfl, .inl rfl⟩, ?_⟩
       refine ⟨.no, ⟨fun _ _ _ => trivial, fun _ _ _ _ _ => trivial⟩, fun val h_ W hx he => ⟨337, rfl, .inl rfl⟩, ?_⟩
       refine ⟨.no, ⟨fun _ _ _ => trivial, fun _ _ _ _ _ => trivial⟩, fun val h_ W hx he => ⟨337, rfl, .inl rfl⟩, ?_⟩
       refine ⟨.no, ⟨fun _ _ _ => trivial, fun _ _ _ _ _ => trivial⟩, fun val h_ W hx he => ⟨347, rfl, .inr rfl⟩, ?_⟩
       refine ⟨.no, ⟨fun _ _ _ => trivial, fun _ _ _ _ _ => trivial⟩, fun val h_ W hx he => ⟨347, rfl, .inr rfl⟩, ?_⟩
       refine ⟨.no, ⟨fun _ _ _ => trivial, fun _ _ _ _ _ => trivial⟩, fun val h_ W hx he => ⟨347, rfl, .inr rfl⟩, ?_⟩
       refine ⟨.no, ⟨fun _ _ _ => trivial, fun _ _ _ _ _ => trivial⟩, fun val h_ W hx he => ⟨347, rfl, .inr rfl⟩, ?_⟩
       refine ⟨.no, ⟨fun _ _ _ => trivial, fun _ _ _ _ _ => trivial⟩, fun val h_ W hx he => ⟨347, rfl, .inr rfl⟩, ?_⟩
       refine ⟨.no, ⟨fun _ _ _ => trivial, fun _ _ _ _ _ => trivial⟩, fun val h_ W hx he => ⟨347, rfl, .inr rfl⟩, ?_⟩
       refine ⟨.no, ⟨fun _ _ _ => trivial, fun _ _ _ _ _ => trivial⟩, fun val h_ W hx he => ⟨347, rfl, .inr rfl⟩, ?_⟩
       refine ⟨.no, ⟨fun _ _ _ => trivial, fun _ _ _ _ _ => trivial⟩, fun val h_ W hx he => ⟨347, rfl, .inr rfl⟩, ?_⟩
       intro val W99 hx99 he99
       replace hx99 := (Upd.drew _ _).trans hx99
       have hz99 := hx99.size
       replace hB1 := hB1.ext hx99
       replace hs := hs.ext hx99
       replace hk := hk.ext hx99
       replace hU := hU.trans (Ext.upd hx99)
       replace hX1 := hX1.ext hx99
       replace hY1 := hY1.ext hx99
       replace hX2 := hX2.ext hx99
       replace hY2 := hY2.ext hx99
       refine L_gu (dj := 347) rfl rfl rfl ?_
       refine L_gn (dj := 337) (t := false) rfl rfl rfl rfl ?_
       refine L_gy (dj := 335) rfl rfl rfl (X_pick (t := false) (v := (.bool (false))) rfl rfl ?_)
       refine L_op rfl (X_pick (t := false) (v := (.bool (false))) rfl rfl ?_)
       refine L_nil ?_
       refine T_n ?_
       refine W_cf rfl ?_
       refine W_skip ?_
       refine T_n ?_
       refine W_seq ?_
       refine W_reg ?_
       have hcr_ := c_wakes W99
       refine L_op rfl (X_fn (vs := []) en4 rfl ?_)
       refine CT.mono hcr_ ?_
       clear hcr_
       rintro _ w102 ⟨rfl, hu102⟩
       have hz102 := hu102.size
       replace hB1 := hB1.ext hu102
       replace hs := hs.ext hu102
       replace hk := hk.ext hu102
       replace hU := hU.trans (Ext.upd hu102)
       replace hX1 := hX1.ext hu102
       replace hY1 := hY1.ext hu102
       replace hX2 := hX2.ext hu102
       replace hY2 := hY2.ext hu102
       refine L_op rfl (X_assign (v := (.bool (true))) rfl ?_)
       refine L_nil ?_
       refine T_n ?_
       refine W_ret ?_
       exact BQ_r (End_1 Tryd.results3 (v := .bool true) rfl ⟨rfl, hU.own hn0⟩)
     ·have hq1 : ¬ _ := fun h_ => by cases ht1.2 h_
      rcases Bool.eq_false_or_eq_true t2 with rfl | rfl
      ·have hq2 := ht2.1 rfl
       obtain ⟨e2, he2⟩ : ∃ e, s.ks[sk.toNat]? = some e := ⟨_, List.getElem?_eq_getElem (by omega)⟩
       have hkq2 : kx2 = e2.2 := by rw [hkx2]; exact val_at (by omega) (bl_at he2)
       obtain ⟨f2, hf2⟩ : ∃ e, s.vs[sk.toNat]? = some e := ⟨_, List.getElem?_eq_getElem (by omega)⟩
       have hvq2 : vx2 = f2.2 := by rw [hvx2]; exact val_at (by omega) (bl_at hf2)
       refine L_op rfl (X_fldP (b := b1) (o := 0) (r := 2) Fd27_2 rfl rfl ?_)
       refine L_op rfl (X_load (p := (ptr b1 (2))) (v := s.vv) T22 rfl (hB1.at1 rfl) ?_)
       refine L_op rfl (X_len (v := s.vv) (n := s.vs.length) Tryd.underlying22 rfl hs.v.sv ?_)
       refine L_op rfl (X_fldP (b := b1) (o := 0) (r := 1) Fd27_1 rfl rfl ?_)
       refine L_op rfl (X_load (p := (ptr b1 (1))) (v := s.kv) T22 rfl (hB1.at1 rfl) ?_)
       refine L_op rfl (X_len (v := s.kv) (n := s.ks.length) Tryd.underlying22 rfl hs.k.sv ?_)
       refine L_op rfl (X_cmp (k := .i64) (a := ((s.vs.length : Nat) : Int)) (b := ((s.ks.length : Nat) : Int)) (r := false) rfl rfl rfl (decide_eq_false (p := ((((s.vs.length : Nat) : Int)) : Int) ≠ ((((s.ks.length : Nat) : Int)) : Int)) (by omega)) ?_)
       refine L_op rfl (X_move (v := (.bool (false))) rfl ?_)
       refine L_gy (dj := 297) rfl rfl rfl (X_move (v := (.bool (false))) rfl ?_)
       refine L_gy (dj := 297) rfl rfl rfl (X_move (v := (.int .i64 (hi))) rfl ?_)
       refine L_gy (dj := 297) rfl rfl rfl (X_fldP (b := b1) (o := 0) (r := 1) Fd27_1 rfl rfl ?_)
       refine L_gy (dj := 297) rfl rfl rfl (X_load (p := (ptr b1 (1))) (v := s.kv) T22 rfl (hB1.at1 rfl) ?_)
       refine L_gy (dj := 297) rfl rfl rfl (X_len (v := s.kv) (n := s.ks.length) Tryd.underlying22 rfl hs.k.sv ?_)
       refine L_gy (dj := 297) rfl rfl rfl (X_cmp (k := .i64) (a := hi) (b := ((s.ks.length : Nat) : Int)) (r := false) rfl rfl rfl (decide_eq_false (p := ((hi) : Int) < ((((s.ks.length : Nat) : Int)) : Int)) (by omega)) ?_)
       refine L_gy (dj := 297) rfl rfl rfl (X_cmpBool (a := false) (b := false) (r := false) Tryd.underlying4 rfl rfl (.inr ⟨rfl, rfl⟩) ?_)
       refine L_op rfl (X_pick (t := false) (v := (.bool (false))) rfl rfl ?_)
       refine L_op rfl (X_move (v := (.bool (false))) rfl ?_)
       refine L_gy (dj := 306) rfl rfl rfl (X_move (v := (.bool (true))) rfl ?_)
       refine L_gy (dj := 306) rfl rfl rfl (X_move (v := (.int .i64 (lo))) rfl ?_)
       refine L_gy (dj := 306) rfl rfl rfl (X_cmp (k := .i64) (a := lo) (b := 0) (r := true) rfl rfl rfl (decide_eq_true (p := ((0) : Int) ≤ ((lo) : Int)) (by omega)) ?_)
       refine L_gy (dj := 306) rfl rfl rfl (X_cmpBool (a := true) (b := true) (r := false) Tryd.underlying4 rfl rfl (.inr ⟨rfl, rfl⟩) ?_)
       refine L_op rfl (X_pick (t := false) (v := (.bool (false))) rfl rfl ?_)
       refine L_nil ?_
       refine T_n ?_
       refine W_cf rfl ?_
       refine W_skip ?_
       refine T_n ?_
       refine W_seq ?_
       refine W_seq ?_
       refine W_draw 44 [[], [0], [0, 1], [0, 1, 2], [0, 1], [0, 1, 4], [0, 1], [0, 1, 4, 5, 6], [0, 1, 4, 5, 6, 7], [0, 1, 4, 5, 6, 7, 8], [0, 1, 2, 3, 4, 5, 6, 7, 8, 9], [0, 1, 2, 3, 4, 5, 6, 7, 8, 9, 10], [0, 1, 2, 3, 4, 5, 6, 7, 8, 9, 10, 11], [0, 1, 2, 3, 4, 5, 6, 7, 8, 9, 10, 11, 12], [0, 1, 2, 3, 4, 5, 6, 7, 8, 9, 10, 11], [0, 1, 2, 3, 4, 5, 6, 7, 8, 9, 10, 11, 14], [0, 1, 2, 3, 4, 5, 6, 7, 8, 9, 10, 11], [0, 1, 2, 3, 4, 5, 6, 7, 8, 9, 10, 11, 14, 15, 16], [0, 1, 2, 3, 4, 5, 6, 7, 8, 9, 10, 11, 14, 15, 16, 17], [0, 1, 2, 3, 4, 5, 6, 7, 8, 9, 10, 11, 14, 15, 16, 17, 18], [0, 1, 2, 3, 4, 5, 6, 7, 8, 9, 10, 11, 12, 13, 14, 15, 16, 17, 18, 19], [0, 1, 2, 3, 4, 5, 6, 7, 8, 9, 10, 11, 12, 13, 14, 15, 16, 17, 18, 19, 20], [0, 1, 2, 3, 4, 5, 6, 7, 8, 9, 10, 11, 12, 13, 14, 15, 16, 17, 18, 19, 20, 21], [0, 1, 2, 3, 4, 5, 6, 7, 8, 9, 10, 11, 12, 13, 14, 15, 16, 17, 18, 19, 20, 21, 22], [0, 1, 2, 3, 4, 5, 6, 7, 8, 9, 10, 11, 12, 13, 14, 15, 16, 17, 18, 19, 20, 21, 22, 23], [0, 1, 2, 3, 4, 5, 6, 7, 8, 9, 10, 11, 12, 13, 14, 15, 16, 17, 18, 19, 20, 21, 22, 23, 24], [0, 1, 2, 3, 4, 5, 6, 7, 8, 9, 10, 11, 12, 13, 14, 15, 16, 17, 18, 19, 20, 21, 22, 23, 24, 25], [0, 1, 2, 3, 4, 5, 6, 7, 8, 9, 10, 11, 12, 13, 14, 15, 16, 17, 18, 19, 20, 21, 22, 23, 24, 25, 26], [0, 1, 2, 3, 4, 5, 6, 7, 8, 9, 10, 11, 12, 13, 14, 15, 16, 17, 18, 19, 20, 21, 22, 23, 24, 25], [0, 1, 2, 3, 4, 5, 6, 7, 8, 9, 10, 11, 12, 13, 14, 15, 16, 17, 18, 19, 20, 21, 22, 23, 24, 25, 28], [0, 1, 2, 3, 4, 5, 6, 7, 8, 9, 10, 11, 12, 13, 14, 15, 16, 17, 18, 19, 20, 21, 22, 23, 24, 25], [0, 1, 2, 3, 4, 5, 6, 7, 8, 9, 10, 11, 12, 13, 14, 15, 16, 17, 18, 19, 20, 21, 22, 23, 24, 25, 28, 29, 30], [0, 1, 2, 3, 4, 5, 6, 7, 8, 9, 10, 11, 12, 13, 14, 15, 16, 17, 18, 19, 20, 21, 22, 23, 24, 25, 28, 29, 30, 31], [0, 1, 2, 3, 4, 5, 6, 7, 8, 9, 10, 11, 12, 13, 14, 15, 16, 17, 18, 19, 20, 21, 22, 23, 24, 25, 28, 29, 30, 31, 32], [0, 1, 2, 3, 4, 5, 6, 7, 8, 9, 10, 11, 12, 13, 14, 15, 16, 17, 18, 19, 20, 21, 22, 23, 24, 25, 26, 27, 28, 29, 30, 31, 32, 33], [0, 1, 2, 3, 4, 5, 6, 7, 8, 9, 10, 11, 12, 13, 14, 15, 16, 17, 18, 19, 20, 21, 22, 23, 24, 25, 26, 27, 28, 29, 30, 31, 32, 33, 34], [0, 1, 2, 3, 4, 5, 6, 7, 8, 9, 10, 11, 12, 13, 14, 15, 16, 17, 18, 19, 20, 21, 22, 23, 24, 25, 26, 27, 28, 29, 30, 31, 32, 33, 34, 35], [0, 1, 2, 3, 4, 5, 6, 7, 8, 9, 10, 11, 12, 13, 14, 15, 16, 17, 18, 19, 20, 21, 22, 23, 24, 25, 26, 27, 28, 29, 30, 31, 32, 33, 34, 35, 36], [0, 1, 2, 3, 4, 5, 6, 7, 8, 9, 10, 11, 12, 13, 14, 15, 16, 17, 18, 19, 20, 21, 22, 23, 24, 25, 26, 27, 28, 29, 30, 31, 32, 33, 34, 35], [0, 1, 2, 3, 4, 5, 6, 7, 8, 9, 10, 11, 12, 13, 14, 15, 16, 17, 18, 19, 20, 21, 22, 23, 24, 25, 26, 27, 28, 29, 30, 31, 32, 33, 34, 35, 38], [0, 1, 2, 3, 4, 5, 6, 7, 8, 9, 10, 11, 12, 13, 14, 15, 16, 17, 18, 19, 20, 21, 22, 23, 24, 25, 26, 27, 28, 29, 30, 31, 32, 33, 34, 35], [0, 1, 2, 3, 4, 5, 6, 7, 8, 9, 10, 11, 12, 13, 14, 15, 16, 17, 18, 19, 20, 21, 22, 23, 24, 25, 26, 27, 28, 29, 30, 31, 32, 33, 34, 35, 38, 39, 40], [0, 1, 2, 3, 4, 5, 6, 7, 8, 9, 10, 11, 12, 13, 14, 15, 16, 17, 18, 19, 20, 21, 22, 23, 24, 25, 26, 27, 28, 29, 30, 31, 32, 33, 34, 35, 38, 39, 40, 41], [0, 1, 2, 3, 4, 5, 6, 7, 8, 9, 10, 11, 12, 13, 14, 15, 16, 17, 18, 19, 20, 21, 22, 23, 24, 25, 26, 27, 28, 29, 30, 31, 32, 33, 34, 35, 38, 39, 40, 41, 42], [0, 1, 2, 3, 4, 5, 6, 7, 8, 9, 10, 11, 12, 13, 14, 15, 16, 17, 18, 19, 20, 21, 22, 23, 24, 25, 26, 27, 28, 29, 30, 31, 32, 33, 34, 35, 36, 37, 38, 39, 40, 41, 42, 43], [0, 1, 2, 3, 4, 5, 6, 7, 8, 9, 10, 11, 12, 13, 14, 15, 16, 17, 18, 19, 20, 21, 22, 23, 24, 25, 26, 27, 28, 29, 30, 31, 32, 33, 34, 35, 36, 37, 38, 39, 40, 41, 42, 43, 44], [0, 1, 2, 3, 4, 5, 6, 7, 8, 9, 10, 11, 12, 13, 14, 15, 16, 17, 18, 19, 20, 21, 22, 23, 24, 25, 26, 27, 28, 29, 30, 31, 32, 33, 34, 35, 36, 37, 38, 39, 40, 41, 42, 43, 44, 45], [0, 1, 2, 3, 4, 5, 6, 7, 8, 9, 10, 11, 12, 13, 14, 15, 16, 17, 18, 19, 20, 21, 22, 23, 24, 25, 26, 27, 28, 29, 30, 31, 32, 33, 34, 35, 36, 37, 38, 39, 40, 41, 42, 43, 44, 45, 46]] mixed (by kernel_rfl) ?_
       refine ⟨.det (fun val => (.bool (false))), ⟨fun _ _ hv => rfl, fun _ _ _ _ _ => trivial⟩, fun val h_ W hx he => ⟨trivial, ?_⟩, ?_⟩
       ·exact X_move (v := (.bool (false))) rfl ⟨Upd.refl _ _, rfl⟩
       refine ⟨.det (fun val => (.bool (false))), ⟨fun _ _ hv => rfl, fun _ _ _ _ _ => trivial⟩, fun val h_ W hx he => ⟨trivial, ?_⟩, ?_⟩
       ·exact X_move (v := (.bool (false))) rfl ⟨Upd.refl _ _, rfl⟩
       refine ⟨.no, ⟨fun _ _ _ => trivial, fun _ _ _ _ _ => trivial⟩, fun val h_ W hx he => ⟨313, rfl, .inl rfl⟩, ?_⟩
       refine ⟨.no, ⟨fun _ _ _ => trivial, fun _ _ _ _ _ => trivial⟩, fun val h_ W hx he => ⟨313, rfl, .inl rfl⟩, ?_⟩
       refine ⟨.no, ⟨fun _ _ _ => trivial, fun _ _ _ _ _ => trivial⟩, fun val h_ W hx he => ⟨313, rfl, .inl rfl⟩, ?_⟩
       refine ⟨.no, ⟨fun _ _ _ => trivial, fun _ _ _ _ _ => trivial⟩, fun val h_ W hx he => ⟨313, rfl, .inl rfl⟩, ?_⟩
       refine ⟨.no, ⟨fun _ _ _ => trivial, fun _ _ _ _ _ => trivial⟩, fun val h_ W hx he => ⟨313, rfl, .inl rfl⟩, ?_⟩
       refine ⟨.no, ⟨fun _ _ _ => trivial, fun _ _ _ _ _ => trivial⟩, fun val h_ W hx he => ⟨313, rfl, .inl rfl⟩, ?_⟩
       refine ⟨.no, ⟨fun _ _ _ => trivial, fun _ _ _ _ _ => trivial⟩, fun val h_ W hx he => ⟨313, rfl, .inl rfl⟩, ?_⟩
       refine ⟨.no, ⟨fun _ _ _ => trivial, fun _ _ _ _ _ => trivial⟩, fun val h_ W hx he => ⟨313, rfl, .inl rfl⟩, ?_⟩
       refine ⟨.no, ⟨fun _ _ _ => trivial, fun _ _ _ _ _ => trivial⟩, fun val h_ W hx he => ⟨313, rfl, .inl rfl⟩, ?_⟩
       refine ⟨.no, ⟨fun _ _ _ => trivial, fun _ _ _ _ _ => trivial⟩, fun val h_ W hx he => ⟨313, rfl, .inl rfl⟩, ?_⟩
       refine ⟨.no, ⟨fun _ _ _ => trivial, fun _ _ _ _ _ => trivial⟩, fun val h_ W hx he => ⟨323, rfl, .inr rfl⟩, ?_⟩
       refine ⟨.no, ⟨fun _ _ _ => trivial, fun _ _ _ _ _ => trivial⟩, fun val h_ W hx he => ⟨323, rfl, .inr rfl⟩, ?_⟩
       refine ⟨.no, ⟨fun _ _ _ => trivial, fun _ _ _ _ _ => trivial⟩, fun val h_ W hx he => ⟨323, rfl, .inr rfl⟩, ?_⟩
       refine ⟨.no, ⟨fun _ _ _ => trivial, fun _ _ _ _ _ => trivial⟩, fun val h_ W hx he => ⟨323, rfl, .inr rfl⟩, ?_⟩
       refine ⟨.no, ⟨fun _ _ _ => trivial, fun _ _ _ _ _ => trivial⟩, fun val h_ W hx he => ⟨323, rfl, .inr rfl⟩, ?_⟩
       refine ⟨.no, ⟨fun _ _ _ => trivial, fun _ _ _ _ _ => trivial⟩, fun val h_ W hx he => ⟨323, rfl, .inr rfl⟩, ?_⟩
       refine ⟨.no, ⟨fun _ _ _ => trivial, fun _ _ _ _ _ => trivial⟩, fun val h_ W hx he => ⟨323, rfl, .inr rfl⟩, ?_⟩
       refine ⟨.no, ⟨fun _ _ _ => trivial, fun _ _ _ _ _ => trivial⟩, fun val h_ W hx he => ⟨323, rfl, .inr rfl⟩, ?_⟩
       refine ⟨.no, ⟨fun _ _ _ => trivial, fun _ _ _ _ _ => trivial⟩, fun val h_ W hx he => ⟨323, rfl, .inr rfl⟩, ?_⟩
       refine ⟨.no, ⟨fun _ _ _ => trivial, fun _ _ _ _ _ => trivial⟩, fun val h_ W hx he => ⟨313, rfl, .inl rfl⟩, ?_⟩
       refine ⟨.det (fun val => (.bool (false))), ⟨fun _ _ hv => rfl, fun _ _ _ _ _ => trivial⟩, fun val h_ W hx he => ⟨trivial, ?_⟩, ?_⟩
       ·exact X_pick (t := false) (v := (.bool (false))) rfl rfl ⟨Upd.refl _ _, rfl⟩
       refine ⟨.det (fun val => (.bool (false))), ⟨fun _ _ hv => rfl, fun _ _ _ _ _ => trivial⟩, fun val h_ W hx he => ⟨trivial, ?_⟩, ?_⟩
       ·exact X_move (v := (.bool (false))) rfl ⟨Upd.refl _ _, rfl⟩
       refine ⟨.det (fun val => (.bool (true))), ⟨fun _ _ hv => rfl, fun _ _ _ _ _ => trivial⟩, fun val h_ W hx he => ⟨⟨335, rfl, rfl⟩, ?_⟩, ?_⟩
       ·exact X_move (v := (.bool (true))) rfl ⟨Upd.refl _ _, rfl⟩
       refine ⟨.det (fun val => (.bool (true))), ⟨fun _ _ hv => rfl, fun _ _ _ _ _ => trivial⟩, fun val h_ W hx he => ⟨⟨335, rfl, rfl⟩, ?_⟩, ?_⟩
       ·exact X_move (v := (.bool (true))) rfl ⟨Upd.refl _ _, rfl⟩
       refine ⟨.det (fun val => x2), ⟨fun _ _ hv => rfl, fun _ _ _ _ _ => trivial⟩, fun val h_ W hx he => ⟨⟨337, rfl, rfl⟩, ?_⟩, ?_⟩
       ·exact X_move (v := x2) rfl ⟨Upd.refl _ _, rfl⟩
       refine ⟨.det (fun val => (strV (kx2))), ⟨fun _ _ hv => rfl, fun _ _ _ _ _ => trivial⟩, fun val h_ W hx he => ⟨⟨337, rfl, rfl⟩, ?_⟩, ?_⟩
       ·replace hx := (Upd.drew _ _).trans hx
        replace hX2 := hX2.ext hx
        refine id (X_str (v := x2) (l := kx2) Tryd.underlying23 Tryd.underlying5 Tryd.underlying9 rfl hX2.1 ?_)
        exact ⟨Upd.refl _ _, rfl⟩
       refine ⟨.det (fun val => (ptr b1 (1))), ⟨fun _ _ hv => rfl, fun _ _ _ _ _ => trivial⟩, fun val h_ W hx he => ⟨⟨337, rfl, rfl⟩, ?_⟩, ?_⟩
       ·exact X_fldP (b := b1) (o := 0) (r := 1) Fd27_1 rfl rfl ⟨Upd.refl _ _, rfl⟩
       refine ⟨.det (fun val => s.kv), ⟨fun _ _ hv => rfl, fun _ _ _ _ _ => trivial⟩, fun val h_ W hx he => ⟨⟨337, rfl, rfl⟩, ?_⟩, ?_⟩
       ·replace hx := (Upd.drew _ _).trans hx
        replace hB1 := hB1.ext hx
        refine id (X_load (p := (ptr b1 (1))) (v := s.kv) T22 rfl (hB1.at1 rfl) ?_)
        exact ⟨Upd.refl _ _, rfl⟩
       refine ⟨.det (fun val => (.int .i64 (lo))), ⟨fun _ _ hv => rfl, fun _ _ _ _ _ => trivial⟩, fun val h_ W hx he => ⟨⟨337, rfl, rfl⟩, ?_⟩, ?_⟩
       ·exact X_move (v := (.int .i64 (lo))) rfl ⟨Upd.refl _ _, rfl⟩
       refine ⟨.det (fun val => (pof s.kv ((lo : Int).toNat * 1))), ⟨fun _ _ hv => rfl, fun _ _ _ _ _ => trivial⟩, fun val h_ W hx he => ⟨⟨337, rfl, rfl⟩, ?_⟩, ?_⟩
       ·replace hx := (Upd.drew _ _).trans hx
        replace hs := hs.ext hx
        refine id (X_idx (v := s.kv) (n := s.ks.length) (k := .i64) (i := lo) S22 rfl hs.k.sv rfl (by omega) (by omega) ?_)
        exact ⟨Upd.refl _ _, rfl⟩
       refine ⟨.det (fun val => e2.1), ⟨fun _ _ hv => rfl, fun _ _ _ _ _ => trivial⟩, fun val h_ W hx he => ⟨⟨337, rfl, rfl⟩, ?_⟩, ?_⟩
       ·replace hx := (Upd.drew _ _).trans hx
        replace hs := hs.ext hx
        refine id (X_load (v := e2.1) T23 rfl (bkey hs.k ((by omega)) he2) ?_)
        exact ⟨Upd.refl _ _, rfl⟩
       refine ⟨.det (fun val => (strV (e2.2))), ⟨fun _ _ hv => rfl, fun _ _ _ _ _ => trivial⟩, fun val h_ W hx he => ⟨⟨337, rfl, rfl⟩, ?_⟩, ?_⟩
       ·replace hx := (Upd.drew _ _).trans hx
        replace hs := hs.ext hx
        refine id (X_str (v := e2.1) (l := e2.2) Tryd.underlying23 Tryd.underlying5 Tryd.underlying9 rfl (brd hs.k he2) ?_)
        exact ⟨Upd.refl _ _, rfl⟩
       refine ⟨.det (fun val => (.bool (false))), ⟨fun _ _ hv => rfl, fun _ _ _ _ _ => trivial⟩, fun val h_ W hx he => ⟨⟨337, rfl, rfl⟩, ?_⟩, ?_⟩
       ·exact X_scmp (a := kx2) (b := e2.2) (r := false) rfl rfl rfl (scmp_ne hkq2) ⟨Upd.refl _ _, rfl⟩
       refine ⟨.det (fun val => (.bool (false))), ⟨fun _ _ hv => rfl, fun _ _ _ _ _ => trivial⟩, fun val h_ W hx he => ⟨⟨337, rfl, rfl⟩, ?_⟩, ?_⟩
       ·exact X_move (v := (.bool (false))) rfl ⟨Upd.refl _ _, rfl⟩
       refine ⟨.det (fun val => y2), ⟨fun _ _ hv => rfl, fun _ _ _ _ _ => trivial⟩, fun val h_ W hx he => ⟨⟨347, rfl, rfl⟩, ?_⟩, ?_⟩
       ·exact X_move (v := y2) rfl ⟨Upd.refl _ _, rfl⟩
       refine ⟨.det (fun val => (strV (vx2))), ⟨fun _ _ hv => rfl, fun _ _ _ _ _ => trivial⟩, fun val h_ W hx he => ⟨⟨347, rfl, rfl⟩, ?_⟩, ?_⟩
       ·replace hx := (Upd.drew _ _).trans hx
        replace hY2 := hY2.ext hx
        refine id (X_str (v := y2) (l := vx2) Tryd.underlying23 Tryd.underlying5 Tryd.underlying9 rfl hY2.1 ?_)
        exact ⟨Upd.refl _ _, rfl⟩
       refine ⟨.det (fun val => (ptr b1 (2))), ⟨fun _ _ hv => rfl, fun _ _ _ _ _ => trivial⟩, fun val h_ W hx he => ⟨⟨347, rfl, rfl⟩, ?_⟩, ?_⟩
       ·exact X_fldP (b := b1) (o := 0) (r := 2) Fd27_2 rfl rfl ⟨Upd.refl _ _, rfl⟩
       refine ⟨.det (fun val => s.vv), ⟨fun _ _ hv => rfl, fun _ _ _ _ _ => trivial⟩, fun val h_ W hx he => ⟨⟨347, rfl, rfl⟩, ?_⟩, ?_⟩
       ·replace hx := (Upd.drew _ _).trans hx
        replace hB1 := hB1.ext hx
        refine id (X_load (p := (ptr b1 (2))) (v := s.vv) T22 rfl (hB1.at1 rfl) ?_)
        exact ⟨Upd.refl _ _, rfl⟩
       refine ⟨.det (fun val => (.int .i64 (lo))), ⟨fun _ _ hv => rfl, fun _ _ _ _ _ => trivial⟩, fun val h_ W hx he => ⟨⟨347, rfl, rfl⟩, ?_⟩, ?_⟩
       ·exact X_move (v := (.int .i64 (lo))) rfl ⟨Upd.refl _ _, rfl⟩
       refine ⟨.det (fun val => (pof s.vv ((lo : Int).toNat * 1))), ⟨fun _ _ hv => rfl, fun _ _ _ _ _ => trivial⟩, fun val h_ W hx he => ⟨⟨347, rfl, rfl⟩, ?_⟩, ?_⟩
       ·replace hx := (Upd.drew _ _).trans hx
        replace hs := hs.ext hx
        refine id (X_idx (v := s.vv) (n := s.vs.length) (k := .i64) (i := lo) S22 rfl hs.v.sv rfl (by omega) (by omega) ?_)
        exact ⟨Upd.refl _ _, rfl⟩
       refine ⟨.det (fun val => f2.1), ⟨fun _ _ hv => rfl, fun _ _ _ _ _ => trivial⟩, fun val h_ W hx he => ⟨⟨347, rfl, rfl⟩, ?_⟩, ?_⟩
       ·replace hx := (Upd.drew _ _).trans hx
        replace hs := hs.ext hx
        refine id (X_load (v := f2.1) T23 rfl (bkey hs.v ((by omega)) hf2) ?_)
        exact ⟨Upd.refl _ _, rfl⟩
       refine ⟨.det (fun val => (strV (f2.2))), ⟨fun _ _ hv => rfl, fun _ _ _ _ _ => trivial⟩, fun val h_ W hx he => ⟨⟨347, rfl, rfl⟩, ?_⟩, ?_⟩
       ·replace hx := (Upd.drew _ _).trans hx
        replace hs := hs.ext hx
        refine id (X_str (v := f2.1) (l := f2.2) Tryd.underlying23 Tryd.underlying5 Tryd.underlying9 rfl (brd hs.v hf2) ?_)
        exact ⟨Upd.refl _ _, rfl⟩
       intro val W103 hx103 he103
       replace hx103 := (Upd.drew _ _).trans hx103
       have hz103 := hx103.size
       replace hB1 := hB1.ext hx103
       replace hs := hs.ext hx103
       replace hk := hk.ext hx103
       replace hU := hU.trans (Ext.upd hx103)
       replace hX1 := hX1.ext hx103
       replace hY1 := hY1.ext hx103
       replace hX2 := hX2.ext hx103
       replace hY2 := hY2.ext hx103
       refine L_gy (dj := 347) rfl rfl rfl (X_scmp (a := vx2) (b := f2.2) (r := false) rfl rfl rfl (scmp_ne hvq2) ?_)
       refine L_gy (dj := 337) rfl rfl rfl (X_pick (t := false) (v := (.bool (false))) rfl rfl ?_)
       refine L_gy (dj := 335) rfl rfl rfl (X_pick (t := true) (v := (.bool (false))) rfl rfl ?_)
       refine L_op rfl (X_pick (t := false) (v := (.bool (false))) rfl rfl ?_)
       refine L_nil ?_
       refine T_n ?_
       refine W_cf rfl ?_
       refine W_skip ?_
       refine T_n ?_
       refine W_seq ?_
       refine W_reg ?_
       have hcr_ := c_wakes W103
       refine L_op rfl (X_fn (vs := []) en4 rfl ?_)
       refine CT.mono hcr_ ?_
       clear hcr_
       rintro _ w106 ⟨rfl, hu106⟩
       have hz106 := hu106.size
       replace hB1 := hB1.ext hu106
       replace hs := hs.ext hu106
       replace hk := hk.ext hu106
       replace hU := hU.trans (Ext.upd hu106)
       replace hX1 := hX1.ext hu106
       replace hY1 := hY1.ext hu106
       replace hX2 := hX2.ext hu106
       replace hY2 := hY2.ext hu106
       refine L_op rfl (X_assign (v := (.bool (true))) rfl ?_)
       refine L_nil ?_
       refine T_n ?_
       refine W_ret ?_
       exact BQ_r (End_1 Tryd.results3 (v := .bool true) rfl ⟨rfl, hU.own hn0⟩)
      ·have hq2 : ¬ _ := fun h_ => by cases ht2.2 h_
       refine L_op rfl (X_fldP (b := b1) (o := 0) (r := 2) Fd27_2 rfl rfl ?_)
       refine L_op rfl (X_load (p := (ptr b1 (2))) (v := s.vv) T22 rfl (hB1.at1 rfl) ?_)
       refine L_op rfl (X_len (v := s.vv) (n := s.vs.length) Tryd.underlying22 rfl hs.v.sv ?_)
       refine L_op rfl (X_fldP (b := b1) (o := 0) (r := 1) Fd27_1 rfl rfl ?_)
       refine L_op rfl (X_load (p := (ptr b1 (1))) (v := s.kv) T22 rfl (hB1.at1 rfl) ?_)
       refine L_op rfl (X_len (v := s.kv) (n := s.ks.length) Tryd.underlying22 rfl hs.k.sv ?_)
       refine L_op rfl (X_cmp (k := .i64) (a := ((s.vs.length : Nat) : Int)) (b := ((s.ks.length : Nat) : Int)) (r := false) rfl rfl rfl (decide_eq_false (p := ((((s.vs.length : Nat) : Int)) : Int) ≠ ((((s.ks.length : Nat) : Int)) : Int)) (by omega)) ?_)
       refine L_op rfl (X_move (v := (.bool (false))) rfl ?_)
       refine L_gy (dj := 297) rfl rfl rfl (X_move (v := (.bool (false))) rfl ?_)
       refine L_gy (dj := 297) rfl rfl rfl (X_move (v := (.int .i64 (hi))) rfl ?_)
       refine L_gy (dj := 297) rfl rfl rfl (X_fldP (b := b1) (o := 0) (r := 1) Fd27_1 rfl rfl ?_)
       refine L_gy (dj := 297) rfl rfl rfl (X_load (p := (ptr b1 (1))) (v := s.kv) T22 rfl (hB1.at1 rfl) ?_)
       refine L_gy (dj := 297) rfl rfl rfl (X_len (v := s.kv) (n := s.ks.length) Tryd.underlying22 rfl hs.k.sv ?_)
       refine L_gy (dj := 297) rfl rfl rfl (X_cmp (k := .i64) (a := hi) (b := ((s.ks.length : Nat) : Int)) (r := false) rfl rfl rfl (decide_eq_false (p := ((hi) : Int) < ((((s.ks.length : Nat) : Int)) : Int)) (by omega)) ?_)
       refine L_gy (dj := 297) rfl rfl rfl (X_cmpBool (a := false) (b := false) (r := false) Tryd.underlying4 rfl rfl (.inr ⟨rfl, rfl⟩) ?_)
       refine L_op rfl (X_pick (t := false) (v := (.bool (false))) rfl rfl ?_)
       refine L_op rfl (X_move (v := (.bool (false))) rfl ?_)
       refine L_gy (dj := 306) rfl rfl rfl (X_move (v := (.bool (false))) rfl ?_)
       refine L_gy (dj := 306) rfl rfl rfl (X_move (v := (.int .i64 (lo))) rfl ?_)
       refine L_gy (dj := 306) rfl rfl rfl (X_cmp (k := .i64) (a := lo) (b := 0) (r := false) rfl rfl rfl (decide_eq_false (p := ((0) : Int) ≤ ((lo) : Int)) (by omega)) ?_)
       refine L_gy (dj := 306) rfl rfl rfl (X_cmpBool (a := false) (b := false) (r := false) Tryd.underlying4 rfl rfl (.inr ⟨rfl, rfl⟩) ?_)
       refine L_op rfl (X_pick (t := false) (v := (.bool (false))) rfl rfl ?_)
       refine L_nil ?_
       refine T_n ?_
       refine W_cf rfl ?_
       refine W_skip ?_
       refine T_n ?_
       refine W_seq ?_
       refine W_seq ?_
       refine W_draw 44 [[], [0], [0, 1], [0, 1, 2], [0, 1], [0, 1, 4], [0, 1], [0, 1, 4, 5, 6], [0, 1, 4, 5, 6, 7], [0, 1, 4, 5, 6, 7, 8], [0, 1, 2, 3, 4, 5, 6, 7, 8, 9], [0, 1, 2, 3, 4, 5, 6, 7, 8, 9, 10], [0, 1, 2, 3, 4, 5, 6, 7, 8, 9, 10, 11], [0, 1, 2, 3, 4, 5, 6, 7, 8, 9, 10, 11, 12], [0, 1, 2, 3, 4, 5, 6, 7, 8, 9, 10, 11], [0, 1, 2, 3, 4, 5, 6, 7, 8, 9, 10, 11, 14], [0, 1, 2, 3, 4, 5, 6, 7, 8, 9, 10, 11], [0, 1, 2, 3, 4, 5, 6, 7, 8, 9, 10, 11, 14, 15, 16], [0, 1, 2, 3, 4, 5, 6, 7, 8, 9, 10, 11, 14, 15, 16, 17], [0, 1, 2, 3, 4, 5, 6, 7, 8, 9, 10, 11, 14, 15, 16, 17, 18], [0, 1, 2, 3, 4, 5, 6, 7, 8, 9, 10, 11, 12, 13, 14, 15, 16, 17, 18, 19], [0, 1, 2, 3, 4, 5, 6, 7, 8, 9, 10, 11, 12, 13, 14, 15, 16, 17, 18, 19, 20], [0, 1, 2, 3, 4, 5, 6, 7, 8, 9, 10, 11, 12, 13, 14, 15, 16, 17, 18, 19, 20, 21], [0, 1, 2, 3, 4, 5, 6, 7, 8, 9, 10, 11, 12, 13, 14, 15, 16, 17, 18, 19, 20, 21, 22], [0, 1, 2, 3, 4, 5, 6, 7, 8, 9, 10, 11, 12, 13, 14, 15, 16, 17, 18, 19, 20, 21, 22, 23], [0, 1, 2, 3, 4, 5, 6, 7, 8, 9, 10, 11, 12, 13, 14, 15, 16, 17, 18, 19, 20, 21, 22, 23, 24], [0, 1, 2, 3, 4, 5, 6, 7, 8, 9, 10, 11, 12, 13, 14, 15, 16, 17, 18, 19, 20, 21, 22, 23, 24, 25], [0, 1, 2, 3, 4, 5, 6, 7, 8, 9, 10, 11, 12, 13, 14, 15, 16, 17, 18, 19, 20, 21, 22, 23, 24, 25, 26], [0, 1, 2, 3, 4, 5, 6, 7, 8, 9, 10, 11, 12, 13, 14, 15, 16, 17, 18, 19, 20, 21, 22, 23, 24, 25], [0, 1, 2, 3, 4, 5, 6, 7, 8, 9, 10, 11, 12, 13, 14, 15, 16, 17, 18, 19, 20, 21, 22, 23, 24, 25, 28], [0, 1, 2, 3, 4, 5, 6, 7, 8, 9, 10, 11, 12, 13, 14, 15, 16, 17, 18, 19, 20, 21, 22, 23, 24, 25], [0, 1, 2, 3, 4, 5, 6, 7, 8, 9, 10, 11, 12, 13, 14, 15, 16, 17, 18, 19, 20, 21, 22, 23, 24, 25, 28, 29, 30], [0, 1, 2, 3, 4, 5, 6, 7, 8, 9, 10, 11, 12, 13, 14, 15, 16, 17, 18, 19, 20, 21, 22, 23, 24, 25, 28, 29, 30, 31], [0, 1, 2, 3, 4, 5, 6, 7, 8, 9, 10, 11, 12, 13, 14, 15, 16, 17, 18, 19, 20, 21, 22, 23, 24, 25, 28, 29, 30, 31, 32], [0, 1, 2, 3, 4, 5, 6, 7, 8, 9, 10, 11, 12, 13, 14, 15, 16, 17, 18, 19, 20, 21, 22, 23, 24, 25, 26, 27, 28, 29, 30, 31, 32, 33], [0, 1, 2, 3, 4, 5, 6, 7, 8, 9, 10, 11, 12, 13, 14, 15, 16, 17, 18, 19, 20, 21, 22, 23, 24, 25, 26, 27, 28, 29, 30, 31, 32, 33, 34], [0, 1, 2, 3, 4, 5, 6, 7, 8, 9, 10, 11, 12, 13, 14, 15, 16, 17, 18, 19, 20, 21, 22, 23, 24, 25, 26, 27, 28, 29, 30, 31, 32, 33, 34, 35], [0, 1, 2, 3, 4, 5, 6, 7, 8, 9, 10, 11, 12, 13, 14, 15, 16, 17, 18, 19, 20, 21, 22, 23, 24, 25, 26, 27, 28, 29, 30, 31, 32, 33, 34, 35, 36], [0, 1, 2, 3, 4, 5, 6, 7, 8, 9, 10, 11, 12, 13, 14, 15, 16, 17, 18, 19, 20, 21, 22, 23, 24, 25, 26, 27, 28, 29, 30, 31, 32, 33, 34, 35], [0, 1, 2, 3, 4, 5, 6, 7, 8, 9, 10, 11, 12, 13, 14, 15, 16, 17, 18, 19, 20, 21, 22, 23, 24, 25, 26, 27, 28, 29, 30, 31, 32, 33, 34, 35, 38], [0, 1, 2, 3, 4, 5, 6, 7, 8, 9, 10, 11, 12, 13, 14, 15, 16, 17, 18, 19, 20, 21, 22, 23, 24, 25, 26, 27, 28, 29, 30, 31, 32, 33, 34, 35], [0, 1, 2, 3, 4, 5, 6, 7, 8, 9, 10, 11, 12, 13, 14, 15, 16, 17, 18, 19, 20, 21, 22, 23, 24, 25, 26, 27, 28, 29, 30, 31, 32, 33, 34, 35, 38, 39, 40], [0, 1, 2, 3, 4, 5, 6, 7, 8, 9, 10, 11, 12, 13, 14, 15, 16, 17, 18, 19, 20, 21, 22, 23, 24, 25, 26, 27, 28, 29, 30, 31, 32, 33, 34, 35, 38, 39, 40, 41], [0, 1, 2, 3, 4, 5, 6, 7, 8, 9, 10, 11, 12, 13, 14, 15, 16, 17, 18, 19, 20, 21, 22, 23, 24, 25, 26, 27, 28, 29, 30, 31, 32, 33, 34, 35, 38, 39, 40, 41, 42], [0, 1, 2, 3, 4, 5, 6, 7, 8, 9, 10, 11, 12, 13, 14, 15, 16, 17, 18, 19, 20, 21, 22, 23, 24, 25, 26, 27, 28, 29, 30, 31, 32, 33, 34, 35, 36, 37, 38, 39, 40, 41, 42, 43], [0, 1, 2, 3, 4, 5, 6, 7, 8, 9, 10, 11, 12, 13, 14, 15, 16, 17, 18, 19, 20, 21, 22, 23, 24, 25, 26, 27, 28, 29, 30, 31, 32, 33, 34, 35, 36, 37, 38, 39, 40, 41, 42, 43, 44], [0, 1, 2, 3, 4, 5, 6, 7, 8, 9, 10, 11, 12, 13, 14, 15, 16, 17, 18, 19, 20, 21, 22, 23, 24, 25, 26, 27, 28, 29, 30, 31, 32, 33, 34, 35, 36, 37, 38, 39, 40, 41, 42, 43, 44, 45], [0, 1, 2, 3, 4, 5, 6, 7, 8, 9, 10, 11, 12, 13, 14, 15, 16, 17, 18, 19, 20, 21, 22, 23, 24, 25, 26, 27, 28, 29, 30, 31, 32, 33, 34, 35, 36, 37, 38, 39, 40, 41, 42, 43, 44, 45, 46]] mixed (by kernel_rfl) ?_
       refine ⟨.det (fun val => (.bool (false))), ⟨fun _ _ hv => rfl, fun _ _ _ _ _ => trivial⟩, fun val h_ W hx he => ⟨trivial, ?_⟩, ?_⟩
       ·exact X_move (v := (.bool (false))) rfl ⟨Upd.refl _ _, rfl⟩
       refine ⟨.det (fun val => (.bool (false))), ⟨fun _ _ hv => rfl, fun _ _ _ _ _ => trivial⟩, fun val h_ W hx he => ⟨trivial, ?_⟩, ?_⟩
       ·exact X_move (v := (.bool (false))) rfl ⟨Upd.refl _ _, rfl⟩
       refine ⟨.no, ⟨fun _ _ _ => trivial, fun _ _ _ _ _ => trivial⟩, fun val h_ W hx he => ⟨313, rfl, .inl rfl⟩, ?_⟩
       refine ⟨.no, ⟨fun _ _ _ => trivial, fun _ _ _ _ _ => trivial⟩, fun val h_ W hx he => ⟨313, rfl, .inl rfl⟩, ?_⟩
       refine ⟨.no, ⟨fun _ _ _ => trivial, fun _ _ _ _ _ => trivial⟩, fun val h_ W hx he => ⟨313, rfl, .inl rfl⟩, ?_⟩
       refine ⟨.no, ⟨fun _ _ _ => trivial, fun _ _ _ _ _ => trivial⟩, fun val h_ W hx he => ⟨313, rfl, .inl rfl⟩, ?_⟩
       refine ⟨.no, ⟨fun _ _ _ => trivial, fun _ _ _ _ _ => trivial⟩, fun val h_ W hx he => ⟨313, rfl, .inl rfl⟩, ?_⟩
       refine ⟨.no, ⟨fun _ _ _ => trivial, fun _ _ _ _ _ => trivial⟩, fun val h_ W hx he => ⟨313, rfl, .inl rfl⟩, ?_⟩
       refine ⟨.no, ⟨fun _ _ _ => trivial, fun _ _ _ _ _ => trivial⟩, fun val h_ W hx he => ⟨313, rfl, .inl rfl⟩, ?_⟩
       refine ⟨.no, ⟨fun _ _ _ => trivial, fun _ _ _ _ _ => trivial⟩, fun val h_ W hx he => ⟨313, rfl, .inl rfl⟩, ?_⟩
       refine ⟨.no, ⟨fun _ _ _ => trivial, fun _ _ _ _ _ => trivial⟩, fun val h_ W hx he => ⟨313, rfl, .inl rfl⟩, ?_⟩
       refine ⟨.no, ⟨fun _ _ _ => trivial, fun _ _ _ _ _ => trivial⟩, fun val h_ W hx he => ⟨313, rfl, .inl rfl⟩, ?_⟩
       refine ⟨.no, ⟨fun _ _ _ => trivial, fun _ _ _ _ _ => trivial⟩, fun val h_ W hx he => ⟨323, rfl, .inr rfl⟩, ?_⟩
       refine ⟨.no, ⟨fun _ _ _ => trivial, fun _ _ _ _ _ => trivial⟩, fun val h_ W hx he => ⟨323, rfl, .inr rfl⟩, ?_⟩
       refine ⟨.no, ⟨fun _ _ _ => trivial, fun _ _ _ _ _ => trivial⟩, fun val h_ W hx he => ⟨323, rfl, .inr rfl⟩, ?_⟩
       refine ⟨.no, ⟨fun _ _ _ => trivial, fun _ _ _ _ _ => trivial⟩, fun val h_ W hx he => ⟨323, rfl, .inr rfl⟩, ?_⟩
       refine ⟨.no, ⟨fun _ _ _ => trivial, fun _ _ _ _ _ => trivial⟩, fun val h_ W hx he => ⟨323, rfl, .inr rfl⟩, ?_⟩
       refine ⟨.no, ⟨fun _ _ _ => trivial, fun _ _ _ _ _ => trivial⟩, fun val h_ W hx he => ⟨323, rfl, .inr rfl⟩, ?_⟩
       refine ⟨.no, ⟨fun _ _ _ => trivial, fun _ _ _ _ _ => trivial⟩, fun val h_ W hx he => ⟨323, rfl, .inr rfl⟩, ?_⟩
       refine ⟨.no, ⟨fun _ _ _ => trivial, fun _ _ _ _ _ => trivial⟩, fun val h_ W hx he => ⟨323, rfl, .inr rfl⟩, ?_⟩
       refine ⟨.no, ⟨fun _ _ _ => trivial, fun _ _ _ _ _ => trivial⟩, fun val h_ W hx he => ⟨323, rfl, .inr rfl⟩, ?_⟩
       refine ⟨.no, ⟨fun _ _ _ => trivial, fun _ _ _ _ _ => trivial⟩, fun val h_ W hx he => ⟨313, rfl, .inl rfl⟩, ?_⟩
       refine ⟨.det (fun val => (.bool (false))), ⟨fun _ _ hv => rfl, fun _ _ _ _ _ => trivial⟩, fun val h_ W hx he => ⟨trivial, ?_⟩, ?_⟩
       ·exact X_pick (t := false) (v := (.bool (false))) rfl rfl ⟨Upd.refl _ _, rfl⟩
       refine ⟨.det (fun val => (.bool (false))), ⟨fun _ _ hv => rfl, fun _ _ _ _ _ => trivial⟩, fun val h_ W hx he => ⟨trivial, ?_⟩, ?_⟩
       ·exact X_move (v := (.bool (false))) rfl ⟨Upd.refl _ _, rfl⟩
       refine ⟨.det (fun val => (.bool (false))), ⟨fun _ _ hv => rfl, fun _ _ _ _ _ => trivial⟩, fun val h_ W hx he => ⟨⟨335, rfl, rfl⟩, ?_⟩, ?_⟩
       ·exact X_move (v := (.bool (false))) rfl ⟨Upd.refl _ _, rfl⟩
       refine ⟨.det (fun val => (.bool (false))), ⟨fun _ _ hv => rfl, fun _ _ _ _ _ => trivial⟩, fun val h_ W hx he => ⟨⟨335, rfl, rfl⟩, ?_⟩, ?_⟩
       ·exact X_move (v := (.bool (false))) rfl ⟨Upd.refl _ _, rfl⟩
       refine ⟨.no, ⟨fun _ _ _ => trivial, fun _ _ _ _ _ => trivial⟩, fun val h_ W hx he => ⟨337, rfl, .inl rfl⟩, ?_⟩
       refine ⟨.no, ⟨fun _ _ _ => trivial, fun _ _ _ _ _ => trivial⟩, fun val h_ W hx he => ⟨337, rfl, .inl rfl⟩, ?_⟩
       refine ⟨.no, ⟨fun _ _ _ => trivial, fun _ _ _ _ _ => trivial⟩, fun val h_ W hx he => ⟨337, rfl, .inl rfl⟩, ?_⟩
       refine ⟨.no, ⟨fun _ _ _ => trivial, fun _ _ _ _ _ => trivial⟩, fun val h_ W hx he => ⟨337, rfl, .inl rfl⟩, ?_⟩
       refine ⟨.no, ⟨fun _ _ _ => trivial, fun _ _ _ _ _ => trivial⟩, fun val h_ W hx he => ⟨337, rfl, .inl rfl⟩, ?_⟩
       refine ⟨.no, ⟨fun _ _ _ => trivial, fun _ _ _ _ _ => trivial⟩, fun val h_ W hx he => ⟨337, rfl, .inl rfl⟩, ?_⟩
       refine ⟨.no, ⟨fun _ _ _ => trivial, fun _ _ _ _ _ => trivial⟩, fun val h_ W hx he => ⟨337, rfl, .inl rfl⟩, ?_⟩
       refine ⟨.no, ⟨fun _ _ _ => trivial, fun _ _ _ _ _ => trivial⟩, fun val h_ W hx he => ⟨337, rfl, .inl rfl⟩, ?_⟩
       refine ⟨.no, ⟨fun _ _ _ => trivial, fun _ _ _ _ _ => trivial⟩, fun val h_ W hx he => ⟨337, rfl, .inl rfl⟩, ?_⟩
       refine ⟨.no, ⟨fun _ _ _ => trivial, fun _ _ _ _ _ => trivial⟩, fun val h_ W hx he => ⟨337, rfl, .inl rfl⟩, ?_⟩
       refine ⟨.no, ⟨fun _ _ _ => trivial, fun _ _ _ _ _ => trivial⟩, fun val h_ W hx he => ⟨347, rfl, .inr rfl⟩, ?_⟩
       refine ⟨.no, ⟨fun _ _ _ => trivial, fun _ _ _ _ _ => trivial⟩, fun val h_ W hx he => ⟨347, rfl, .inr rfl⟩, ?_⟩
       refine ⟨.no, ⟨fun _ _ _ => trivial, fun _ _ _ _ _ => trivial⟩, fun val h_ W hx he => ⟨347, rfl, .inr rfl⟩, ?_⟩
       refine ⟨.no, ⟨fun _ _ _ => trivial, fun _ _ _ _ _ => trivial⟩, fun val h_ W hx he => ⟨347, rfl, .inr rfl⟩, ?_⟩
       refine ⟨.no, ⟨fun _ _ _ => trivial, fun _ _ _ _ _ => trivial⟩, fun val h_ W hx he => ⟨347, rfl, .inr rfl⟩, ?_⟩
       refine ⟨.no, ⟨fun _ _ _ => trivial, fun _ _ _ _ _ => trivial⟩, fun val h_ W hx he => ⟨347, rfl, .inr rfl⟩, ?_⟩
       refine ⟨.no, ⟨fun _ _ _ => trivial, fun _ _ _ _ _ => trivial⟩, fun val h_ W hx he => ⟨347, rfl, .inr rfl⟩, ?_⟩
       refine ⟨.no, ⟨fun _ _ _ => trivial, fun _ _ _ _ _ => trivial⟩, fun val h_ W hx he => ⟨347, rfl, .inr rfl⟩, ?_⟩
       intro val W107 hx107 he107
       replace hx107 := (Upd.drew _ _).trans hx107
       have hz107 := hx107.size
       replace hB1 := hB1.ext hx107
       replace hs := hs.ext hx107
       replace hk := hk.ext hx107
       replace hU := hU.trans (Ext.upd hx107)
       replace hX1 := hX1.ext hx107
       replace hY1 := hY1.ext hx107
       replace hX2 := hX2.ext hx107
       replace hY2 := hY2.ext hx107
       refine L_gu (dj := 347) rfl rfl rfl ?_
       refine L_gn (dj := 337) (t := false) rfl rfl rfl rfl ?_
       refine L_gy (dj := 335) rfl rfl rfl (X_pick (t := false) (v := (.bool (false))) rfl rfl ?_)
       refine L_op rfl (X_pick (t := false) (v := (.bool (false))) rfl rfl ?_)
       refine L_nil ?_
       refine T_n ?_
       refine W_cf rfl ?_
       refine W_skip ?_
       refine T_n ?_
       refine W_seq ?_
       refine W_reg ?_
       have hcr_ := c_wakes W107
       refine L_op rfl (X_fn (vs := []) en4 rfl ?_)
       refine CT.mono hcr_ ?_
       clear hcr_
       rintro _ w108 ⟨rfl, hu108⟩
       have hz108 := hu108.size
       replace hB1 := hB1.ext hu108
       replace hs := hs.ext hu108
       replace hk := hk.ext hu108
       replace hU := hU.trans (Ext.upd hu108)
       replace hX1 := hX1.ext hu108
       replace hY1 := hY1.ext hu108
       replace hX2 := hX2.ext hu108
       replace hY2 := hY2.ext hu108
       refine L_op rfl (X_assign (v := (.bool (true))) rfl ?_)
       refine L_nil ?_
       refine T_n ?_
       refine W_ret ?_
       exact BQ_r (End_1 Tryd.results3 (v := .bool true) rfl ⟨rfl, hU.own hn0⟩)
end Go.Proofs.YthncpmablodbjaaDoor
