/-
  Maps of the model: Seek. (Printed by wip/gen/t31f.py of this repo.)
-/
import Derived.Test.YthncpmablodbjaaDoorMapsE
namespace Go.Proofs.YthncpmablodbjaaDoor
open Go Go.SL Go.Proofs
set_option linter.unusedVariables false

/-- what stands there: the place -/
def seekD (ks : List B) (m : B) (bk : Bool) : Int := if (bk && !(atD ks m).2) = true then ((atD ks m).1 : Int) - 1 else ((atD ks m).1 : Int)
theorem seek_y {ks : List B} {m : B} {a : Nat} (h : atD ks m = (a, false)) : seekD ks m true = (a : Int) - 1 := by unfold seekD; rw [h]; rfl
theorem seek_t {ks : List B} {m : B} {bk : Bool} {a : Nat} (h : atD ks m = (a, true)) : seekD ks m bk = (a : Int) := by unfold seekD; rw [h]; cases bk <;> rfl
theorem seek_n {ks : List B} {m : B} {p : Nat × Bool} (h : atD ks m = p) : seekD ks m false = (p.1 : Int) := by unfold seekD; rw [h]; rfl

theorem c_seek (s : Sn) (w : World) (lo up : Nat) (hup : up ≤ w.heap.size) (hs : s.R w lo up) (key : Value) (m : B) (hm : m.length ≤ 140737488355328) (hk : Rd w 1 key m.length (m.map byteV)) (bk : Bool) : CT Tryd.prog 8 #[(.agg #[(.int .u32 (s.tx)), s.kv, s.vv, (.int .u8 (s.mr)), (.int .u8 (s.lv))]), key, (.bool (bk))] w fun v w' => ∃ (x y : Value) (t : Bool), v = .tuple #[x, y, .bool t] ∧ BOwn w' 5 w.heap.size w'.heap.size (x, valD (bl s.ks) (seekD (bl s.ks) m bk)) ∧ BOwn w' 5 w.heap.size w'.heap.size (y, valD (bl s.vs) (seekD (bl s.ks) m bk)) ∧ (t = true ↔ 0 ≤ (seekD (bl s.ks) m bk) ∧ (seekD (bl s.ks) m bk) < (s.ks.length : Int)) ∧ Ext w w' := by
  obtain ⟨n0, hn0⟩ : ∃ n, n = w.heap.size := ⟨_, rfl⟩
  have hU : Upd (fun i => n0 ≤ i) w w := Upd.refl _ _
  have hk_b : ∀ i, rbk key = some i → i < n0 := by rw [hn0]; exact fun i hi => hk.bound (by decide) hi
  rw [← hn0] at hup
  have hsm_ := hs.sm
  refine CT_of Tryd.func8 rfl rfl rfl ?_
  refine W_seq ?_
  refine W_reg ?_
  refine L_op rfl (X_box (v := (.agg #[(.int .u32 (s.tx)), s.kv, s.vv, (.int .u8 (s.mr)), (.int .u8 (s.lv))])) (c := ([(.int .u32 (s.tx)), s.kv, s.vv, (.int .u8 (s.mr)), (.int .u8 (s.lv))]).toArray) rfl rfl ?_)
  intro b1 w1 hn1
  have hbn1 := hn1.num; have hbs1 := hn1.size
  replace hs := hs.ext hn1.ext
  replace hk := hk.ext hn1.ext
  replace hU := hU.trans (Ext.upd hn1.ext)
  have hB1 := hn1.blk
  refine L_op rfl (X_assign (v := (.slice none 0 0)) rfl ?_)
  refine L_op rfl (X_assign (v := (.slice none 0 0)) rfl ?_)
  refine L_op rfl (X_assign (v := (.bool (false))) rfl ?_)
  refine L_nil ?_
  refine T_n ?_
  refine W_seq ?_
  refine W_reg ?_
  refine L_op rfl (X_loadA (p := (ptr b1 (0))) (xs := [(.int .u32 (s.tx)), s.kv, s.vv, (.int .u8 (s.mr)), (.int .u8 (s.lv))]) A27 rfl hB1.atAll rfl ?_)
  refine L_op rfl (X_move (v := key) rfl ?_)
  have hcr_ := c_at s w1 lo up (by omega) hs key m hm hk
  refine L_op rfl (X_fn (vs := [(.agg ([(.int .u32 (s.tx)), s.kv, s.vv, (.int .u8 (s.mr)), (.int .u8 (s.lv))]).toArray), key]) en12 rfl ?_)
  refine CT.mono hcr_ ?_
  clear hcr_
  rintro _ w2 ⟨pa, pt, rfl, hpe, hu2⟩
  have hz2 := hu2.size
  replace hs := hs.ext hu2
  replace hk := hk.ext hu2
  replace hU := hU.trans (Ext.upd hu2)
  replace hB1 := hB1.ext hu2
  have hal := at_le m (bl s.ks)
  rw [bl_len, hpe] at hal
  replace hal : pa ≤ s.ks.length := hal
  refine L_op rfl (X_move (v := (.tuple #[(.int .i64 (((pa : Nat) : Int))), (.bool (pt))])) rfl ?_)
  refine L_op rfl (X_extract (l := [(.int .i64 (((pa : Nat) : Int))), (.bool (pt))]) (v := (.int .i64 (((pa : Nat) : Int)))) rfl rfl ?_)
  refine L_op rfl (X_extract (l := [(.int .i64 (((pa : Nat) : Int))), (.bool (pt))]) (v := (.bool (pt))) rfl rfl ?_)
  refine L_op rfl (X_assign (v := (.int .i64 (((pa : Nat) : Int)))) rfl ?_)
  refine L_op rfl (X_assign (v := (.bool (pt))) rfl ?_)
  refine L_nil ?_
  refine T_n ?_
  refine W_seq ?_
  refine W_seq ?_
  refine W_reg ?_
  rcases Bool.eq_false_or_eq_true bk with rfl | rfl
  · rcases Bool.eq_false_or_eq_true pt with hb | hb
    · subst hb
      refine L_op rfl (X_move (v := (.bool (true))) rfl ?_)
      refine L_op rfl (X_move (v := (.bool (true))) rfl ?_)
      refine L_gy (dj := 18) rfl rfl rfl (X_move (v := (.bool (true))) rfl ?_)
      refine L_gy (dj := 18) rfl rfl rfl (X_not (b := true) (r := false) rfl rfl ?_)
      refine L_op rfl (X_pick (t := true) (v := (.bool (false))) rfl rfl ?_)
      refine L_nil ?_
      refine T_n ?_
      refine W_cf rfl ?_
      refine W_skip ?_
      refine T_n ?_
      refine W_seq ?_
      refine W_seq ?_
      refine W_reg ?_
      refine L_op rfl (X_move (v := (.int .i64 (((pa : Nat) : Int)))) rfl ?_)
      by_cases hc3 : (((pa : Nat) : Int) : Int) < (0)
      · refine L_op rfl (X_cmp (k := .i64) (a := ((pa : Nat) : Int)) (b := 0) (r := true) rfl rfl rfl (decide_eq_true (p := ((((pa : Nat) : Int)) : Int) < ((0) : Int)) (by omega)) ?_)
        refine L_op rfl (X_move (v := (.bool (true))) rfl ?_)
        refine L_gn (dj := 26) (t := true) rfl rfl rfl rfl ?_
        refine L_gn (dj := 26) (t := true) rfl rfl rfl rfl ?_
        refine L_gn (dj := 26) (t := true) rfl rfl rfl rfl ?_
        refine L_gn (dj := 26) (t := true) rfl rfl rfl rfl ?_
        refine L_gn (dj := 26) (t := true) rfl rfl rfl rfl ?_
        refine L_op rfl (X_pick (t := true) (v := (.bool (true))) rfl rfl ?_)
        refine L_nil ?_
        refine T_n ?_
        refine W_ct rfl ?_
        refine W_seq ?_
        refine W_reg ?_
        refine L_op rfl (X_assign (v := (.slice none 0 0)) rfl ?_)
        refine L_op rfl (X_assign (v := (.slice none 0 0)) rfl ?_)
        refine L_op rfl (X_assign (v := (.bool (false))) rfl ?_)
        refine L_nil ?_
        refine T_n ?_
        refine W_ret ?_
        refine T_r ?_
        have hsk : seekD (bl s.ks) m true = ((pa : Nat) : Int) := seek_t hpe
        have hb1 : valD (bl s.ks) ((pa : Nat) : Int) = [] := by by_cases h_ : ((pa : Nat) : Int) < 0; (· exact val_neg h_); (· exact val_big h_ (by rw [bl_len]; omega))
        have hb2 : valD (bl s.vs) ((pa : Nat) : Int) = [] := by by_cases h_ : ((pa : Nat) : Int) < 0; (· exact val_neg h_); (· exact val_big h_ (by rw [bl_len]; have := hs.len; omega))
        exact BQ_r (End_3 Tryd.results8 (v1 := .slice none 0 0) (v2 := .slice none 0 0) (v3 := .bool false) rfl rfl rfl ⟨_, _, false, rfl, by rw [hsk, hb1]; exact BOwn.nil _ _ _ _, by rw [hsk, hb2]; exact BOwn.nil _ _ _ _, ⟨fun h => (by cases h), fun h => (by rw [hsk] at h; omega)⟩, hU.own hn0⟩)
      · refine L_op rfl (X_cmp (k := .i64) (a := ((pa : Nat) : Int)) (b := 0) (r := false) rfl rfl rfl (decide_eq_false (p := ((((pa : Nat) : Int)) : Int) < ((0) : Int)) (by omega)) ?_)
        refine L_op rfl (X_move (v := (.bool (false))) rfl ?_)
        refine L_gy (dj := 26) rfl rfl rfl (X_move (v := (.int .i64 (((pa : Nat) : Int)))) rfl ?_)
        refine L_gy (dj := 26) rfl rfl rfl (X_fldP (b := b1) (o := 0) (r := 1) Fd27_1 rfl rfl ?_)
        refine L_gy (dj := 26) rfl rfl rfl (X_load (p := (ptr b1 (1))) (v := s.kv) T22 rfl (hB1.at1 rfl) ?_)
        refine L_gy (dj := 26) rfl rfl rfl (X_len (v := s.kv) (n := s.ks.length) Tryd.underlying22 rfl hs.k.sv ?_)
        by_cases hc4 : (((pa : Nat) : Int) : Int) ≥ (((s.ks.length : Nat) : Int))
        · refine L_gy (dj := 26) rfl rfl rfl (X_cmp (k := .i64) (a := ((pa : Nat) : Int)) (b := ((s.ks.length : Nat) : Int)) (r := true) rfl rfl rfl (decide_eq_true (p := ((((s.ks.length : Nat) : Int)) : Int) ≤ ((((pa : Nat) : Int)) : Int)) (by omega)) ?_)
          refine L_op rfl (X_pick (t := false) (v := (.bool (true))) rfl rfl ?_)
          refine L_nil ?_
          refine T_n ?_
          refine W_ct rfl ?_
          refine W_seq ?_
          refine W_reg ?_
          refine L_op rfl (X_assign (v := (.slice none 0 0)) rfl ?_)
          refine L_op rfl (X_assign (v := (.slice none 0 0)) rfl ?_)
          refine L_op rfl (X_assign (v := (.bool (false))) rfl ?_)
          refine L_nil ?_
          refine T_n ?_
          refine W_ret ?_
          refine T_r ?_
          have hsk : seekD (bl s.ks) m true = ((pa : Nat) : Int) := seek_t hpe
          have hb1 : valD (bl s.ks) ((pa : Nat) : Int) = [] := by by_cases h_ : ((pa : Nat) : Int) < 0; (· exact val_neg h_); (· exact val_big h_ (by rw [bl_len]; omega))
          have hb2 : valD (bl s.vs) ((pa : Nat) : Int) = [] := by by_cases h_ : ((pa : Nat) : Int) < 0; (· exact val_neg h_); (· exact val_big h_ (by rw [bl_len]; have := hs.len; omega))
          exact BQ_r (End_3 Tryd.results8 (v1 := .slice none 0 0) (v2 := .slice none 0 0) (v3 := .bool false) rfl rfl rfl ⟨_, _, false, rfl, by rw [hsk, hb1]; exact BOwn.nil _ _ _ _, by rw [hsk, hb2]; exact BOwn.nil _ _ _ _, ⟨fun h => (by cases h), fun h => (by rw [hsk] at h; omega)⟩, hU.own hn0⟩)
        · refine L_gy (dj := 26) rfl rfl rfl (X_cmp (k := .i64) (a := ((pa : Nat) : Int)) (b := ((s.ks.length : Nat) : Int)) (r := false) rfl rfl rfl (decide_eq_false (p := ((((s.ks.length : Nat) : Int)) : Int) ≤ ((((pa : Nat) : Int)) : Int)) (by omega)) ?_)
          obtain ⟨e, hei⟩ : ∃ e, s.ks[(((pa : Nat) : Int) : Int).toNat]? = some e := ⟨_, List.getElem?_eq_getElem (by omega)⟩
          have hlen := hs.k.sv.len
          have hle := hs.ok _ e hei
          refine L_op rfl (X_pick (t := false) (v := (.bool (false))) rfl rfl ?_)
          refine L_nil ?_
          refine T_n ?_
          refine W_cf rfl ?_
          refine W_skip ?_
          refine T_n ?_
          refine W_seq ?_
          refine W_draw 8 [[], [0], [], [0, 1, 2], [0, 1, 2, 3], [0, 1, 2, 3, 4], [], [], [0, 1, 2, 3, 4, 5, 6, 7], [0, 1, 2, 3, 4, 5, 6, 7, 8], [0, 1, 2, 3, 4, 5, 6, 7, 8, 9], [0, 1, 2, 3, 4, 5, 6, 7, 8, 9, 10]] mixed (by kernel_rfl) ?_
          refine ⟨.det (fun val => (ptr b1 (1))), ⟨fun _ _ hv => rfl, fun _ _ _ _ _ => trivial⟩, fun val h_ W hx he => ⟨trivial, ?_⟩, ?_⟩
          · replace hx := (Upd.drew _ _).trans hx
            replace hs := hs.ext hx
            replace hk := hk.ext hx
            replace hB1 := hB1.ext hx
            have hE := Upd.refl (fun _ => False) W
            refine id (X_fldP (b := b1) (o := 0) (r := 1) Fd27_1 rfl rfl ?_)
            exact ⟨hE, rfl⟩
          refine ⟨.det (fun val => s.kv), ⟨fun _ _ hv => rfl, fun _ _ _ _ _ => trivial⟩, fun val h_ W hx he => ⟨trivial, ?_⟩, ?_⟩
          · replace hx := (Upd.drew _ _).trans hx
            replace hs := hs.ext hx
            replace hk := hk.ext hx
            replace hB1 := hB1.ext hx
            have hE := Upd.refl (fun _ => False) W
            refine id (X_load (p := (ptr b1 (1))) (v := s.kv) T22 rfl (hB1.at1 rfl) ?_)
            exact ⟨hE, rfl⟩
          refine ⟨.det (fun val => (.int .i64 (((pa : Nat) : Int)))), ⟨fun _ _ hv => rfl, fun _ _ _ _ _ => trivial⟩, fun val h_ W hx he => ⟨trivial, ?_⟩, ?_⟩
          · replace hx := (Upd.drew _ _).trans hx
            replace hs := hs.ext hx
            replace hk := hk.ext hx
            replace hB1 := hB1.ext hx
            have hE := Upd.refl (fun _ => False) W
            refine id (X_move (v := (.int .i64 (((pa : Nat) : Int)))) rfl ?_)
            exact ⟨hE, rfl⟩
          refine ⟨.det (fun val => (pof s.kv ((((pa : Nat) : Int) : Int).toNat * 1))), ⟨fun _ _ hv => rfl, fun _ _ _ _ _ => trivial⟩, fun val h_ W hx he => ⟨trivial, ?_⟩, ?_⟩
          · replace hx := (Upd.drew _ _).trans hx
            replace hs := hs.ext hx
            replace hk := hk.ext hx
            replace hB1 := hB1.ext hx
            have hE := Upd.refl (fun _ => False) W
            refine id (X_idx (v := s.kv) (n := s.ks.length) (k := .i64) (i := ((pa : Nat) : Int)) S22 rfl hs.k.sv rfl (by omega) (by omega) ?_)
            exact ⟨hE, rfl⟩
          refine ⟨.det (fun val => e.1), ⟨fun _ _ hv => rfl, fun _ _ _ _ _ => trivial⟩, fun val h_ W hx he => ⟨trivial, ?_⟩, ?_⟩
          · replace hx := (Upd.drew _ _).trans hx
            replace hs := hs.ext hx
            replace hk := hk.ext hx
            replace hB1 := hB1.ext hx
            have hE := Upd.refl (fun _ => False) W
            refine id (X_load (v := e.1) T23 rfl (bkey hs.k (rfl) hei) ?_)
            exact ⟨hE, rfl⟩
          refine ⟨.abs (fun _ x_ W_ => Own W_ n0 5 1 x_ e.2.length (e.2.map byteV)), ⟨fun _ _ _ => rfl, fun _ _ _ _ hu h => (Own.ext h hu)⟩, fun val h_ W hx he => ⟨trivial, ?_⟩, ?_⟩
          · replace hx := (Upd.drew _ _).trans hx
            replace hs := hs.ext hx
            replace hk := hk.ext hx
            replace hB1 := hB1.ext hx
            have hE := Upd.refl (fun _ => False) W
            have hxs := hx.size
            have hcr_ := c_copied e.1 e.2 W hle (brd hs.k hei)
            refine X_fn (vs := [e.1]) en16 rfl ?_
            refine CT.mono hcr_ ?_
            rintro v9 w9 ⟨hO9, hu9⟩
            exact ⟨hu9, hO9.1.more (by omega)⟩
          refine ⟨.det (fun val => (.agg ([(.int .u32 (s.tx)), s.kv, s.vv, (.int .u8 (s.mr)), (.int .u8 (s.lv))]).toArray)), ⟨fun _ _ hv => rfl, fun _ _ _ _ _ => trivial⟩, fun val h_ W hx he => ⟨trivial, ?_⟩, ?_⟩
          · replace hx := (Upd.drew _ _).trans hx
            replace hs := hs.ext hx
            replace hk := hk.ext hx
            replace hB1 := hB1.ext hx
            have hE := Upd.refl (fun _ => False) W
            refine id (X_loadA (p := (ptr b1 (0))) (xs := [(.int .u32 (s.tx)), s.kv, s.vv, (.int .u8 (s.mr)), (.int .u8 (s.lv))]) A27 rfl hB1.atAll rfl ?_)
            exact ⟨hE, rfl⟩
          refine ⟨.det (fun val => (.int .i64 (((pa : Nat) : Int)))), ⟨fun _ _ hv => rfl, fun _ _ _ _ _ => trivial⟩, fun val h_ W hx he => ⟨trivial, ?_⟩, ?_⟩
          · replace hx := (Upd.drew _ _).trans hx
            replace hs := hs.ext hx
            replace hk := hk.ext hx
            replace hB1 := hB1.ext hx
            have hE := Upd.refl (fun _ => False) W
            refine id (X_move (v := (.int .i64 (((pa : Nat) : Int)))) rfl ?_)
            exact ⟨hE, rfl⟩
          intro val W5 hx5 he5
          replace hx5 := (Upd.drew _ _).trans hx5
          have hz5 := hx5.size
          replace hs := hs.ext hx5
          replace hk := hk.ext hx5
          replace hU := hU.trans (Ext.upd hx5)
          replace hB1 := hB1.ext hx5
          obtain ⟨hO5, he5⟩ := he5
          have hcr_ := c_value s W5 lo up (by omega) hs ((pa : Nat) : Int)
          refine L_op rfl (X_fn (vs := [(.agg ([(.int .u32 (s.tx)), s.kv, s.vv, (.int .u8 (s.mr)), (.int .u8 (s.lv))]).toArray), (.int .i64 (((pa : Nat) : Int)))]) en13 rfl ?_)
          refine CT.mono hcr_ ?_
          clear hcr_
          rintro y7 w7 ⟨hOy, hu7⟩
          have hz7 := hu7.size
          replace hs := hs.ext hu7
          replace hk := hk.ext hu7
          replace hU := hU.trans (Ext.upd hu7)
          replace hB1 := hB1.ext hu7
          replace hO5 := hO5.ext hu7
          refine L_op rfl (X_assign (v := (val 5)) rfl ?_)
          refine L_op rfl (X_assign (v := y7) rfl ?_)
          refine L_op rfl (X_assign (v := (.bool (true))) rfl ?_)
          refine L_nil ?_
          refine T_n ?_
          refine W_ret ?_
          have hsk : seekD (bl s.ks) m true = ((pa : Nat) : Int) := seek_t hpe
          have hb1 : valD (bl s.ks) ((pa : Nat) : Int) = e.2 := val_at (by omega) (bl_at hei)
          exact BQ_r (End_3 Tryd.results8 (v1 := val 5) (v2 := y7) (v3 := .bool true) rfl rfl rfl ⟨_, _, true, rfl, by rw [hsk, hb1]; exact ⟨hO5.more (by omega), fun b hb => (hO5.lt hb).2⟩, by rw [hsk]; exact hOy.mono (by omega) (Nat.le_refl _), ⟨fun _ => (by rw [hsk]; omega), fun _ => rfl⟩, hU.own hn0⟩)
    · subst hb
      refine L_op rfl (X_move (v := (.bool (true))) rfl ?_)
      refine L_op rfl (X_move (v := (.bool (true))) rfl ?_)
      refine L_gy (dj := 18) rfl rfl rfl (X_move (v := (.bool (false))) rfl ?_)
      refine L_gy (dj := 18) rfl rfl rfl (X_not (b := false) (r := true) rfl rfl ?_)
      refine L_op rfl (X_pick (t := true) (v := (.bool (true))) rfl rfl ?_)
      refine L_nil ?_
      refine T_n ?_
      refine W_ct rfl ?_
      refine W_reg ?_
      refine L_op rfl (X_move (v := (.int .i64 (((pa : Nat) : Int)))) rfl ?_)
      refine L_op rfl (X_arith (k := .i64) (a := ((pa : Nat) : Int)) (b := 1) (r := (((pa : Nat) : Int) - 1)) rfl rfl rfl (isub64 (by omega) (by omega) (by omega)) ?_)
      refine L_op rfl (X_assign (v := (.int .i64 ((((pa : Nat) : Int) - 1)))) rfl ?_)
      refine L_nil ?_
      refine T_n ?_
      refine W_seq ?_
      refine W_seq ?_
      refine W_reg ?_
      refine L_op rfl (X_move (v := (.int .i64 ((((pa : Nat) : Int) - 1)))) rfl ?_)
      by_cases hc8 : ((((pa : Nat) : Int) - 1) : Int) < (0)
      · refine L_op rfl (X_cmp (k := .i64) (a := (((pa : Nat) : Int) - 1)) (b := 0) (r := true) rfl rfl rfl (decide_eq_true (p := (((((pa : Nat) : Int) - 1)) : Int) < ((0) : Int)) (by omega)) ?_)
        refine L_op rfl (X_move (v := (.bool (true))) rfl ?_)
        refine L_gn (dj := 26) (t := true) rfl rfl rfl rfl ?_
        refine L_gn (dj := 26) (t := true) rfl rfl rfl rfl ?_
        refine L_gn (dj := 26) (t := true) rfl rfl rfl rfl ?_
        refine L_gn (dj := 26) (t := true) rfl rfl rfl rfl ?_
        refine L_gn (dj := 26) (t := true) rfl rfl rfl rfl ?_
        refine L_op rfl (X_pick (t := true) (v := (.bool (true))) rfl rfl ?_)
        refine L_nil ?_
        refine T_n ?_
        refine W_ct rfl ?_
        refine W_seq ?_
        refine W_reg ?_
        refine L_op rfl (X_assign (v := (.slice none 0 0)) rfl ?_)
        refine L_op rfl (X_assign (v := (.slice none 0 0)) rfl ?_)
        refine L_op rfl (X_assign (v := (.bool (false))) rfl ?_)
        refine L_nil ?_
        refine T_n ?_
        refine W_ret ?_
        refine T_r ?_
        have hsk : seekD (bl s.ks) m true = (((pa : Nat) : Int) - 1) := seek_y hpe
        have hb1 : valD (bl s.ks) (((pa : Nat) : Int) - 1) = [] := by by_cases h_ : (((pa : Nat) : Int) - 1) < 0; (· exact val_neg h_); (· exact val_big h_ (by rw [bl_len]; omega))
        have hb2 : valD (bl s.vs) (((pa : Nat) : Int) - 1) = [] := by by_cases h_ : (((pa : Nat) : Int) - 1) < 0; (· exact val_neg h_); (· exact val_big h_ (by rw [bl_len]; have := hs.len; omega))
        exact BQ_r (End_3 Tryd.results8 (v1 := .slice none 0 0) (v2 := .slice none 0 0) (v3 := .bool false) rfl rfl rfl ⟨_, _, false, rfl, by rw [hsk, hb1]; exact BOwn.nil _ _ _ _, by rw [hsk, hb2]; exact BOwn.nil _ _ _ _, ⟨fun h => (by cases h), fun h => (by rw [hsk] at h; omega)⟩, hU.own hn0⟩)
      · refine L_op rfl (X_cmp (k := .i64) (a := (((pa : Nat) : Int) - 1)) (b := 0) (r := false) rfl rfl rfl (decide_eq_false (p := (((((pa : Nat) : Int) - 1)) : Int) < ((0) : Int)) (by omega)) ?_)
        refine L_op rfl (X_move (v := (.bool (false))) rfl ?_)
        refine L_gy (dj := 26) rfl rfl rfl (X_move (v := (.int .i64 ((((pa : Nat) : Int) - 1)))) rfl ?_)
        refine L_gy (dj := 26) rfl rfl rfl (X_fldP (b := b1) (o := 0) (r := 1) Fd27_1 rfl rfl ?_)
        refine L_gy (dj := 26) rfl rfl rfl (X_load (p := (ptr b1 (1))) (v := s.kv) T22 rfl (hB1.at1 rfl) ?_)
        refine L_gy (dj := 26) rfl rfl rfl (X_len (v := s.kv) (n := s.ks.length) Tryd.underlying22 rfl hs.k.sv ?_)
        by_cases hc9 : ((((pa : Nat) : Int) - 1) : Int) ≥ (((s.ks.length : Nat) : Int))
        · refine L_gy (dj := 26) rfl rfl rfl (X_cmp (k := .i64) (a := (((pa : Nat) : Int) - 1)) (b := ((s.ks.length : Nat) : Int)) (r := true) rfl rfl rfl (decide_eq_true (p := ((((s.ks.length : Nat) : Int)) : Int) ≤ (((((pa : Nat) : Int) - 1)) : Int)) (by omega)) ?_)
          refine L_op rfl (X_pick (t := false) (v := (.bool (true))) rfl rfl ?_)
          refine L_nil ?_
          refine T_n ?_
          refine W_ct rfl ?_
          refine W_seq ?_
          refine W_reg ?_
          refine L_op rfl (X_assign (v := (.slice none 0 0)) rfl ?_)
          refine L_op rfl (X_assign (v := (.slice none 0 0)) rfl ?_)
          refine L_op rfl (X_assign (v := (.bool (false))) rfl ?_)
          refine L_nil ?_
          refine T_n ?_
          refine W_ret ?_
          refine T_r ?_
          have hsk : seekD (bl s.ks) m true = (((pa : Nat) : Int) - 1) := seek_y hpe
          have hb1 : valD (bl s.ks) (((pa : Nat) : Int) - 1) = [] := by by_cases h_ : (((pa : Nat) : Int) - 1) < 0; (· exact val_neg h_); (· exact val_big h_ (by rw [bl_len]; omega))
          have hb2 : valD (bl s.vs) (((pa : Nat) : Int) - 1) = [] := by by_cases h_ : (((pa : Nat) : Int) - 1) < 0; (· exact val_neg h_); (· exact val_big h_ (by rw [bl_len]; have := hs.len; omega))
          exact BQ_r (End_3 Tryd.results8 (v1 := .slice none 0 0) (v2 := .slice none 0 0) (v3 := .bool false) rfl rfl rfl ⟨_, _, false, rfl, by rw [hsk, hb1]; exact BOwn.nil _ _ _ _, by rw [hsk, hb2]; exact BOwn.nil _ _ _ _, ⟨fun h => (by cases h), fun h => (by rw [hsk] at h; omega)⟩, hU.own hn0⟩)
        · refine L_gy (dj := 26) rfl rfl rfl (X_cmp (k := .i64) (a := (((pa : Nat) : Int) - 1)) (b := ((s.ks.length : Nat) : Int)) (r := false) rfl rfl rfl (decide_eq_false (p := ((((s.ks.length : Nat) : Int)) : Int) ≤ (((((pa : Nat) : Int) - 1)) : Int)) (by omega)) ?_)
          obtain ⟨e, hei⟩ : ∃ e, s.ks[((((pa : Nat) : Int) - 1) : Int).toNat]? = some e := ⟨_, List.getElem?_eq_getElem (by omega)⟩
          have hlen := hs.k.sv.len
          have hle := hs.ok _ e hei
          refine L_op rfl (X_pick (t := false) (v := (.bool (false))) rfl rfl ?_)
          refine L_nil ?_
          refine T_n ?_
          refine W_cf rfl ?_
          refine W_skip ?_
          refine T_n ?_
          refine W_seq ?_
          refine W_draw 8 [[], [0], [], [0, 1, 2], [0, 1, 2, 3], [0, 1, 2, 3, 4], [], [], [0, 1, 2, 3, 4, 5, 6, 7], [0, 1, 2, 3, 4, 5, 6, 7, 8], [0, 1, 2, 3, 4, 5, 6, 7, 8, 9], [0, 1, 2, 3, 4, 5, 6, 7, 8, 9, 10]] mixed (by kernel_rfl) ?_
          refine ⟨.det (fun val => (ptr b1 (1))), ⟨fun _ _ hv => rfl, fun _ _ _ _ _ => trivial⟩, fun val h_ W hx he => ⟨trivial, ?_⟩, ?_⟩
          · replace hx := (Upd.drew _ _).trans hx
            replace hs := hs.ext hx
            replace hk := hk.ext hx
            replace hB1 := hB1.ext hx
            have hE := Upd.refl (fun _ => False) W
            refine id (X_fldP (b := b1) (o := 0) (r := 1) Fd27_1 rfl rfl ?_)
            exact ⟨hE, rfl⟩
          refine ⟨.det (fun val => s.kv), ⟨fun _ _ hv => rfl, fun _ _ _ _ _ => trivial⟩, fun val h_ W hx he => ⟨trivial, ?_⟩, ?_⟩
          · replace hx := (Upd.drew _ _).trans hx
            replace hs := hs.ext hx
            replace hk := hk.ext hx
            replace hB1 := hB1.ext hx
            have hE := Upd.refl (fun _ => False) W
            refine id (X_load (p := (ptr b1 (1))) (v := s.kv) T22 rfl (hB1.at1 rfl) ?_)
            exact ⟨hE, rfl⟩
          refine ⟨.det (fun val => (.int .i64 ((((pa : Nat) : Int) - 1)))), ⟨fun _ _ hv => rfl, fun _ _ _ _ _ => trivial⟩, fun val h_ W hx he => ⟨trivial, ?_⟩, ?_⟩
          · replace hx := (Upd.drew _ _).trans hx
            replace hs := hs.ext hx
            replace hk := hk.ext hx
            replace hB1 := hB1.ext hx
            have hE := Upd.refl (fun _ => False) W
            refine id (X_move (v := (.int .i64 ((((pa : Nat) : Int) - 1)))) rfl ?_)
            exact ⟨hE, rfl⟩
          refine ⟨.det (fun val => (pof s.kv (((((pa : Nat) : Int) - 1) : Int).toNat * 1))), ⟨fun _ _ hv => rfl, fun _ _ _ _ _ => trivial⟩, fun val h_ W hx he => ⟨trivial, ?_⟩, ?_⟩
          · replace hx := (Upd.drew _ _).trans hx
            replace hs := hs.ext hx
            replace hk := hk.ext hx
            replace hB1 := hB1.ext hx
            have hE := Upd.refl (fun _ => False) W
            refine id (X_idx (v := s.kv) (n := s.ks.length) (k := .i64) (i := (((pa : Nat) : Int) - 1)) S22 rfl hs.k.sv rfl (by omega) (by omega) ?_)
            exact ⟨hE, rfl⟩
          refine ⟨.det (fun val => e.1), ⟨fun _ _ hv => rfl, fun _ _ _ _ _ => trivial⟩, fun val h_ W hx he => ⟨trivial, ?_⟩, ?_⟩
          · replace hx := (Upd.drew _ _).trans hx
            replace hs := hs.ext hx
            replace hk := hk.ext hx
            replace hB1 := hB1.ext hx
            have hE := Upd.refl (fun _ => False) W
            refine id (X_load (v := e.1) T23 rfl (bkey hs.k (rfl) hei) ?_)
            exact ⟨hE, rfl⟩
          refine ⟨.abs (fun _ x_ W_ => Own W_ n0 5 1 x_ e.2.length (e.2.map byteV)), ⟨fun _ _ _ => rfl, fun _ _ _ _ hu h => (Own.ext h hu)⟩, fun val h_ W hx he => ⟨trivial, ?_⟩, ?_⟩
          · replace hx := (Upd.drew _ _).trans hx
            replace hs := hs.ext hx
            replace hk := hk.ext hx
            replace hB1 := hB1.ext hx
            have hE := Upd.refl (fun _ => False) W
            have hxs := hx.size
            have hcr_ := c_copied e.1 e.2 W hle (brd hs.k hei)
            refine X_fn (vs := [e.1]) en16 rfl ?_
            refine CT.mono hcr_ ?_
            rintro v9 w9 ⟨hO9, hu9⟩
            exact ⟨hu9, hO9.1.more (by omega)⟩
          refine ⟨.det (fun val => (.agg ([(.int .u32 (s.tx)), s.kv, s.vv, (.int .u8 (s.mr)), (.int .u8 (s.lv))]).toArray)), ⟨fun _ _ hv => rfl, fun _ _ _ _ _ => trivial⟩, fun val h_ W hx he => ⟨trivial, ?_⟩, ?_⟩
          · replace hx := (Upd.drew _ _).trans hx
            replace hs := hs.ext hx
            replace hk := hk.ext hx
            replace hB1 := hB1.ext hx
            have hE := Upd.refl (fun _ => False) W
            refine id (X_loadA (p := (ptr b1 (0))) (xs := [(.int .u32 (s.tx)), s.kv, s.vv, (.int .u8 (s.mr)), (.int .u8 (s.lv))]) A27 rfl hB1.atAll rfl ?_)
            exact ⟨hE, rfl⟩
          refine ⟨.det (fun val => (.int .i64 ((((pa : Nat) : Int) - 1)))), ⟨fun _ _ hv => rfl, fun _ _ _ _ _ => trivial⟩, fun val h_ W hx he => ⟨trivial, ?_⟩, ?_⟩
          · replace hx := (Upd.drew _ _).trans hx
            replace hs := hs.ext hx
            replace hk := hk.ext hx
            replace hB1 := hB1.ext hx
            have hE := Upd.refl (fun _ => False) W
            refine id (X_move (v := (.int .i64 ((((pa : Nat) : Int) - 1)))) rfl ?_)
            exact ⟨hE, rfl⟩
          intro val W10 hx10 he10
          replace hx10 := (Upd.drew _ _).trans hx10
          have hz10 := hx10.size
          replace hs := hs.ext hx10
          replace hk := hk.ext hx10
          replace hU := hU.trans (Ext.upd hx10)
          replace hB1 := hB1.ext hx10
          obtain ⟨hO5, he10⟩ := he10
          have hcr_ := c_value s W10 lo up (by omega) hs (((pa : Nat) : Int) - 1)
          refine L_op rfl (X_fn (vs := [(.agg ([(.int .u32 (s.tx)), s.kv, s.vv, (.int .u8 (s.mr)), (.int .u8 (s.lv))]).toArray), (.int .i64 ((((pa : Nat) : Int) - 1)))]) en13 rfl ?_)
          refine CT.mono hcr_ ?_
          clear hcr_
          rintro y12 w12 ⟨hOy, hu12⟩
          have hz12 := hu12.size
          replace hs := hs.ext hu12
          replace hk := hk.ext hu12
          replace hU := hU.trans (Ext.upd hu12)
          replace hB1 := hB1.ext hu12
          replace hO5 := hO5.ext hu12
          refine L_op rfl (X_assign (v := (val 5)) rfl ?_)
          refine L_op rfl (X_assign (v := y12) rfl ?_)
          refine L_op rfl (X_assign (v := (.bool (true))) rfl ?_)
          refine L_nil ?_
          refine T_n ?_
          refine W_ret ?_
          have hsk : seekD (bl s.ks) m true = (((pa : Nat) : Int) - 1) := seek_y hpe
          have hb1 : valD (bl s.ks) (((pa : Nat) : Int) - 1) = e.2 := val_at (by omega) (bl_at hei)
          exact BQ_r (End_3 Tryd.results8 (v1 := val 5) (v2 := y12) (v3 := .bool true) rfl rfl rfl ⟨_, _, true, rfl, by rw [hsk, hb1]; exact ⟨hO5.more (by omega), fun b hb => (hO5.lt hb).2⟩, by rw [hsk]; exact hOy.mono (by omega) (Nat.le_refl _), ⟨fun _ => (by rw [hsk]; omega), fun _ => rfl⟩, hU.own hn0⟩)
  · refine L_op rfl (X_move (v := (.bool (false))) rfl ?_)
    refine L_op rfl (X_move (v := (.bool (false))) rfl ?_)
    refine L_gn (dj := 18) (t := false) rfl rfl rfl rfl ?_
    refine L_gn (dj := 18) (t := false) rfl rfl rfl rfl ?_
    refine L_op rfl (X_pick (t := false) (v := (.bool (false))) rfl rfl ?_)
    refine L_nil ?_
    refine T_n ?_
    refine W_cf rfl ?_
    refine W_skip ?_
    refine T_n ?_
    refine W_seq ?_
    refine W_seq ?_
    refine W_reg ?_
    refine L_op rfl (X_move (v := (.int .i64 (((pa : Nat) : Int)))) rfl ?_)
    by_cases hc13 : (((pa : Nat) : Int) : Int) < (0)
    · refine L_op rfl (X_cmp (k := .i64) (a := ((pa : Nat) : Int)) (b := 0) (r := true) rfl rfl rfl (decide_eq_true (p := ((((pa : Nat) : Int)) : Int) < ((0) : Int)) (by omega)) ?_)
      refine L_op rfl (X_move (v := (.bool (true))) rfl ?_)
      refine L_gn (dj := 26) (t := true) rfl rfl rfl rfl ?_
      refine L_gn (dj := 26) (t := true) rfl rfl rfl rfl ?_
      refine L_gn (dj := 26) (t := true) rfl rfl rfl rfl ?_
      refine L_gn (dj := 26) (t := true) rfl rfl rfl rfl ?_
      refine L_gn (dj := 26) (t := true) rfl rfl rfl rfl ?_
      refine L_op rfl (X_pick (t := true) (v := (.bool (true))) rfl rfl ?_)
      refine L_nil ?_
      refine T_n ?_
      refine W_ct rfl ?_
      refine W_seq ?_
      refine W_reg ?_
      refine L_op rfl (X_assign (v := (.slice none 0 0)) rfl ?_)
      refine L_op rfl (X_assign (v := (.slice none 0 0)) rfl ?_)
      refine L_op rfl (X_assign (v := (.bool (false))) rfl ?_)
      refine L_nil ?_
      refine T_n ?_
      refine W_ret ?_
      refine T_r ?_
      have hsk : seekD (bl s.ks) m false = ((pa : Nat) : Int) := seek_n hpe
      have hb1 : valD (bl s.ks) ((pa : Nat) : Int) = [] := by by_cases h_ : ((pa : Nat) : Int) < 0; (· exact val_neg h_); (· exact val_big h_ (by rw [bl_len]; omega))
      have hb2 : valD (bl s.vs) ((pa : Nat) : Int) = [] := by by_cases h_ : ((pa : Nat) : Int) < 0; (· exact val_neg h_); (· exact val_big h_ (by rw [bl_len]; have := hs.len; omega))
      exact BQ_r (End_3 Tryd.results8 (v1 := .slice none 0 0) (v2 := .slice none 0 0) (v3 := .bool false) rfl rfl rfl ⟨_, _, false, rfl, by rw [hsk, hb1]; exact BOwn.nil _ _ _ _, by rw [hsk, hb2]; exact BOwn.nil _ _ _ _, ⟨fun h => (by cases h), fun h => (by rw [hsk] at h; omega)⟩, hU.own hn0⟩)
    · refine L_op rfl (X_cmp (k := .i64) (a := ((pa : Nat) : Int)) (b := 0) (r := false) rfl rfl rfl (decide_eq_false (p := ((((pa : Nat) : Int)) : Int) < ((0) : Int)) (by omega)) ?_)
      refine L_op rfl (X_move (v := (.bool (false))) rfl ?_)
      refine L_gy (dj := 26) rfl rfl rfl (X_move (v := (.int .i64 (((pa : Nat) : Int)))) rfl ?_)
      refine L_gy (dj := 26) rfl rfl rfl (X_fldP (b := b1) (o := 0) (r := 1) Fd27_1 rfl rfl ?_)
      refine L_gy (dj := 26) rfl rfl rfl (X_load (p := (ptr b1 (1))) (v := s.kv) T22 rfl (hB1.at1 rfl) ?_)
      refine L_gy (dj := 26) rfl rfl rfl (X_len (v := s.kv) (n := s.ks.length) Tryd.underlying22 rfl hs.k.sv ?_)
      by_cases hc14 : (((pa : Nat) : Int) : Int) ≥ (((s.ks.length : Nat) : Int))
      · refine L_gy (dj := 26) rfl rfl rfl (X_cmp (k := .i64) (a := ((pa : Nat) : Int)) (b := ((s.ks.length : Nat) : Int)) (r := true) rfl rfl rfl (decide_eq_true (p := ((((s.ks.length : Nat) : Int)) : Int) ≤ ((((pa : Nat) : Int)) : Int)) (by omega)) ?_)
        refine L_op rfl (X_pick (t := false) (v := (.bool (true))) rfl rfl ?_)
        refine L_nil ?_
        refine T_n ?_
        refine W_ct rfl ?_
        refine W_seq ?_
        refine W_reg ?_
        refine L_op rfl (X_assign (v := (.slice none 0 0)) rfl ?_)
        refine L_op rfl (X_assign (v := (.slice none 0 0)) rfl ?_)
        refine L_op rfl (X_assign (v := (.bool (false))) rfl ?_)
        refine L_nil ?_
        refine T_n ?_
        refine W_ret ?_
        refine T_r ?_
        have hsk : seekD (bl s.ks) m false = ((pa : Nat) : Int) := seek_n hpe
        have hb1 : valD (bl s.ks) ((pa : Nat) : Int) = [] := by by_cases h_ : ((pa : Nat) : Int) < 0; (· exact val_neg h_); (· exact val_big h_ (by rw [bl_len]; omega))
        have hb2 : valD (bl s.vs) ((pa : Nat) : Int) = [] := by by_cases h_ : ((pa : Nat) : Int) < 0; (· exact val_neg h_); (· exact val_big h_ (by rw [bl_len]; have := hs.len; omega))
        exact BQ_r (End_3 Tryd.results8 (v1 := .slice none 0 0) (v2 := .slice none 0 0) (v3 := .bool false) rfl rfl rfl ⟨_, _, false, rfl, by rw [hsk, hb1]; exact BOwn.nil _ _ _ _, by rw [hsk, hb2]; exact BOwn.nil _ _ _ _, ⟨fun h => (by cases h), fun h => (by rw [hsk] at h; omega)⟩, hU.own hn0⟩)
      · refine L_gy (dj := 26) rfl rfl rfl (X_cmp (k := .i64) (a := ((pa : Nat) : Int)) (b := ((s.ks.length : Nat) : Int)) (r := false) rfl rfl rfl (decide_eq_false (p := ((((s.ks.length : Nat) : Int)) : Int) ≤ ((((pa : Nat) : Int)) : Int)) (by omega)) ?_)
        obtain ⟨e, hei⟩ : ∃ e, s.ks[(((pa : Nat) : Int) : Int).toNat]? = some e := ⟨_, List.getElem?_eq_getElem (by omega)⟩
        have hlen := hs.k.sv.len
        have hle := hs.ok _ e hei
        refine L_op rfl (X_pick (t := false) (v := (.bool (false))) rfl rfl ?_)
        refine L_nil ?_
        refine T_n ?_
        refine W_cf rfl ?_
        refine W_skip ?_
        refine T_n ?_
        refine W_seq ?_
        refine W_draw 8 [[], [0], [], [0, 1, 2], [0, 1, 2, 3], [0, 1, 2, 3, 4], [], [], [0, 1, 2, 3, 4, 5, 6, 7], [0, 1, 2, 3, 4, 5, 6, 7, 8], [0, 1, 2, 3, 4, 5, 6, 7, 8, 9], [0, 1, 2, 3, 4, 5, 6, 7, 8, 9, 10]] mixed (by kernel_rfl) ?_
        refine ⟨.det (fun val => (ptr b1 (1))), ⟨fun _ _ hv => rfl, fun _ _ _ _ _ => trivial⟩, fun val h_ W hx he => ⟨trivial, ?_⟩, ?_⟩
        · replace hx := (Upd.drew _ _).trans hx
          replace hs := hs.ext hx
          replace hk := hk.ext hx
          replace hB1 := hB1.ext hx
          have hE := Upd.refl (fun _ => False) W
          refine id (X_fldP (b := b1) (o := 0) (r := 1) Fd27_1 rfl rfl ?_)
          exact ⟨hE, rfl⟩
        refine ⟨.det (fun val => s.kv), ⟨fun _ _ hv => rfl, fun _ _ _ _ _ => trivial⟩, fun val h_ W hx he => ⟨trivial, ?_⟩, ?_⟩
        · replace hx := (Upd.drew _ _).trans hx
          replace hs := hs.ext hx
          replace hk := hk.ext hx
          replace hB1 := hB1.ext hx
          have hE := Upd.refl (fun _ => False) W
          refine id (X_load (p := (ptr b1 (1))) (v := s.kv) T22 rfl (hB1.at1 rfl) ?_)
          exact ⟨hE, rfl⟩
        refine ⟨.det (fun val => (.int .i64 (((pa : Nat) : Int)))), ⟨fun _ _ hv => rfl, fun _ _ _ _ _ => trivial⟩, fun val h_ W hx he => ⟨trivial, ?_⟩, ?_⟩
        · replace hx := (Upd.drew _ _).trans hx
          replace hs := hs.ext hx
          replace hk := hk.ext hx
          replace hB1 := hB1.ext hx
          have hE := Upd.refl (fun _ => False) W
          refine id (X_move (v := (.int .i64 (((pa : Nat) : Int)))) rfl ?_)
          exact ⟨hE, rfl⟩
        refine ⟨.det (fun val => (pof s.kv ((((pa : Nat) : Int) : Int).toNat * 1))), ⟨fun _ _ hv => rfl, fun _ _ _ _ _ => trivial⟩, fun val h_ W hx he => ⟨trivial, ?_⟩, ?_⟩
        · replace hx := (Upd.drew _ _).trans hx
          replace hs := hs.ext hx
          replace hk := hk.ext hx
          replace hB1 := hB1.ext hx
          have hE := Upd.refl (fun _ => False) W
          refine id (X_idx (v := s.kv) (n := s.ks.length) (k := .i64) (i := ((pa : Nat) : Int)) S22 rfl hs.k.sv rfl (by omega) (by omega) ?_)
          exact ⟨hE, rfl⟩
        refine ⟨.det (fun val => e.1), ⟨fun _ _ hv => rfl, fun _ _ _ _ _ => trivial⟩, fun val h_ W hx he => ⟨trivial, ?_⟩, ?_⟩
        · replace hx := (Upd.drew _ _).trans hx
          replace hs := hs.ext hx
          replace hk := hk.ext hx
          replace hB1 := hB1.ext hx
          have hE := Upd.refl (fun _ => False) W
          refine id (X_load (v := e.1) T23 rfl (bkey hs.k (rfl) hei) ?_)
          exact ⟨hE, rfl⟩
        refine ⟨.abs (fun _ x_ W_ => Own W_ n0 5 1 x_ e.2.length (e.2.map byteV)), ⟨fun _ _ _ => rfl, fun _ _ _ _ hu h => (Own.ext h hu)⟩, fun val h_ W hx he => ⟨trivial, ?_⟩, ?_⟩
        · replace hx := (Upd.drew _ _).trans hx
          replace hs := hs.ext hx
          replace hk := hk.ext hx
          replace hB1 := hB1.ext hx
          have hE := Upd.refl (fun _ => False) W
          have hxs := hx.size
          have hcr_ := c_copied e.1 e.2 W hle (brd hs.k hei)
          refine X_fn (vs := [e.1]) en16 rfl ?_
          refine CT.mono hcr_ ?_
          rintro v9 w9 ⟨hO9, hu9⟩
          exact ⟨hu9, hO9.1.more (by omega)⟩
        refine ⟨.det (fun val => (.agg ([(.int .u32 (s.tx)), s.kv, s.vv, (.int .u8 (s.mr)), (.int .u8 (s.lv))]).toArray)), ⟨fun _ _ hv => rfl, fun _ _ _ _ _ => trivial⟩, fun val h_ W hx he => ⟨trivial, ?_⟩, ?_⟩
        · replace hx := (Upd.drew _ _).trans hx
          replace hs := hs.ext hx
          replace hk := hk.ext hx
          replace hB1 := hB1.ext hx
          have hE := Upd.refl (fun _ => False) W
          refine id (X_loadA (p := (ptr b1 (0))) (xs := [(.int .u32 (s.tx)), s.kv, s.vv, (.int .u8 (s.mr)), (.int .u8 (s.lv))]) A27 rfl hB1.atAll rfl ?_)
          exact ⟨hE, rfl⟩
        refine ⟨.det (fun val => (.int .i64 (((pa : Nat) : Int)))), ⟨fun _ _ hv => rfl, fun _ _ _ _ _ => trivial⟩, fun val h_ W hx he => ⟨trivial, ?_⟩, ?_⟩
        · replace hx := (Upd.drew _ _).trans hx
          replace hs := hs.ext hx
          replace hk := hk.ext hx
          replace hB1 := hB1.ext hx
          have hE := Upd.refl (fun _ => False) W
          refine id (X_move (v := (.int .i64 (((pa : Nat) : Int)))) rfl ?_)
          exact ⟨hE, rfl⟩
        intro val W15 hx15 he15
        replace hx15 := (Upd.drew _ _).trans hx15
        have hz15 := hx15.size
        replace hs := hs.ext hx15
        replace hk := hk.ext hx15
        replace hU := hU.trans (Ext.upd hx15)
        replace hB1 := hB1.ext hx15
        obtain ⟨hO5, he15⟩ := he15
        have hcr_ := c_value s W15 lo up (by omega) hs ((pa : Nat) : Int)
        refine L_op rfl (X_fn (vs := [(.agg ([(.int .u32 (s.tx)), s.kv, s.vv, (.int .u8 (s.mr)), (.int .u8 (s.lv))]).toArray), (.int .i64 (((pa : Nat) : Int)))]) en13 rfl ?_)
        refine CT.mono hcr_ ?_
        clear hcr_
        rintro y17 w17 ⟨hOy, hu17⟩
        have hz17 := hu17.size
        replace hs := hs.ext hu17
        replace hk := hk.ext hu17
        replace hU := hU.trans (Ext.upd hu17)
        replace hB1 := hB1.ext hu17
        replace hO5 := hO5.ext hu17
        refine L_op rfl (X_assign (v := (val 5)) rfl ?_)
        refine L_op rfl (X_assign (v := y17) rfl ?_)
        refine L_op rfl (X_assign (v := (.bool (true))) rfl ?_)
        refine L_nil ?_
        refine T_n ?_
        refine W_ret ?_
        have hsk : seekD (bl s.ks) m false = ((pa : Nat) : Int) := seek_n hpe
        have hb1 : valD (bl s.ks) ((pa : Nat) : Int) = e.2 := val_at (by omega) (bl_at hei)
        exact BQ_r (End_3 Tryd.results8 (v1 := val 5) (v2 := y17) (v3 := .bool true) rfl rfl rfl ⟨_, _, true, rfl, by rw [hsk, hb1]; exact ⟨hO5.more (by omega), fun b hb => (hO5.lt hb).2⟩, by rw [hsk]; exact hOy.mono (by omega) (Nat.le_refl _), ⟨fun _ => (by rw [hsk]; omega), fun _ => rfl⟩, hU.own hn0⟩)
end Go.Proofs.YthncpmablodbjaaDoor
