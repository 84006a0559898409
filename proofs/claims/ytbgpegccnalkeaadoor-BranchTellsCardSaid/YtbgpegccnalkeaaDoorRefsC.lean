/-
 The references of chapter 07: Right, Birth; branch.Same. (Printed by wip/gen/t07s.py of this repo.)
-/
import Derived.Test.YtbgpegccnalkeaaDoorRefsB
namespace Go.Proofs.YtbgpegccnalkeaaDoor
open Go Go.SL Go.Proofs
set_option linter.unusedVariables false

theorem c_sameB (l m : Value) (es fs : List KE) (w : World) (lo hi lo2 hi2 : Nat) (hl : NRd LK w lo hi l es) (hm : NRd LK w lo2 hi2 m fs) : CT Tryd.prog 20 #[l, m] w fun v w' => (∃ g, v = .bool g ∧ (g = true ↔ es.map (·.2) = fs.map (·.2))) ∧ Ext w w' := by
 have hmx := hl.sv.len
 have hE := Upd.refl (fun _ => False) w
 refine CT_of Tryd.func20 rfl rfl rfl ?_
 refine W_seq ?_
 refine W_reg ?_
 refine L_op rfl (X_assign (v := (.bool (false))) rfl ?_)
 refine L_nil ?_
 refine T_n ?_
 refine W_seq ?_
 refine W_reg ?_
 refine L_op rfl (X_move (v := l) rfl ?_)
 refine L_op rfl (X_len (v := l) (n := es.length) Tryd.underlying22 rfl hl.sv ?_)
 refine L_op rfl (X_move (v := m) rfl ?_)
 refine L_op rfl (X_len (v := m) (n := fs.length) Tryd.underlying22 rfl hm.sv ?_)
 by_cases hc1 : (((es.length : Nat) : Int) : Int) = (((fs.length : Nat) : Int))
 ·refine L_op rfl (X_cmp (k := .i64) (a := ((es.length : Nat) : Int)) (b := ((fs.length : Nat) : Int)) (r := true) rfl rfl rfl (decide_eq_true (p := ((((es.length : Nat) : Int)) : Int) = ((((fs.length : Nat) : Int)) : Int)) (by omega)) ?_)
  refine L_op rfl (X_assign (v := (.bool (true))) rfl ?_)
  refine L_nil ?_
  refine T_n ?_
  refine W_seq ?_
  refine W_seq ?_
  refine W_reg ?_
  refine L_op rfl (X_assign (v := (.int .i64 (0))) rfl ?_)
  refine L_nil ?_
  refine T_n ?_
  refine W_block ?_
  refine W_loop (α := Nat × Bool) [4, 5, 11, 12, 13, 14, 15, 16, 17, 18, 19, 20, 21, 22, 23, 24, 25, 26, 27, 28, 29, 30, 31, 32, 33, 34, 35, 36, 37, 38, 39, 40, 41, 42, 43, 44, 45] (fun ⟨i, g⟩ => [(5, .int .i64 ((i : Nat) : Int)), (4, .bool g)]) (fun ⟨i, g⟩ w_ => i ≤ es.length ∧ (g = true → es.length = fs.length ∧ (es.take i).map (·.2) = (fs.take i).map (·.2)) ∧ (g = false → ¬ es.map (·.2) = fs.map (·.2)) ∧ NRd LK w_ lo hi l es ∧ NRd LK w_ lo2 hi2 m fs ∧ Ext w w_) (fun ⟨i, g⟩ => (if g = true then 1 else 0) + (es.length - i)) ⟨rfl, (0, true), ⟨Nat.zero_le _, fun _ => ⟨by omega, rfl⟩, fun h => (by cases h), hl, hm, hE⟩, Out.refl _ _, ⟨rfl, rfl, trivial⟩⟩ ?_
  rintro ⟨i, g⟩ w2 _ ⟨hil, hgt, hgf, hl, hm, hE⟩
  rcases Bool.eq_false_or_eq_true g with rfl | rfl
  ·obtain ⟨hlen, hz⟩ := hgt rfl
   refine W_seq ?_
   refine W_seq ?_
   refine W_reg ?_
   refine L_op rfl (X_move (v := (.bool (true))) rfl ?_)
   refine L_op rfl (X_move (v := (.bool (true))) rfl ?_)
   refine L_gy (dj := 12) rfl rfl rfl (X_move (v := (.int .i64 (((i : Nat) : Int)))) rfl ?_)
   refine L_gy (dj := 12) rfl rfl rfl (X_move (v := l) rfl ?_)
   refine L_gy (dj := 12) rfl rfl rfl (X_len (v := l) (n := es.length) Tryd.underlying22 rfl hl.sv ?_)
   by_cases hc3 : (((i : Nat) : Int) : Int) < (((es.length : Nat) : Int))
   ·refine L_gy (dj := 12) rfl rfl rfl (X_cmp (k := .i64) (a := ((i : Nat) : Int)) (b := ((es.length : Nat) : Int)) (r := true) rfl rfl rfl (decide_eq_true (p := ((((i : Nat) : Int)) : Int) < ((((es.length : Nat) : Int)) : Int)) (by omega)) ?_)
    have hi : i < es.length := by omega
    obtain ⟨a, hai⟩ : ∃ a, es[i]? = some a := ⟨_, List.getElem?_eq_getElem hi⟩
    obtain ⟨b, hbi⟩ : ∃ b, fs[i]? = some b := ⟨_, List.getElem?_eq_getElem (by omega)⟩
    refine L_op rfl (X_pick (t := true) (v := (.bool (true))) rfl rfl ?_)
    refine L_nil ?_
    refine T_n ?_
    refine W_ct rfl ?_
    refine W_skip ?_
    refine T_n ?_
    refine W_seq ?_
    refine W_block ?_
    rcases Bool.eq_false_or_eq_true (scmp .eql (a.2.1) (b.2.1)) with hs4 | hs4
    ·rcases Bool.eq_false_or_eq_true (a.2.2 == b.2.2) with hs5 | hs5
     ·refine W_draw 24 [[], [], [0, 1], [0, 1, 2], [0, 1, 2, 3], [0, 1, 2, 3, 4], [], [], [6, 7], [6, 7, 8], [6, 7, 8, 9], [6, 7, 8, 9, 10], [0, 1, 2, 3, 4, 5, 6, 7, 8, 9, 10, 11], [0, 1, 2, 3, 4, 5, 6, 7, 8, 9, 10, 11, 12], [0, 1, 2, 3, 4, 5, 6, 7, 8, 9, 10, 11, 12, 13], [0, 1, 2, 3, 4, 5, 6, 7, 8, 9, 10, 11, 12, 13], [0, 1, 2, 3, 4, 5, 6, 7, 8, 9, 10, 11, 12, 13, 14, 15], [0, 1, 2, 3, 4, 5, 6, 7, 8, 9, 10, 11, 12, 13, 14, 15, 16], [0, 1, 2, 3, 4, 5, 6, 7, 8, 9, 10, 11, 12, 13, 14, 15, 16, 17], [0, 1, 2, 3, 4, 5, 6, 7, 8, 9, 10, 11, 12, 13], [0, 1, 2, 3, 4, 5, 6, 7, 8, 9, 10, 11, 12, 13], [0, 1, 2, 3, 4, 5, 6, 7, 8, 9, 10, 11, 12, 13, 19, 20], [0, 1, 2, 3, 4, 5, 6, 7, 8, 9, 10, 11, 12, 13, 19, 20, 21], [0, 1, 2, 3, 4, 5, 6, 7, 8, 9, 10, 11, 12, 13, 19, 20, 21, 22], [0, 1, 2, 3, 4, 5, 6, 7, 8, 9, 10, 11, 12, 13, 14, 15, 16, 17, 18, 19, 20, 21, 22, 23], [0, 1, 2, 3, 4, 5, 6, 7, 8, 9, 10, 11, 12, 13, 14, 15, 16, 17, 18, 19, 20, 21, 22, 23, 24], [0, 1, 2, 3, 4, 5, 6, 7, 8, 9, 10, 11, 12, 13, 14, 15, 16, 17, 18, 19, 20, 21, 22, 23, 24, 25]] mixed (by kernel_rfl) ?_
      refine ⟨.det (fun val => l), ⟨fun _ _ hv => rfl, fun _ _ _ _ _ => trivial⟩, fun val h_ W hx he => ⟨trivial, ?_⟩, ?_⟩
      ·replace hx := (Upd.drew _ _).trans hx
       replace hl := hl.ext hx
       replace hm := hm.ext hx
       have hE := Upd.refl (fun _ => False) W
       refine id (X_move (v := l) rfl ?_)
       exact ⟨hE, rfl⟩
      refine ⟨.det (fun val => (.int .i64 (((i : Nat) : Int)))), ⟨fun _ _ hv => rfl, fun _ _ _ _ _ => trivial⟩, fun val h_ W hx he => ⟨trivial, ?_⟩, ?_⟩
      ·replace hx := (Upd.drew _ _).trans hx
       replace hl := hl.ext hx
       replace hm := hm.ext hx
       have hE := Upd.refl (fun _ => False) W
       refine id (X_move (v := (.int .i64 (((i : Nat) : Int)))) rfl ?_)
       exact ⟨hE, rfl⟩
      refine ⟨.det (fun val => (pof l ((((i : Nat) : Int) : Int).toNat * 6))), ⟨fun _ _ hv => rfl, fun _ _ _ _ _ => trivial⟩, fun val h_ W hx he => ⟨trivial, ?_⟩, ?_⟩
      ·replace hx := (Upd.drew _ _).trans hx
       replace hl := hl.ext hx
       replace hm := hm.ext hx
       have hE := Upd.refl (fun _ => False) W
       refine id (X_idx (v := l) (n := es.length) (k := .i64) (i := ((i : Nat) : Int)) S22 rfl hl.sv rfl (by omega) (by omega) ?_)
       exact ⟨hE, rfl⟩
      refine ⟨.det (fun val => (pof l ((((i : Nat) : Int) : Int).toNat * 6 + 0))), ⟨fun _ _ hv => rfl, fun _ _ _ _ _ => trivial⟩, fun val h_ W hx he => ⟨trivial, ?_⟩, ?_⟩
      ·replace hx := (Upd.drew _ _).trans hx
       replace hl := hl.ext hx
       replace hm := hm.ext hx
       have hE := Upd.refl (fun _ => False) W
       refine id (X_fldS (v := l) (o := (((i : Nat) : Int) : Int).toNat * 6) Fd44_0 rfl hl.sv (by omega) ?_)
       exact ⟨hE, rfl⟩
      refine ⟨.det (fun val => a.1), ⟨fun _ _ hv => rfl, fun _ _ _ _ _ => trivial⟩, fun val h_ W hx he => ⟨trivial, ?_⟩, ?_⟩
      ·replace hx := (Upd.drew _ _).trans hx
       replace hl := hl.ext hx
       replace hm := hm.ext hx
       have hE := Upd.refl (fun _ => False) W
       refine id (X_load (v := a.1) T42 rfl (kkey hl (Int.toNat_natCast _) hai) ?_)
       exact ⟨hE, rfl⟩
      refine ⟨.det (fun val => (strV (a.2.1))), ⟨fun _ _ hv => rfl, fun _ _ _ _ _ => trivial⟩, fun val h_ W hx he => ⟨trivial, ?_⟩, ?_⟩
      ·replace hx := (Upd.drew _ _).trans hx
       replace hl := hl.ext hx
       replace hm := hm.ext hx
       have hE := Upd.refl (fun _ => False) W
       refine id (X_str (v := a.1) (l := a.2.1) Tryd.underlying42 Tryd.underlying5 Tryd.underlying9 rfl (krd hl hai) ?_)
       exact ⟨hE, rfl⟩
      refine ⟨.det (fun val => m), ⟨fun _ _ hv => rfl, fun _ _ _ _ _ => trivial⟩, fun val h_ W hx he => ⟨trivial, ?_⟩, ?_⟩
      ·replace hx := (Upd.drew _ _).trans hx
       replace hl := hl.ext hx
       replace hm := hm.ext hx
       have hE := Upd.refl (fun _ => False) W
       refine id (X_move (v := m) rfl ?_)
       exact ⟨hE, rfl⟩
      refine ⟨.det (fun val => (.int .i64 (((i : Nat) : Int)))), ⟨fun _ _ hv => rfl, fun _ _ _ _ _ => trivial⟩, fun val h_ W hx he => ⟨trivial, ?_⟩, ?_⟩
      ·replace hx := (Upd.drew _ _).trans hx
       replace hl := hl.ext hx
       replace hm := hm.ext hx
       have hE := Upd.refl (fun _ => False) W
       refine id (X_move (v := (.int .i64 (((i : Nat) : Int)))) rfl ?_)
       exact ⟨hE, rfl⟩
      refine ⟨.det (fun val => (pof m ((((i : Nat) : Int) : Int).toNat * 6))), ⟨fun _ _ hv => rfl, fun _ _ _ _ _ => trivial⟩, fun val h_ W hx he => ⟨trivial, ?_⟩, ?_⟩
      ·replace hx := (Upd.drew _ _).trans hx
       replace hl := hl.ext hx
       replace hm := hm.ext hx
       have hE := Upd.refl (fun _ => False) W
       refine id (X_idx (v := m) (n := fs.length) (k := .i64) (i := ((i : Nat) : Int)) S22 rfl hm.sv rfl (by omega) (by omega) ?_)
       exact ⟨hE, rfl⟩
      refine ⟨.det (fun val => (pof m ((((i : Nat) : Int) : Int).toNat * 6 + 0))), ⟨fun _ _ hv => rfl, fun _ _ _ _ _ => trivial⟩, fun val h_ W hx he => ⟨trivial, ?_⟩, ?_⟩
      ·replace hx := (Upd.drew _ _).trans hx
       replace hl := hl.ext hx
       replace hm := hm.ext hx
       have hE := Upd.refl (fun _ => False) W
       refine id (X_fldS (v := m) (o := (((i : Nat) : Int) : Int).toNat * 6) Fd44_0 rfl hm.sv (by omega) ?_)
       exact ⟨hE, rfl⟩
      refine ⟨.det (fun val => b.1), ⟨fun _ _ hv => rfl, fun _ _ _ _ _ => trivial⟩, fun val h_ W hx he => ⟨trivial, ?_⟩, ?_⟩
      ·replace hx := (Upd.drew _ _).trans hx
       replace hl := hl.ext hx
       replace hm := hm.ext hx
       have hE := Upd.refl (fun _ => False) W
       refine id (X_load (v := b.1) T42 rfl (kkey hm (Int.toNat_natCast _) hbi) ?_)
       exact ⟨hE, rfl⟩
      refine ⟨.det (fun val => (strV (b.2.1))), ⟨fun _ _ hv => rfl, fun _ _ _ _ _ => trivial⟩, fun val h_ W hx he => ⟨trivial, ?_⟩, ?_⟩
      ·replace hx := (Upd.drew _ _).trans hx
       replace hl := hl.ext hx
       replace hm := hm.ext hx
       have hE := Upd.refl (fun _ => False) W
       refine id (X_str (v := b.1) (l := b.2.1) Tryd.underlying42 Tryd.underlying5 Tryd.underlying9 rfl (krd hm hbi) ?_)
       exact ⟨hE, rfl⟩
      refine ⟨.det (fun val => (.bool (true))), ⟨fun _ _ hv => rfl, fun _ _ _ _ _ => trivial⟩, fun val h_ W hx he => ⟨trivial, ?_⟩, ?_⟩
      ·replace hx := (Upd.drew _ _).trans hx
       replace hl := hl.ext hx
       replace hm := hm.ext hx
       have hE := Upd.refl (fun _ => False) W
       refine id (X_scmp (a := a.2.1) (b := b.2.1) (r := true) rfl rfl rfl hs4 ?_)
       exact ⟨hE, rfl⟩
      refine ⟨.det (fun val => (.bool (true))), ⟨fun _ _ hv => rfl, fun _ _ _ _ _ => trivial⟩, fun val h_ W hx he => ⟨trivial, ?_⟩, ?_⟩
      ·replace hx := (Upd.drew _ _).trans hx
       replace hl := hl.ext hx
       replace hm := hm.ext hx
       have hE := Upd.refl (fun _ => False) W
       refine id (X_move (v := (.bool (true))) rfl ?_)
       exact ⟨hE, rfl⟩
      refine ⟨.det (fun val => l), ⟨fun _ _ hv => rfl, fun _ _ _ _ _ => trivial⟩, fun val h_ W hx he => ⟨⟨33, rfl, rfl⟩, ?_⟩, ?_⟩
      ·replace hx := (Upd.drew _ _).trans hx
       replace hl := hl.ext hx
       replace hm := hm.ext hx
       have hE := Upd.refl (fun _ => False) W
       refine id (X_move (v := l) rfl ?_)
       exact ⟨hE, rfl⟩
      refine ⟨.det (fun val => (.int .i64 (((i : Nat) : Int)))), ⟨fun _ _ hv => rfl, fun _ _ _ _ _ => trivial⟩, fun val h_ W hx he => ⟨⟨33, rfl, rfl⟩, ?_⟩, ?_⟩
      ·replace hx := (Upd.drew _ _).trans hx
       replace hl := hl.ext hx
       replace hm := hm.ext hx
       have hE := Upd.refl (fun _ => False) W
       refine id (X_move (v := (.int .i64 (((i : Nat) : Int)))) rfl ?_)
       exact ⟨hE, rfl⟩
      refine ⟨.det (fun val => (pof l ((((i : Nat) : Int) : Int).toNat * 6))), ⟨fun _ _ hv => rfl, fun _ _ _ _ _ => trivial⟩, fun val h_ W hx he => ⟨⟨33, rfl, rfl⟩, ?_⟩, ?_⟩
      ·replace hx := (Upd.drew _ _).trans hx
       replace hl := hl.ext hx
       replace hm := hm.ext hx
       have hE := Upd.refl (fun _ => False) W
       refine id (X_idx (v := l) (n := es.length) (k := .i64) (i := ((i : Nat) : Int)) S22 rfl hl.sv rfl (by omega) (by omega) ?_)
       exact ⟨hE, rfl⟩
      refine ⟨.det (fun val => (pof l ((((i : Nat) : Int) : Int).toNat * 6 + 1))), ⟨fun _ _ hv => rfl, fun _ _ _ _ _ => trivial⟩, fun val h_ W hx he => ⟨⟨33, rfl, rfl⟩, ?_⟩, ?_⟩
      ·replace hx := (Upd.drew _ _).trans hx
       replace hl := hl.ext hx
       replace hm := hm.ext hx
       have hE := Upd.refl (fun _ => False) W
       refine id (X_fldS (v := l) (o := (((i : Nat) : Int) : Int).toNat * 6) Fd44_1 rfl hl.sv (by omega) ?_)
       exact ⟨hE, rfl⟩
      refine ⟨.det (fun val => (.agg (ptC a.2.2).toArray)), ⟨fun _ _ hv => rfl, fun _ _ _ _ _ => trivial⟩, fun val h_ W hx he => ⟨⟨33, rfl, rfl⟩, ?_⟩, ?_⟩
      ·replace hx := (Upd.drew _ _).trans hx
       replace hl := hl.ext hx
       replace hm := hm.ext hx
       have hE := Upd.refl (fun _ => False) W
       refine id (X_loadA (xs := ptC a.2.2) A41 rfl (kptr hl (Int.toNat_natCast _) hai) rfl ?_)
       exact ⟨hE, rfl⟩
      refine ⟨.det (fun val => m), ⟨fun _ _ hv => rfl, fun _ _ _ _ _ => trivial⟩, fun val h_ W hx he => ⟨⟨33, rfl, rfl⟩, ?_⟩, ?_⟩
      ·replace hx := (Upd.drew _ _).trans hx
       replace hl := hl.ext hx
       replace hm := hm.ext hx
       have hE := Upd.refl (fun _ => False) W
       refine id (X_move (v := m) rfl ?_)
       exact ⟨hE, rfl⟩
      refine ⟨.det (fun val => (.int .i64 (((i : Nat) : Int)))), ⟨fun _ _ hv => rfl, fun _ _ _ _ _ => trivial⟩, fun val h_ W hx he => ⟨⟨33, rfl, rfl⟩, ?_⟩, ?_⟩
      ·replace hx := (Upd.drew _ _).trans hx
       replace hl := hl.ext hx
       replace hm := hm.ext hx
       have hE := Upd.refl (fun _ => False) W
       refine id (X_move (v := (.int .i64 (((i : Nat) : Int)))) rfl ?_)
       exact ⟨hE, rfl⟩
      refine ⟨.det (fun val => (pof m ((((i : Nat) : Int) : Int).toNat * 6))), ⟨fun _ _ hv => rfl, fun _ _ _ _ _ => trivial⟩, fun val h_ W hx he => ⟨⟨33, rfl, rfl⟩, ?_⟩, ?_⟩
      ·replace hx := (Upd.drew _ _).trans hx
       replace hl := hl.ext hx
       replace hm := hm.ext hx
       have hE := Upd.refl (fun _ => False) W
       refine id (X_idx (v := m) (n := fs.length) (k := .i64) (i := ((i : Nat) : Int)) S22 rfl hm.sv rfl (by omega) (by omega) ?_)
       exact ⟨hE, rfl⟩
      refine ⟨.det (fun val => (pof m ((((i : Nat) : Int) : Int).toNat * 6 + 1))), ⟨fun _ _ hv => rfl, fun _ _ _ _ _ => trivial⟩, fun val h_ W hx he => ⟨⟨33, rfl, rfl⟩, ?_⟩, ?_⟩
      ·replace hx := (Upd.drew _ _).trans hx
       replace hl := hl.ext hx
       replace hm := hm.ext hx
       have hE := Upd.refl (fun _ => False) W
       refine id (X_fldS (v := m) (o := (((i : Nat) : Int) : Int).toNat * 6) Fd44_1 rfl hm.sv (by omega) ?_)
       exact ⟨hE, rfl⟩
      refine ⟨.det (fun val => (.agg (ptC b.2.2).toArray)), ⟨fun _ _ hv => rfl, fun _ _ _ _ _ => trivial⟩, fun val h_ W hx he => ⟨⟨33, rfl, rfl⟩, ?_⟩, ?_⟩
      ·replace hx := (Upd.drew _ _).trans hx
       replace hl := hl.ext hx
       replace hm := hm.ext hx
       have hE := Upd.refl (fun _ => False) W
       refine id (X_loadA (xs := ptC b.2.2) A41 rfl (kptr hm (Int.toNat_natCast _) hbi) rfl ?_)
       exact ⟨hE, rfl⟩
      intro val W6 hx6 he6
      replace hx6 := (Upd.drew _ _).trans hx6
      have hz6 := hx6.size
      replace hl := hl.ext hx6
      replace hm := hm.ext hx6
      replace hE := hE.trans (Ext.upd hx6)
      refine L_gy (dj := 33) rfl rfl rfl (X_eqP (p := a.2.2) (q := b.2.2) (r := true) Tryd.underlying41 u28 (by kernel_rfl) (by decide) ⟨rfl, rfl, rfl, rfl⟩ Tryd.underlying5 Tryd.underlying38 (by kernel_rfl) Tryd.underlying37 (ie := _) rfl (by kernel_rfl) Tryd.underlying35 Tryd.underlying39 (by kernel_rfl) rfl rfl (.inl ⟨rfl, hs5⟩) ?_)
      refine L_op rfl (X_pick (t := true) (v := (.bool (true))) rfl rfl ?_)
      refine L_op rfl (X_assign (v := (.bool (true))) rfl ?_)
      refine L_nil ?_
      refine B_n ?_
      refine T_n ?_
      refine W_reg ?_
      refine L_op rfl (X_move (v := (.int .i64 (((i : Nat) : Int)))) rfl ?_)
      refine L_op rfl (X_arith (k := .i64) (a := ((i : Nat) : Int)) (b := 1) (r := ((i + 1 : Nat) : Int)) rfl rfl rfl (iadd64 (by omega) (by omega) (by omega)) ?_)
      refine L_op rfl (X_assign (v := (.int .i64 (((i + 1 : Nat) : Int)))) rfl ?_)
      refine L_nil ?_
      refine T_n ?_
      exact ⟨rfl, (i + 1, true), ⟨⟨hi, fun _ => ⟨hlen, same_step hai hbi hz (same_kid (by simpa [scmp] using hs4) (by simpa using hs5))⟩, fun h => (by cases h), hl, hm, hE⟩, (by show (if true = true then 1 else 0) + (es.length - (i + 1)) < 1 + (es.length - i); split <;> omega)⟩, (Out.mk rfl), ⟨rfl, rfl, trivial⟩⟩
     ·refine W_draw 24 [[], [], [0, 1], [0, 1, 2], [0, 1, 2, 3], [0, 1, 2, 3, 4], [], [], [6, 7], [6, 7, 8], [6, 7, 8, 9], [6, 7, 8, 9, 10], [0, 1, 2, 3, 4, 5, 6, 7, 8, 9, 10, 11], [0, 1, 2, 3, 4, 5, 6, 7, 8, 9, 10, 11, 12], [0, 1, 2, 3, 4, 5, 6, 7, 8, 9, 10, 11, 12, 13], [0, 1, 2, 3, 4, 5, 6, 7, 8, 9, 10, 11, 12, 13], [0, 1, 2, 3, 4, 5, 6, 7, 8, 9, 10, 11, 12, 13, 14, 15], [0, 1, 2, 3, 4, 5, 6, 7, 8, 9, 10, 11, 12, 13, 14, 15, 16], [0, 1, 2, 3, 4, 5, 6, 7, 8, 9, 10, 11, 12, 13, 14, 15, 16, 17], [0, 1, 2, 3, 4, 5, 6, 7, 8, 9, 10, 11, 12, 13], [0, 1, 2, 3, 4, 5, 6, 7, 8, 9, 10, 11, 12, 13], [0, 1, 2, 3, 4, 5, 6, 7, 8, 9, 10, 11, 12, 13, 19, 20], [0, 1, 2, 3, 4, 5, 6, 7, 8, 9, 10, 11, 12, 13, 19, 20, 21], [0, 1, 2, 3, 4, 5, 6, 7, 8, 9, 10, 11, 12, 13, 19, 20, 21, 22], [0, 1, 2, 3, 4, 5, 6, 7, 8, 9, 10, 11, 12, 13, 14, 15, 16, 17, 18, 19, 20, 21, 22, 23], [0, 1, 2, 3, 4, 5, 6, 7, 8, 9, 10, 11, 12, 13, 14, 15, 16, 17, 18, 19, 20, 21, 22, 23, 24], [0, 1, 2, 3, 4, 5, 6, 7, 8, 9, 10, 11, 12, 13, 14, 15, 16, 17, 18, 19, 20, 21, 22, 23, 24, 25]] mixed (by kernel_rfl) ?_
      refine ⟨.det (fun val => l), ⟨fun _ _ hv => rfl, fun _ _ _ _ _ => trivial⟩, fun val h_ W hx he => ⟨trivial, ?_⟩, ?_⟩
      ·replace hx := (Upd.drew _ _).trans hx
       replace hl := hl.ext hx
       replace hm := hm.ext hx
       have hE := Upd.refl (fun _ => False) W
       refine id (X_move (v := l) rfl ?_)
       exact ⟨hE, rfl⟩
      refine ⟨.det (fun val => (.int .i64 (((i : Nat) : Int)))), ⟨fun _ _ hv => rfl, fun _ _ _ _ _ => trivial⟩, fun val h_ W hx he => ⟨trivial, ?_⟩, ?_⟩
      ·replace hx := (Upd.drew _ _).trans hx
       replace hl := hl.ext hx
       replace hm := hm.ext hx
       have hE := Upd.refl (fun _ => False) W
       refine id (X_move (v := (.int .i64 (((i : Nat) : Int)))) rfl ?_)
       exact ⟨hE, rfl⟩
      refine ⟨.det (fun val => (pof l ((((i : Nat) : Int) : Int).toNat * 6))), ⟨fun _ _ hv => rfl, fun _ _ _ _ _ => trivial⟩, fun val h_ W hx he => ⟨trivial, ?_⟩, ?_⟩
      ·replace hx := (Upd.drew _ _).trans hx
       replace hl := hl.ext hx
       replace hm := hm.ext hx
       have hE := Upd.refl (fun _ => False) W
       refine id (X_idx (v := l) (n := es.length) (k := .i64) (i := ((i : Nat) : Int)) S22 rfl hl.sv rfl (by omega) (by omega) ?_)
       exact ⟨hE, rfl⟩
      refine ⟨.det (fun val => (pof l ((((i : Nat) : Int) : Int).toNat * 6 + 0))), ⟨fun _ _ hv => rfl, fun _ _ _ _ _ => trivial⟩, fun val h_ W hx he => ⟨trivial, ?_⟩, ?_⟩
      ·replace hx := (Upd.drew _ _).trans hx
       replace hl := hl.ext hx
       replace hm := hm.ext hx
       have hE := Upd.refl (fun _ => False) W
       refine id (X_fldS (v := l) (o := (((i : Nat) : Int) : Int).toNat * 6) Fd44_0 rfl hl.sv (by omega) ?_)
       exact ⟨hE, rfl⟩
      refine ⟨.det (fun val => a.1), ⟨fun _ _ hv => rfl, fun _ _ _ _ _ => trivial⟩, fun val h_ W hx he => ⟨trivial, ?_⟩, ?_⟩
      ·replace hx := (Upd.drew _ _).trans hx
       replace hl := hl.ext hx
       replace hm := hm.ext hx
       have hE := Upd.refl (fun _ => False) W
       refine id (X_load (v := a.1) T42 rfl (kkey hl (Int.toNat_natCast _) hai) ?_)
       exact ⟨hE, rfl⟩
      refine ⟨.det (fun val => (strV (a.2.1))), ⟨fun _ _ hv => rfl, fun _ _ _ _ _ => trivial⟩, fun val h_ W hx he => ⟨trivial, ?_⟩, ?_⟩
      ·replace hx := (Upd.drew _ _).trans hx
       replace hl := hl.ext hx
       replace hm := hm.ext hx
       have hE := Upd.refl (fun _ => False) W
       refine id (X_str (v := a.1) (l := a.2.1) Tryd.underlying42 Tryd.underlying5 Tryd.underlying9 rfl (krd hl hai) ?_)
       exact ⟨hE, rfl⟩
      refine ⟨.det (fun val => m), ⟨fun _ _ hv => rfl, fun _ _ _ _ _ => trivial⟩, fun val h_ W hx he => ⟨trivial, ?_⟩, ?_⟩
      ·replace hx := (Upd.drew _ _).trans hx
       replace hl := hl.ext hx
       replace hm := hm.ext hx
       have hE := Upd.refl (fun _ => False) W
       refine id (X_move (v := m) rfl ?_)
       exact ⟨hE, rfl⟩
      refine ⟨.det (fun val => (.int .i64 (((i : Nat) : Int)))), ⟨fun _ _ hv => rfl, fun _ _ _ _ _ => trivial⟩, fun val h_ W hx he => ⟨trivial, ?_⟩, ?_⟩
      ·replace hx := (Upd.drew _ _).trans hx
       replace hl := hl.ext hx
       replace hm := hm.ext hx
       have hE := Upd.refl (fun _ => False) W
       refine id (X_move (v := (.int .i64 (((i : Nat) : Int)))) rfl ?_)
       exact ⟨hE, rfl⟩
      refine ⟨.det (fun val => (pof m ((((i : Nat) : Int) : Int).toNat * 6))), ⟨fun _ _ hv => rfl, fun _ _ _ _ _ => trivial⟩, fun val h_ W hx he => ⟨trivial, ?_⟩, ?_⟩
      ·replace hx := (Upd.drew _ _).trans hx
       replace hl := hl.ext hx
       replace hm := hm.ext hx
       have hE := Upd.refl (fun _ => False) W
       refine id (X_idx (v := m) (n := fs.length) (k := .i64) (i := ((i : Nat) : Int)) S22 rfl hm.sv rfl (by omega) (by omega) ?_)
       exact ⟨hE, rfl⟩
      refine ⟨.det (fun val => (pof m ((((i : Nat) : Int) : Int).toNat * 6 + 0))), ⟨fun _ _ hv => rfl, fun _ _ _ _ _ => trivial⟩, fun val h_ W hx he => ⟨trivial, ?_⟩, ?_⟩
      ·replace hx := (Upd.drew _ _).trans hx
       replace hl := hl.ext hx
       replace hm := hm.ext hx
       have hE := Upd.refl (fun _ => False) W
       refine id (X_fldS (v := m) (o := (((i : Nat) : Int) : Int).toNat * 6) Fd44_0 rfl hm.sv (by omega) ?_)
       exact ⟨hE, rfl⟩
      refine ⟨.det (fun val => b.1), ⟨fun _ _ hv => rfl, fun _ _ _ _ _ => trivial⟩, fun val h_ W hx he => ⟨trivial, ?_⟩, ?_⟩
      ·replace hx := (Upd.drew _ _).trans hx
       replace hl := hl.ext hx
       replace hm := hm.ext hx
       have hE := Upd.refl (fun _ => False) W
       refine id (X_load (v := b.1) T42 rfl (kkey hm (Int.toNat_natCast _) hbi) ?_)
       exact ⟨hE, rfl⟩
      refine ⟨.det (fun val => (strV (b.2.1))), ⟨fun _ _ hv => rfl, fun _ _ _ _ _ => trivial⟩, fun val h_ W hx he => ⟨trivial, ?_⟩, ?_⟩
      ·replace hx := (Upd.drew _ _).trans hx
       replace hl := hl.ext hx
       replace hm := hm.ext hx
       have hE := Upd.refl (fun _ => False) W
       refine id (X_str (v := b.1) (l := b.2.1) Tryd.underlying42 Tryd.underlying5 Tryd.underlying9 rfl (krd hm hbi) ?_)
       exact ⟨hE, rfl⟩
      refine ⟨.det (fun val => (.bool (true))), ⟨fun _ _ hv => rfl, fun _ _ _ _ _ => trivial⟩, fun val h_ W hx he => ⟨trivial, ?_⟩, ?_⟩
      ·replace hx := (Upd.drew _ _).trans hx
       replace hl := hl.ext hx
       replace hm := hm.ext hx
       have hE := Upd.refl (fun _ => False) W
       refine id (X_scmp (a := a.2.1) (b := b.2.1) (r := true) rfl rfl rfl hs4 ?_)
       exact ⟨hE, rfl⟩
      refine ⟨.det (fun val => (.bool (true))), ⟨fun _ _ hv => rfl, fun _ _ _ _ _ => trivial⟩, fun val h_ W hx he => ⟨trivial, ?_⟩, ?_⟩
      ·replace hx := (Upd.drew _ _).trans hx
       replace hl := hl.ext hx
       replace hm := hm.ext hx
       have hE := Upd.refl (fun _ => False) W
       refine id (X_move (v := (.bool (true))) rfl ?_)
       exact ⟨hE, rfl⟩
      refine ⟨.det (fun val => l), ⟨fun _ _ hv => rfl, fun _ _ _ _ _ => trivial⟩, fun val h_ W hx he => ⟨⟨33, rfl, rfl⟩, ?_⟩, ?_⟩
      ·replace hx := (Upd.drew _ _).trans hx
       replace hl := hl.ext hx
       replace hm := hm.ext hx
       have hE := Upd.refl (fun _ => False) W
       refine id (X_move (v := l) rfl ?_)
       exact ⟨hE, rfl⟩
      refine ⟨.det (fun val => (.int .i64 (((i : Nat) : Int)))), ⟨fun _ _ hv => rfl, fun _ _ _ _ _ => trivial⟩, fun val h_ W hx he => ⟨⟨33, rfl, rfl⟩, ?_⟩, ?_⟩
      ·replace hx := (Upd.drew _ _).trans hx
       replace hl := hl.ext hx
       replace hm := hm.ext hx
       have hE := Upd.refl (fun _ => False) W
       refine id (X_move (v := (.int .i64 (((i : Nat) : Int)))) rfl ?_)
       exact ⟨hE, rfl⟩
      refine ⟨.det (fun val => (pof l ((((i : Nat) : Int) : Int).toNat * 6))), ⟨fun _ _ hv => rfl, fun _ _ _ _ _ => trivial⟩, fun val h_ W hx he => ⟨⟨33, rfl, rfl⟩, ?_⟩, ?_⟩
      ·replace hx := (Upd.drew _ _).trans hx
       replace hl := hl.ext hx
       replace hm := hm.ext hx
       have hE := Upd.refl (fun _ => False) W
       refine id (X_idx (v := l) (n := es.length) (k := .i64) (i := ((i : Nat) : Int)) S22 rfl hl.sv rfl (by omega) (by omega) ?_)
       exact ⟨hE, rfl⟩
      refine ⟨.det (fun val => (pof l ((((i : Nat) : Int) : Int).toNat * 6 + 1))), ⟨fun _ _ hv => rfl, fun _ _ _ _ _ => trivial⟩, fun val h_ W hx he => ⟨⟨33, rfl, rfl⟩, ?_⟩, ?_⟩
      ·replace hx := (Upd.drew _ _).trans hx
       replace hl := hl.ext hx
       replace hm := hm.ext hx
       have hE := Upd.refl (fun _ => False) W
       refine id (X_fldS (v := l) (o := (((i : Nat) : Int) : Int).toNat * 6) Fd44_1 rfl hl.sv (by omega) ?_)
       exact ⟨hE, rfl⟩
      refine ⟨.det (fun val => (.agg (ptC a.2.2).toArray)), ⟨fun _ _ hv => rfl, fun _ _ _ _ _ => trivial⟩, fun val h_ W hx he => ⟨⟨33, rfl, rfl⟩, ?_⟩, ?_⟩
      ·replace hx := (Upd.drew _ _).trans hx
       replace hl := hl.ext hx
       replace hm := hm.ext hx
       have hE := Upd.refl (fun _ => False) W
       refine id (X_loadA (xs := ptC a.2.2) A41 rfl (kptr hl (Int.toNat_natCast _) hai) rfl ?_)
       exact ⟨hE, rfl⟩
      refine ⟨.det (fun val => m), ⟨fun _ _ hv => rfl, fun _ _ _ _ _ => trivial⟩, fun val h_ W hx he => ⟨⟨33, rfl, rfl⟩, ?_⟩, ?_⟩
      ·replace hx := (Upd.drew _ _).trans hx
       replace hl := hl.ext hx
       replace hm := hm.ext hx
       have hE := Upd.refl (fun _ => False) W
       refine id (X_move (v := m) rfl ?_)
       exact ⟨hE, rfl⟩
      refine ⟨.det (fun val => (.int .i64 (((i : Nat) : Int)))), ⟨fun _ _ hv => rfl, fun _ _ _ _ _ => trivial⟩, fun val h_ W hx he => ⟨⟨33, rfl, rfl⟩, ?_⟩, ?_⟩
      ·replace hx := (Upd.drew _ _).trans hx
       replace hl := hl.ext hx
       replace hm := hm.ext hx
       have hE := Upd.refl (fun _ => False) W
       refine id (X_move (v := (.int .i64 (((i : Nat) : Int)))) rfl ?_)
       exact ⟨hE, rfl⟩
      refine ⟨.det (fun val => (pof m ((((i : Nat) : Int) : Int).toNat * 6))), ⟨fun _ _ hv => rfl, fun _ _ _ _ _ => trivial⟩, fun val h_ W hx he => ⟨⟨33, rfl, rfl⟩, ?_⟩, ?_⟩
      ·replace hx := (Upd.drew _ _).trans hx
       replace hl := hl.ext hx
       replace hm := hm.ext hx
       have hE := Upd.refl (fun _ => False) W
       refine id (X_idx (v := m) (n := fs.length) (k := .i64) (i := ((i : Nat) : Int)) S22 rfl hm.sv rfl (by omega) (by omega) ?_)
       exact ⟨hE, rfl⟩
      refine ⟨.det (fun val => (pof m ((((i : Nat) : Int) : Int).toNat * 6 + 1))), ⟨fun _ _ hv => rfl, fun _ _ _ _ _ => trivial⟩, fun val h_ W hx he => ⟨⟨33, rfl, rfl⟩, ?_⟩, ?_⟩
      ·replace hx := (Upd.drew _ _).trans hx
       replace hl := hl.ext hx
       replace hm := hm.ext hx
       have hE := Upd.refl (fun _ => False) W
       refine id (X_fldS (v := m) (o := (((i : Nat) : Int) : Int).toNat * 6) Fd44_1 rfl hm.sv (by omega) ?_)
       exact ⟨hE, rfl⟩
      refine ⟨.det (fun val => (.agg (ptC b.2.2).toArray)), ⟨fun _ _ hv => rfl, fun _ _ _ _ _ => trivial⟩, fun val h_ W hx he => ⟨⟨33, rfl, rfl⟩, ?_⟩, ?_⟩
      ·replace hx := (Upd.drew _ _).trans hx
       replace hl := hl.ext hx
       replace hm := hm.ext hx
       have hE := Upd.refl (fun _ => False) W
       refine id (X_loadA (xs := ptC b.2.2) A41 rfl (kptr hm (Int.toNat_natCast _) hbi) rfl ?_)
       exact ⟨hE, rfl⟩
      intro val W9 hx9 he9
      replace hx9 := (Upd.drew _ _).trans hx9
      have hz9 := hx9.size
      replace hl := hl.ext hx9
      replace hm := hm.ext hx9
      replace hE := hE.trans (Ext.upd hx9)
      refine L_gy (dj := 33) rfl rfl rfl (X_eqP (p := a.2.2) (q := b.2.2) (r := false) Tryd.underlying41 u28 (by kernel_rfl) (by decide) ⟨rfl, rfl, rfl, rfl⟩ Tryd.underlying5 Tryd.underlying38 (by kernel_rfl) Tryd.underlying37 (ie := _) rfl (by kernel_rfl) Tryd.underlying35 Tryd.underlying39 (by kernel_rfl) rfl rfl (.inl ⟨rfl, hs5⟩) ?_)
      refine L_op rfl (X_pick (t := true) (v := (.bool (false))) rfl rfl ?_)
      refine L_op rfl (X_assign (v := (.bool (false))) rfl ?_)
      refine L_nil ?_
      refine B_n ?_
      refine T_n ?_
      refine W_reg ?_
      refine L_op rfl (X_move (v := (.int .i64 (((i : Nat) : Int)))) rfl ?_)
      refine L_op rfl (X_arith (k := .i64) (a := ((i : Nat) : Int)) (b := 1) (r := ((i + 1 : Nat) : Int)) rfl rfl rfl (iadd64 (by omega) (by omega) (by omega)) ?_)
      refine L_op rfl (X_assign (v := (.int .i64 (((i + 1 : Nat) : Int)))) rfl ?_)
      refine L_nil ?_
      refine T_n ?_
      exact ⟨rfl, (i + 1, false), ⟨⟨hi, fun h => (by cases h), fun _ h => (by have h2 := same_no hai hbi h; exact ne_of_beq_false hs5 (by rw [h2])), hl, hm, hE⟩, (by show (if false = true then 1 else 0) + (es.length - (i + 1)) < 1 + (es.length - i); split <;> omega)⟩, (Out.mk rfl), ⟨rfl, rfl, trivial⟩⟩
    ·refine W_draw 24 [[], [], [0, 1], [0, 1, 2], [0, 1, 2, 3], [0, 1, 2, 3, 4], [], [], [6, 7], [6, 7, 8], [6, 7, 8, 9], [6, 7, 8, 9, 10], [0, 1, 2, 3, 4, 5, 6, 7, 8, 9, 10, 11], [0, 1, 2, 3, 4, 5, 6, 7, 8, 9, 10, 11, 12], [0, 1, 2, 3, 4, 5, 6, 7, 8, 9, 10, 11, 12, 13], [0, 1, 2, 3, 4, 5, 6, 7, 8, 9, 10, 11, 12, 13], [0, 1, 2, 3, 4, 5, 6, 7, 8, 9, 10, 11, 12, 13, 14, 15], [0, 1, 2, 3, 4, 5, 6, 7, 8, 9, 10, 11, 12, 13, 14, 15, 16], [0, 1, 2, 3, 4, 5, 6, 7, 8, 9, 10, 11, 12, 13, 14, 15, 16, 17], [0, 1, 2, 3, 4, 5, 6, 7, 8, 9, 10, 11, 12, 13], [0, 1, 2, 3, 4, 5, 6, 7, 8, 9, 10, 11, 12, 13], [0, 1, 2, 3, 4, 5, 6, 7, 8, 9, 10, 11, 12, 13, 19, 20], [0, 1, 2, 3, 4, 5, 6, 7, 8, 9, 10, 11, 12, 13, 19, 20, 21], [0, 1, 2, 3, 4, 5, 6, 7, 8, 9, 10, 11, 12, 13, 19, 20, 21, 22], [0, 1, 2, 3, 4, 5, 6, 7, 8, 9, 10, 11, 12, 13, 14, 15, 16, 17, 18, 19, 20, 21, 22, 23], [0, 1, 2, 3, 4, 5, 6, 7, 8, 9, 10, 11, 12, 13, 14, 15, 16, 17, 18, 19, 20, 21, 22, 23, 24], [0, 1, 2, 3, 4, 5, 6, 7, 8, 9, 10, 11, 12, 13, 14, 15, 16, 17, 18, 19, 20, 21, 22, 23, 24, 25]] mixed (by kernel_rfl) ?_
     refine ⟨.det (fun val => l), ⟨fun _ _ hv => rfl, fun _ _ _ _ _ => trivial⟩, fun val h_ W hx he => ⟨trivial, ?_⟩, ?_⟩
     ·replace hx := (Upd.drew _ _).trans hx
      replace hl := hl.ext hx
      replace hm := hm.ext hx
      have hE := Upd.refl (fun _ => False) W
      refine id (X_move (v := l) rfl ?_)
      exact ⟨hE, rfl⟩
     refine ⟨.det (fun val => (.int .i64 (((i : Nat) : Int)))), ⟨fun _ _ hv => rfl, fun _ _ _ _ _ => trivial⟩, fun val h_ W hx he => ⟨trivial, ?_⟩, ?_⟩
     ·replace hx := (Upd.drew _ _).trans hx
      replace hl := hl.ext hx
      replace hm := hm.ext hx
      have hE := Upd.refl (fun _ => False) W
      refine id (X_move (v := (.int .i64 (((i : Nat) : Int)))) rfl ?_)
      exact ⟨hE, rfl⟩
     refine ⟨.det (fun val => (pof l ((((i : Nat) : Int) : Int).toNat * 6))), ⟨fun _ _ hv => rfl, fun _ _ _ _ _ => trivial⟩, fun val h_ W hx he => ⟨trivial, ?_⟩, ?_⟩
     ·replace hx := (Upd.drew _ _).trans hx
      replace hl := hl.ext hx
      replace hm := hm.ext hx
      have hE := Upd.refl (fun _ => False) W
      refine id (X_idx (v := l) (n := es.length) (k := .i64) (i := ((i : Nat) : Int)) S22 rfl hl.sv rfl (by omega) (by omega) ?_)
      exact ⟨hE, rfl⟩
     refine ⟨.det (fun val => (pof l ((((i : Nat) : Int) : Int).toNat * 6 + 0))), ⟨fun _ _ hv => rfl, fun _ _ _ _ _ => trivial⟩, fun val h_ W hx he => ⟨trivial, ?_⟩, ?_⟩
     ·replace hx := (Upd.drew _ _).trans hx
      replace hl := hl.ext hx
      replace hm := hm.ext hx
      have hE := Upd.refl (fun _ => False) W
      refine id (X_fldS (v := l) (o := (((i : Nat) : Int) : Int).toNat * 6) Fd44_0 rfl hl.sv (by omega) ?_)
      exact ⟨hE, rfl⟩
     refine ⟨.det (fun val => a.1), ⟨fun _ _ hv => rfl, fun _ _ _ _ _ => trivial⟩, fun val h_ W hx he => ⟨trivial, ?_⟩, ?_⟩
     ·replace hx := (Upd.drew _ _).trans hx
      replace hl := hl.ext hx
      replace hm := hm.ext hx
      have hE := Upd.refl (fun _ => False) W
      refine id (X_load (v := a.1) T42 rfl (kkey hl (Int.toNat_natCast _) hai) ?_)
      exact ⟨hE, rfl⟩
     refine ⟨.det (fun val => (strV (a.2.1))), ⟨fun _ _ hv => rfl, fun _ _ _ _ _ => trivial⟩, fun val h_ W hx he => ⟨trivial, ?_⟩, ?_⟩
     ·replace hx := (Upd.drew _ _).trans hx
      replace hl := hl.ext hx
      replace hm := hm.ext hx
      have hE := Upd.refl (fun _ => False) W
      refine id (X_str (v := a.1) (l := a.2.1) Tryd.underlying42 Tryd.underlying5 Tryd.underlying9 rfl (krd hl hai) ?_)
      exact ⟨hE, rfl⟩
     refine ⟨.det (fun val => m), ⟨fun _ _ hv => rfl, fun _ _ _ _ _ => trivial⟩, fun val h_ W hx he => ⟨trivial, ?_⟩, ?_⟩
     ·replace hx := (Upd.drew _ _).trans hx
      replace hl := hl.ext hx
      replace hm := hm.ext hx
      have hE := Upd.refl (fun _ => False) W
      refine id (X_move (v := m) rfl ?_)
      exact ⟨hE, rfl⟩
     refine ⟨.det (fun val => (.int .i64 (((i : Nat) : Int)))), ⟨fun _ _ hv => rfl, fun _ _ _ _ _ => trivial⟩, fun val h_ W hx he => ⟨trivial, ?_⟩, ?_⟩
     ·replace hx := (Upd.drew _ _).trans hx
      replace hl := hl.ext hx
      replace hm := hm.ext hx
      have hE := Upd.refl (fun _ => False) W
      refine id (X_move (v := (.int .i64 (((i : Nat) : Int)))) rfl ?_)
      exact ⟨hE, rfl⟩
     refine ⟨.det (fun val => (pof m ((((i : Nat) : Int) : Int).toNat * 6))), ⟨fun _ _ hv => rfl, fun _ _ _ _ _ => trivial⟩, fun val h_ W hx he => ⟨trivial, ?_⟩, ?_⟩
     ·replace hx := (Upd.drew _ _).trans hx
      replace hl := hl.ext hx
      replace hm := hm.ext hx
      have hE := Upd.refl (fun _ => False) W
      refine id (X_idx (v := m) (n := fs.length) (k := .i64) (i := ((i : Nat) : Int)) S22 rfl hm.sv rfl (by omega) (by omega) ?_)
      exact ⟨hE, rfl⟩
     refine ⟨.det (fun val => (pof m ((((i : Nat) : Int) : Int).toNat * 6 + 0))), ⟨fun _ _ hv => rfl, fun _ _ _ _ _ => trivial⟩, fun val h_ W hx he => ⟨trivial, ?_⟩, ?_⟩
     ·replace hx := (Upd.drew _ _).trans hx
      replace hl := hl.ext hx
      replace hm := hm.ext hx
      have hE := Upd.refl (fun _ => False) W
      refine id (X_fldS (v := m) (o := (((i : Nat) : Int) : Int).toNat * 6) Fd44_0 rfl hm.sv (by omega) ?_)
      exact ⟨hE, rfl⟩
     refine ⟨.det (fun val => b.1), ⟨fun _ _ hv => rfl, fun _ _ _ _ _ => trivial⟩, fun val h_ W hx he => ⟨trivial, ?_⟩, ?_⟩
     ·replace hx := (Upd.drew _ _).trans hx
      replace hl := hl.ext hx
      replace hm := hm.ext hx
      have hE := Upd.refl (fun _ => False) W
      refine id (X_load (v := b.1) T42 rfl (kkey hm (Int.toNat_natCast _) hbi) ?_)
      exact ⟨hE, rfl⟩
     refine ⟨.det (fun val => (strV (b.2.1))), ⟨fun _ _ hv => rfl, fun _ _ _ _ _ => trivial⟩, fun val h_ W hx he => ⟨trivial, ?_⟩, ?_⟩
     ·replace hx := (Upd.drew _ _).trans hx
      replace hl := hl.ext hx
      replace hm := hm.ext hx
      have hE := Upd.refl (fun _ => False) W
      refine id (X_str (v := b.1) (l := b.2.1) Tryd.underlying42 Tryd.underlying5 Tryd.underlying9 rfl (krd hm hbi) ?_)
      exact ⟨hE, rfl⟩
     refine ⟨.det (fun val => (.bool (false))), ⟨fun _ _ hv => rfl, fun _ _ _ _ _ => trivial⟩, fun val h_ W hx he => ⟨trivial, ?_⟩, ?_⟩
     ·replace hx := (Upd.drew _ _).trans hx
      replace hl := hl.ext hx
      replace hm := hm.ext hx
      have hE := Upd.refl (fun _ => False) W
      refine id (X_scmp (a := a.2.1) (b := b.2.1) (r := false) rfl rfl rfl hs4 ?_)
      exact ⟨hE, rfl⟩
     refine ⟨.det (fun val => (.bool (false))), ⟨fun _ _ hv => rfl, fun _ _ _ _ _ => trivial⟩, fun val h_ W hx he => ⟨trivial, ?_⟩, ?_⟩
     ·replace hx := (Upd.drew _ _).trans hx
      replace hl := hl.ext hx
      replace hm := hm.ext hx
      have hE := Upd.refl (fun _ => False) W
      refine id (X_move (v := (.bool (false))) rfl ?_)
      exact ⟨hE, rfl⟩
     refine ⟨.no, ⟨fun _ _ _ => trivial, fun _ _ _ _ _ => trivial⟩, fun val h_ W hx he => ⟨33, rfl, .inl rfl⟩, ?_⟩
     refine ⟨.no, ⟨fun _ _ _ => trivial, fun _ _ _ _ _ => trivial⟩, fun val h_ W hx he => ⟨33, rfl, .inl rfl⟩, ?_⟩
     refine ⟨.no, ⟨fun _ _ _ => trivial, fun _ _ _ _ _ => trivial⟩, fun val h_ W hx he => ⟨33, rfl, .inl rfl⟩, ?_⟩
     refine ⟨.no, ⟨fun _ _ _ => trivial, fun _ _ _ _ _ => trivial⟩, fun val h_ W hx he => ⟨33, rfl, .inl rfl⟩, ?_⟩
     refine ⟨.no, ⟨fun _ _ _ => trivial, fun _ _ _ _ _ => trivial⟩, fun val h_ W hx he => ⟨33, rfl, .inl rfl⟩, ?_⟩
     refine ⟨.no, ⟨fun _ _ _ => trivial, fun _ _ _ _ _ => trivial⟩, fun val h_ W hx he => ⟨33, rfl, .inl rfl⟩, ?_⟩
     refine ⟨.no, ⟨fun _ _ _ => trivial, fun _ _ _ _ _ => trivial⟩, fun val h_ W hx he => ⟨33, rfl, .inl rfl⟩, ?_⟩
     refine ⟨.no, ⟨fun _ _ _ => trivial, fun _ _ _ _ _ => trivial⟩, fun val h_ W hx he => ⟨33, rfl, .inl rfl⟩, ?_⟩
     refine ⟨.no, ⟨fun _ _ _ => trivial, fun _ _ _ _ _ => trivial⟩, fun val h_ W hx he => ⟨33, rfl, .inl rfl⟩, ?_⟩
     refine ⟨.no, ⟨fun _ _ _ => trivial, fun _ _ _ _ _ => trivial⟩, fun val h_ W hx he => ⟨33, rfl, .inl rfl⟩, ?_⟩
     intro val W12 hx12 he12
     replace hx12 := (Upd.drew _ _).trans hx12
     have hz12 := hx12.size
     replace hl := hl.ext hx12
     replace hm := hm.ext hx12
     replace hE := hE.trans (Ext.upd hx12)
     refine L_gn (dj := 33) (t := false) rfl rfl rfl rfl ?_
     refine L_op rfl (X_pick (t := false) (v := (.bool (false))) rfl rfl ?_)
     refine L_op rfl (X_assign (v := (.bool (false))) rfl ?_)
     refine L_nil ?_
     refine B_n ?_
     refine T_n ?_
     refine W_reg ?_
     refine L_op rfl (X_move (v := (.int .i64 (((i : Nat) : Int)))) rfl ?_)
     refine L_op rfl (X_arith (k := .i64) (a := ((i : Nat) : Int)) (b := 1) (r := ((i + 1 : Nat) : Int)) rfl rfl rfl (iadd64 (by omega) (by omega) (by omega)) ?_)
     refine L_op rfl (X_assign (v := (.int .i64 (((i + 1 : Nat) : Int)))) rfl ?_)
     refine L_nil ?_
     refine T_n ?_
     exact ⟨rfl, (i + 1, false), ⟨⟨hi, fun h => (by cases h), fun _ h => (by have h2 := same_no hai hbi h; have h3 := hs4; rw [show a.2.1 = b.2.1 by rw [h2]] at h3; simp [scmp] at h3), hl, hm, hE⟩, (by show (if false = true then 1 else 0) + (es.length - (i + 1)) < 1 + (es.length - i); split <;> omega)⟩, (Out.mk rfl), ⟨rfl, rfl, trivial⟩⟩
   ·refine L_gy (dj := 12) rfl rfl rfl (X_cmp (k := .i64) (a := ((i : Nat) : Int)) (b := ((es.length : Nat) : Int)) (r := false) rfl rfl rfl (decide_eq_false (p := ((((i : Nat) : Int)) : Int) < ((((es.length : Nat) : Int)) : Int)) (by omega)) ?_)
    refine L_op rfl (X_pick (t := true) (v := (.bool (false))) rfl rfl ?_)
    refine L_nil ?_
    refine T_n ?_
    refine W_cf rfl ?_
    refine W_exit ?_
    refine T_e ?_
    refine T_e ?_
    refine B_x ?_
    refine T_n ?_
    refine W_seq ?_
    refine W_reg ?_
    refine L_op rfl (X_move (v := (.bool (true))) rfl ?_)
    refine L_op rfl (X_assign (v := (.bool (true))) rfl ?_)
    refine L_nil ?_
    refine T_n ?_
    refine W_ret ?_
    exact BQ_r (End_1 Tryd.results20 (v := .bool true) rfl ⟨⟨true, rfl, ⟨fun _ => by have h1 := hz; rwa [List.take_of_length_le (by omega), List.take_of_length_le (by omega)] at h1, fun _ => rfl⟩⟩, Ext.upd hE⟩)
  ·refine W_seq ?_
   refine W_seq ?_
   refine W_reg ?_
   refine L_op rfl (X_move (v := (.bool (false))) rfl ?_)
   refine L_op rfl (X_move (v := (.bool (false))) rfl ?_)
   refine L_gn (dj := 12) (t := false) rfl rfl rfl rfl ?_
   refine L_gn (dj := 12) (t := false) rfl rfl rfl rfl ?_
   refine L_gn (dj := 12) (t := false) rfl rfl rfl rfl ?_
   refine L_gn (dj := 12) (t := false) rfl rfl rfl rfl ?_
   refine L_op rfl (X_pick (t := false) (v := (.bool (false))) rfl rfl ?_)
   refine L_nil ?_
   refine T_n ?_
   refine W_cf rfl ?_
   refine W_exit ?_
   refine T_e ?_
   refine T_e ?_
   refine B_x ?_
   refine T_n ?_
   refine W_seq ?_
   refine W_reg ?_
   refine L_op rfl (X_move (v := (.bool (false))) rfl ?_)
   refine L_op rfl (X_assign (v := (.bool (false))) rfl ?_)
   refine L_nil ?_
   refine T_n ?_
   refine W_ret ?_
   exact BQ_r (End_1 Tryd.results20 (v := .bool false) rfl ⟨⟨false, rfl, ⟨fun h => (by cases h), fun h => absurd h (hgf rfl)⟩⟩, Ext.upd hE⟩)
 ·refine L_op rfl (X_cmp (k := .i64) (a := ((es.length : Nat) : Int)) (b := ((fs.length : Nat) : Int)) (r := false) rfl rfl rfl (decide_eq_false (p := ((((es.length : Nat) : Int)) : Int) = ((((fs.length : Nat) : Int)) : Int)) (by omega)) ?_)
  refine L_op rfl (X_assign (v := (.bool (false))) rfl ?_)
  refine L_nil ?_
  refine T_n ?_
  refine W_seq ?_
  refine W_seq ?_
  refine W_reg ?_
  refine L_op rfl (X_assign (v := (.int .i64 (0))) rfl ?_)
  refine L_nil ?_
  refine T_n ?_
  refine W_block ?_
  refine W_loop (α := Nat × Bool) [4, 5, 11, 12, 13, 14, 15, 16, 17, 18, 19, 20, 21, 22, 23, 24, 25, 26, 27, 28, 29, 30, 31, 32, 33, 34, 35, 36, 37, 38, 39, 40, 41, 42, 43, 44, 45] (fun ⟨i, g⟩ => [(5, .int .i64 ((i : Nat) : Int)), (4, .bool g)]) (fun ⟨i, g⟩ w_ => i ≤ es.length ∧ (g = true → es.length = fs.length ∧ (es.take i).map (·.2) = (fs.take i).map (·.2)) ∧ (g = false → ¬ es.map (·.2) = fs.map (·.2)) ∧ NRd LK w_ lo hi l es ∧ NRd LK w_ lo2 hi2 m fs ∧ Ext w w_) (fun ⟨i, g⟩ => (if g = true then 1 else 0) + (es.length - i)) ⟨rfl, (0, false), ⟨Nat.zero_le _, fun h => (by cases h), fun _ h => (by have h1 := congrArg List.length h; rw [List.length_map, List.length_map] at h1; omega), hl, hm, hE⟩, Out.refl _ _, ⟨rfl, rfl, trivial⟩⟩ ?_
  rintro ⟨i, g⟩ w15 _ ⟨hil, hgt, hgf, hl, hm, hE⟩
  rcases Bool.eq_false_or_eq_true g with rfl | rfl
  ·obtain ⟨hlen, hz⟩ := hgt rfl
   refine W_seq ?_
   refine W_seq ?_
   refine W_reg ?_
   refine L_op rfl (X_move (v := (.bool (true))) rfl ?_)
   refine L_op rfl (X_move (v := (.bool (true))) rfl ?_)
   refine L_gy (dj := 12) rfl rfl rfl (X_move (v := (.int .i64 (((i : Nat) : Int)))) rfl ?_)
   refine L_gy (dj := 12) rfl rfl rfl (X_move (v := l) rfl ?_)
   refine L_gy (dj := 12) rfl rfl rfl (X_len (v := l) (n := es.length) Tryd.underlying22 rfl hl.sv ?_)
   by_cases hc16 : (((i : Nat) : Int) : Int) < (((es.length : Nat) : Int))
   ·refine L_gy (dj := 12) rfl rfl rfl (X_cmp (k := .i64) (a := ((i : Nat) : Int)) (b := ((es.length : Nat) : Int)) (r := true) rfl rfl rfl (decide_eq_true (p := ((((i : Nat) : Int)) : Int) < ((((es.length : Nat) : Int)) : Int)) (by omega)) ?_)
    have hi : i < es.length := by omega
    obtain ⟨a, hai⟩ : ∃ a, es[i]? = some a := ⟨_, List.getElem?_eq_getElem hi⟩
    obtain ⟨b, hbi⟩ : ∃ b, fs[i]? = some b := ⟨_, List.getElem?_eq_getElem (by omega)⟩
    refine L_op rfl (X_pick (t := true) (v := (.bool (true))) rfl rfl ?_)
    refine L_nil ?_
    refine T_n ?_
    refine W_ct rfl ?_
    refine W_skip ?_
    refine T_n ?_
    refine W_seq ?_
    refine W_block ?_
    rcases Bool.eq_false_or_eq_true (scmp .eql (a.2.1) (b.2.1)) with hs17 | hs17
    ·rcases Bool.eq_false_or_eq_true (a.2.2 == b.2.2) with hs18 | hs18
     ·refine W_draw 24 [[], [], [0, 1], [0, 1, 2], [0, 1, 2, 3], [0, 1, 2, 3, 4], [], [], [6, 7], [6, 7, 8], [6, 7, 8, 9], [6, 7, 8, 9, 10], [0, 1, 2, 3, 4, 5, 6, 7, 8, 9, 10, 11], [0, 1, 2, 3, 4, 5, 6, 7, 8, 9, 10, 11, 12], [0, 1, 2, 3, 4, 5, 6, 7, 8, 9, 10, 11, 12, 13], [0, 1, 2, 3, 4, 5, 6, 7, 8, 9, 10, 11, 12, 13], [0, 1, 2, 3, 4, 5, 6, 7, 8, 9, 10, 11, 12, 13, 14, 15], [0, 1, 2, 3, 4, 5, 6, 7, 8, 9, 10, 11, 12, 13, 14, 15, 16], [0, 1, 2, 3, 4, 5, 6, 7, 8, 9, 10, 11, 12, 13, 14, 15, 16, 17], [0, 1, 2, 3, 4, 5, 6, 7, 8, 9, 10, 11, 12, 13], [0, 1, 2, 3, 4, 5, 6, 7, 8, 9, 10, 11, 12, 13], [0, 1, 2, 3, 4, 5, 6, 7, 8, 9, 10, 11, 12, 13, 19, 20], [0, 1, 2, 3, 4, 5, 6, 7, 8, 9, 10, 11, 12, 13, 19, 20, 21], [0, 1, 2, 3, 4, 5, 6, 7, 8, 9, 10, 11, 12, 13, 19, 20, 21, 22], [0, 1, 2, 3, 4, 5, 6, 7, 8, 9, 10, 11, 12, 13, 14, 15, 16, 17, 18, 19, 20, 21, 22, 23], [0, 1, 2, 3, 4, 5, 6, 7, 8, 9, 10, 11, 12, 13, 14, 15, 16, 17, 18, 19, 20, 21, 22, 23, 24], [0, 1, 2, 3, 4, 5, 6, 7, 8, 9, 10, 11, 12, 13, 14, 15, 16, 17, 18, 19, 20, 21, 22, 23, 24, 25]] mixed (by kernel_rfl) ?_
      refine ⟨.det (fun val => l), ⟨fun _ _ hv => rfl, fun _ _ _ _ _ => trivial⟩, fun val h_ W hx he => ⟨trivial, ?_⟩, ?_⟩
      ·replace hx := (Upd.drew _ _).trans hx
       replace hl := hl.ext hx
       replace hm := hm.ext hx
       have hE := Upd.refl (fun _ => False) W
       refine id (X_move (v := l) rfl ?_)
       exact ⟨hE, rfl⟩
      refine ⟨.det (fun val => (.int .i64 (((i : Nat) : Int)))), ⟨fun _ _ hv => rfl, fun _ _ _ _ _ => trivial⟩, fun val h_ W hx he => ⟨trivial, ?_⟩, ?_⟩
      ·replace hx := (Upd.drew _ _).trans hx
       replace hl := hl.ext hx
       replace hm := hm.ext hx
       have hE := Upd.refl (fun _ => False) W
       refine id (X_move (v := (.int .i64 (((i : Nat) : Int)))) rfl ?_)
       exact ⟨hE, rfl⟩
      refine ⟨.det (fun val => (pof l ((((i : Nat) : Int) : Int).toNat * 6))), ⟨fun _ _ hv => rfl, fun _ _ _ _ _ => trivial⟩, fun val h_ W hx he => ⟨trivial, ?_⟩, ?_⟩
      ·replace hx := (Upd.drew _ _).trans hx
       replace hl := hl.ext hx
       replace hm := hm.ext hx
       have hE := Upd.refl (fun _ => False) W
       refine id (X_idx (v := l) (n := es.length) (k := .i64) (i := ((i : Nat) : Int)) S22 rfl hl.sv rfl (by omega) (by omega) ?_)
       exact ⟨hE, rfl⟩
      refine ⟨.det (fun val => (pof l ((((i : Nat) : Int) : Int).toNat * 6 + 0))), ⟨fun _ _ hv => rfl, fun _ _ _ _ _ => trivial⟩, fun val h_ W hx he => ⟨trivial, ?_⟩, ?_⟩
      ·replace hx := (Upd.drew _ _).trans hx
       replace hl := hl.ext hx
       replace hm := hm.ext hx
       have hE := Upd.refl (fun _ => False) W
       refine id (X_fldS (v := l) (o := (((i : Nat) : Int) : Int).toNat * 6) Fd44_0 rfl hl.sv (by omega) ?_)
       exact ⟨hE, rfl⟩
      refine ⟨.det (fun val => a.1), ⟨fun _ _ hv => rfl, fun _ _ _ _ _ => trivial⟩, fun val h_ W hx he => ⟨trivial, ?_⟩, ?_⟩
      ·replace hx := (Upd.drew _ _).trans hx
       replace hl := hl.ext hx
       replace hm := hm.ext hx
       have hE := Upd.refl (fun _ => False) W
       refine id (X_load (v := a.1) T42 rfl (kkey hl (Int.toNat_natCast _) hai) ?_)
       exact ⟨hE, rfl⟩
      refine ⟨.det (fun val => (strV (a.2.1))), ⟨fun _ _ hv => rfl, fun _ _ _ _ _ => trivial⟩, fun val h_ W hx he => ⟨trivial, ?_⟩, ?_⟩
      ·replace hx := (Upd.drew _ _).trans hx
       replace hl := hl.ext hx
       replace hm := hm.ext hx
       have hE := Upd.refl (fun _ => False) W
       refine id (X_str (v := a.1) (l := a.2.1) Tryd.underlying42 Tryd.underlying5 Tryd.underlying9 rfl (krd hl hai) ?_)
       exact ⟨hE, rfl⟩
      refine ⟨.det (fun val => m), ⟨fun _ _ hv => rfl, fun _ _ _ _ _ => trivial⟩, fun val h_ W hx he => ⟨trivial, ?_⟩, ?_⟩
      ·replace hx := (Upd.drew _ _).trans hx
       replace hl := hl.ext hx
       replace hm := hm.ext hx
       have hE := Upd.refl (fun _ => False) W
       refine id (X_move (v := m) rfl ?_)
       exact ⟨hE, rfl⟩
      refine ⟨.det (fun val => (.int .i64 (((i : Nat) : Int)))), ⟨fun _ _ hv => rfl, fun _ _ _ _ _ => trivial⟩, fun val h_ W hx he => ⟨trivial, ?_⟩, ?_⟩
      ·replace hx := (Upd.drew _ _).trans hx
       replace hl := hl.ext hx
       replace hm := hm.ext hx
       have hE := Upd.refl (fun _ => False) W
       refine id (X_move (v := (.int .i64 (((i : Nat) : Int)))) rfl ?_)
       exact ⟨hE, rfl⟩
      refine ⟨.det (fun val => (pof m ((((i : Nat) : Int) : Int).toNat * 6))), ⟨fun _ _ hv => rfl, fun _ _ _ _ _ => trivial⟩, fun val h_ W hx he => ⟨trivial, ?_⟩, ?_⟩
      ·replace hx := (Upd.drew _ _).trans hx
       replace hl := hl.ext hx
       replace hm := hm.ext hx
       have hE := Upd.refl (fun _ => False) W
       refine id (X_idx (v := m) (n := fs.length) (k := .i64) (i := ((i : Nat) : Int)) S22 rfl hm.sv rfl (by omega) (by omega) ?_)
       exact ⟨hE, rfl⟩
      refine ⟨.det (fun val => (pof m ((((i : Nat) : Int) : Int).toNat * 6 + 0))), ⟨fun _ _ hv => rfl, fun _ _ _ _ _ => trivial⟩, fun val h_ W hx he => ⟨trivial, ?_⟩, ?_⟩
      ·replace hx := (Upd.drew _ _).trans hx
       replace hl := hl.ext hx
       replace hm := hm.ext hx
       have hE := Upd.refl (fun _ => False) W
       refine id (X_fldS (v := m) (o := (((i : Nat) : Int) : Int).toNat * 6) Fd44_0 rfl hm.sv (by omega) ?_)
       exact ⟨hE, rfl⟩
      refine ⟨.det (fun val => b.1), ⟨fun _ _ hv => rfl, fun _ _ _ _ _ => trivial⟩, fun val h_ W hx he => ⟨trivial, ?_⟩, ?_⟩
      ·replace hx := (Upd.drew _ _).trans hx
       replace hl := hl.ext hx
       replace hm := hm.ext hx
       have hE := Upd.refl (fun _ => False) W
       refine id (X_load (v := b.1) T42 rfl (kkey hm (Int.toNat_natCast _) hbi) ?_)
       exact ⟨hE, rfl⟩
      refine ⟨.det (fun val => (strV (b.2.1))), ⟨fun _ _ hv => rfl, fun _ _ _ _ _ => trivial⟩, fun val h_ W hx he => ⟨trivial, ?_⟩, ?_⟩
      ·replace hx := (Upd.drew _ _).trans hx
       replace hl := hl.ext hx
       replace hm := hm.ext hx
       have hE := Upd.refl (fun _ => False) W
       refine id (X_str (v := b.1) (l := b.2.1) Tryd.underlying42 Tryd.underlying5 Tryd.underlying9 rfl (krd hm hbi) ?_)
       exact ⟨hE, rfl⟩
      refine ⟨.det (fun val => (.bool (true))), ⟨fun _ _ hv => rfl, fun _ _ _ _ _ => trivial⟩, fun val h_ W hx he => ⟨trivial, ?_⟩, ?_⟩
      ·replace hx := (Upd.drew _ _).trans hx
       replace hl := hl.ext hx
       replace hm := hm.ext hx
       have hE := Upd.refl (fun _ => False) W
       refine id (X_scmp (a := a.2.1) (b := b.2.1) (r := true) rfl rfl rfl hs17 ?_)
       exact ⟨hE, rfl⟩
      refine ⟨.det (fun val => (.bool (true))), ⟨fun _ _ hv => rfl, fun _ _ _ _ _ => trivial⟩, fun val h_ W hx he => ⟨trivial, ?_⟩, ?_⟩
      ·replace hx := (Upd.drew _ _).trans hx
       replace hl := hl.ext hx
       replace hm := hm.ext hx
       have hE := Upd.refl (fun _ => False) W
       refine id (X_move (v := (.bool (true))) rfl ?_)
       exact ⟨hE, rfl⟩
      refine ⟨.det (fun val => l), ⟨fun _ _ hv => rfl, fun _ _ _ _ _ => trivial⟩, fun val h_ W hx he => ⟨⟨33, rfl, rfl⟩, ?_⟩, ?_⟩
      ·replace hx := (Upd.drew _ _).trans hx
       replace hl := hl.ext hx
       replace hm := hm.ext hx
       have hE := Upd.refl (fun _ => False) W
       refine id (X_move (v := l) rfl ?_)
       exact ⟨hE, rfl⟩
      refine ⟨.det (fun val => (.int .i64 (((i : Nat) : Int)))), ⟨fun _ _ hv => rfl, fun _ _ _ _ _ => trivial⟩, fun val h_ W hx he => ⟨⟨33, rfl, rfl⟩, ?_⟩, ?_⟩
      ·replace hx := (Upd.drew _ _).trans hx
       replace hl := hl.ext hx
       replace hm := hm.ext hx
       have hE := Upd.refl (fun _ => False) W
       refine id (X_move (v := (.int .i64 (((i : Nat) : Int)))) rfl ?_)
       exact ⟨hE, rfl⟩
      refine ⟨.det (fun val => (pof l ((((i : Nat) : Int) : Int).toNat * 6))), ⟨fun _ _ hv => rfl, fun _ _ _ _ _ => trivial⟩, fun val h_ W hx he => ⟨⟨33, rfl, rfl⟩, ?_⟩, ?_⟩
      ·replace hx := (Upd.drew _ _).trans hx
       replace hl := hl.ext hx
       replace hm := hm.ext hx
       have hE := Upd.refl (fun _ => False) W
       refine id (X_idx (v := l) (n := es.length) (k := .i64) (i := ((i : Nat) : Int)) S22 rfl hl.sv rfl (by omega) (by omega) ?_)
       exact ⟨hE, rfl⟩
      refine ⟨.det (fun val => (pof l ((((i : Nat) : Int) : Int).toNat * 6 + 1))), ⟨fun _ _ hv => rfl, fun _ _ _ _ _ => trivial⟩, fun val h_ W hx he => ⟨⟨33, rfl, rfl⟩, ?_⟩, ?_⟩
      ·replace hx := (Upd.drew _ _).trans hx
       replace hl := hl.ext hx
       replace hm := hm.ext hx
       have hE := Upd.refl (fun _ => False) W
       refine id (X_fldS (v := l) (o := (((i : Nat) : Int) : Int).toNat * 6) Fd44_1 rfl hl.sv (by omega) ?_)
       exact ⟨hE, rfl⟩
      refine ⟨.det (fun val => (.agg (ptC a.2.2).toArray)), ⟨fun _ _ hv => rfl, fun _ _ _ _ _ => trivial⟩, fun val h_ W hx he => ⟨⟨33, rfl, rfl⟩, ?_⟩, ?_⟩
      ·replace hx := (Upd.drew _ _).trans hx
       replace hl := hl.ext hx
       replace hm := hm.ext hx
       have hE := Upd.refl (fun _ => False) W
       refine id (X_loadA (xs := ptC a.2.2) A41 rfl (kptr hl (Int.toNat_natCast _) hai) rfl ?_)
       exact ⟨hE, rfl⟩
      refine ⟨.det (fun val => m), ⟨fun _ _ hv => rfl, fun _ _ _ _ _ => trivial⟩, fun val h_ W hx he => ⟨⟨33, rfl, rfl⟩, ?_⟩, ?_⟩
      ·replace hx := (Upd.drew _ _).trans hx
       replace hl := hl.ext hx
       replace hm := hm.ext hx
       have hE := Upd.refl (fun _ => False) W
       refine id (X_move (v := m) rfl ?_)
       exact ⟨hE, rfl⟩
      refine ⟨.det (fun val => (.int .i64 (((i : Nat) : Int)))), ⟨fun _ _ hv => rfl, fun _ _ _ _ _ => trivial⟩, fun val h_ W hx he => ⟨⟨33, rfl, rfl⟩, ?_⟩, ?_⟩
      ·replace hx := (Upd.drew _ _).trans hx
       replace hl := hl.ext hx
       replace hm := hm.ext hx
       have hE := Upd.refl (fun _ => False) W
       refine id (X_move (v := (.int .i64 (((i : Nat) : Int)))) rfl ?_)
       exact ⟨hE, rfl⟩
      refine ⟨.det (fun val => (pof m ((((i : Nat) : Int) : Int).toNat * 6))), ⟨fun _ _ hv => rfl, fun _ _ _ _ _ => trivial⟩, fun val h_ W hx he => ⟨⟨33, rfl, rfl⟩, ?_⟩, ?_⟩
      ·replace hx := (Upd.drew _ _).trans hx
       replace hl := hl.ext hx
       replace hm := hm.ext hx
       have hE := Upd.refl (fun _ => False) W
       refine id (X_idx (v := m) (n := fs.length) (k := .i64) (i := ((i : Nat) : Int)) S22 rfl hm.sv rfl (by omega) (by omega) ?_)
       exact ⟨hE, rfl⟩
      refine ⟨.det (fun val => (pof m ((((i : Nat) : Int) : Int).toNat * 6 + 1))), ⟨fun _ _ hv => rfl, fun _ _ _ _ _ => trivial⟩, fun val h_ W hx he => ⟨⟨33, rfl, rfl⟩, ?_⟩, ?_⟩
      ·replace hx := (Upd.drew _ _).trans hx
       replace hl := hl.ext hx
       replace hm := hm.ext hx
       have hE := Upd.refl (fun _ => False) W
       refine id (X_fldS (v := m) (o := (((i : Nat) : Int) : Int).toNat * 6) Fd44_1 rfl hm.sv (by omega) ?_)
       exact ⟨hE, rfl⟩
      refine ⟨.det (fun val => (.agg (ptC b.2.2).toArray)), ⟨fun _ _ hv => rfl, fun _ _ _ _ _ => trivial⟩, fun val h_ W hx he => ⟨⟨33, rfl, rfl⟩, ?_⟩, ?_⟩
      ·replace hx := (Upd.drew _ _).trans hx
       replace hl := hl.ext hx
       replace hm := hm.ext hx
       have hE := Upd.refl (fun _ => False) W
       refine id (X_loadA (xs := ptC b.2.2) A41 rfl (kptr hm (Int.toNat_natCast _) hbi) rfl ?_)
       exact ⟨hE, rfl⟩
      intro val W19 hx19 he19
      replace hx19 := (Upd.drew _ _).trans hx19
      have hz19 := hx19.size
      replace hl := hl.ext hx19
      replace hm := hm.ext hx19
      replace hE := hE.trans (Ext.upd hx19)
      refine L_gy (dj := 33) rfl rfl rfl (X_eqP (p := a.2.2) (q := b.2.2) (r := true) Tryd.underlying41 u28 (by kernel_rfl) (by decide) ⟨rfl, rfl, rfl, rfl⟩ Tryd.underlying5 Tryd.underlying38 (by kernel_rfl) Tryd.underlying37 (ie := _) rfl (by kernel_rfl) Tryd.underlying35 Tryd.underlying39 (by kernel_rfl) rfl rfl (.inl ⟨rfl, hs18⟩) ?_)
      refine L_op rfl (X_pick (t := true) (v := (.bool (true))) rfl rfl ?_)
      refine L_op rfl (X_assign (v := (.bool (true))) rfl ?_)
      refine L_nil ?_
      refine B_n ?_
      refine T_n ?_
      refine W_reg ?_
      refine L_op rfl (X_move (v := (.int .i64 (((i : Nat) : Int)))) rfl ?_)
      refine L_op rfl (X_arith (k := .i64) (a := ((i : Nat) : Int)) (b := 1) (r := ((i + 1 : Nat) : Int)) rfl rfl rfl (iadd64 (by omega) (by omega) (by omega)) ?_)
      refine L_op rfl (X_assign (v := (.int .i64 (((i + 1 : Nat) : Int)))) rfl ?_)
      refine L_nil ?_
      refine T_n ?_
      exact ⟨rfl, (i + 1, true), ⟨⟨hi, fun _ => ⟨hlen, same_step hai hbi hz (same_kid (by simpa [scmp] using hs17) (by simpa using hs18))⟩, fun h => (by cases h), hl, hm, hE⟩, (by show (if true = true then 1 else 0) + (es.length - (i + 1)) < 1 + (es.length - i); split <;> omega)⟩, (Out.mk rfl), ⟨rfl, rfl, trivial⟩⟩
     ·refine W_draw 24 [[], [], [0, 1], [0, 1, 2], [0, 1, 2, 3], [0, 1, 2, 3, 4], [], [], [6, 7], [6, 7, 8], [6, 7, 8, 9], [6, 7, 8, 9, 10], [0, 1, 2, 3, 4, 5, 6, 7, 8, 9, 10, 11], [0, 1, 2, 3, 4, 5, 6, 7, 8, 9, 10, 11, 12], [0, 1, 2, 3, 4, 5, 6, 7, 8, 9, 10, 11, 12, 13], [0, 1, 2, 3, 4, 5, 6, 7, 8, 9, 10, 11, 12, 13], [0, 1, 2, 3, 4, 5, 6, 7, 8, 9, 10, 11, 12, 13, 14, 15], [0, 1, 2, 3, 4, 5, 6, 7, 8, 9, 10, 11, 12, 13, 14, 15, 16], [0, 1, 2, 3, 4, 5, 6, 7, 8, 9, 10, 11, 12, 13, 14, 15, 16, 17], [0, 1, 2, 3, 4, 5, 6, 7, 8, 9, 10, 11, 12, 13], [0, 1, 2, 3, 4, 5, 6, 7, 8, 9, 10, 11, 12, 13], [0, 1, 2, 3, 4, 5, 6, 7, 8, 9, 10, 11, 12, 13, 19, 20], [0, 1, 2, 3, 4, 5, 6, 7, 8, 9, 10, 11, 12, 13, 19, 20, 21], [0, 1, 2, 3, 4, 5, 6, 7, 8, 9, 10, 11, 12, 13, 19, 20, 21, 22], [0, 1, 2, 3, 4, 5, 6, 7, 8, 9, 10, 11, 12, 13, 14, 15, 16, 17, 18, 19, 20, 21, 22, 23], [0, 1, 2, 3, 4, 5, 6, 7, 8, 9, 10, 11, 12, 13, 14, 15, 16, 17, 18, 19, 20, 21, 22, 23, 24], [0, 1, 2, 3, 4, 5, 6, 7, 8, 9, 10, 11, 12, 13, 14, 15, 16, 17, 18, 19, 20, 21, 22, 23, 24, 25]] mixed (by kernel_rfl) ?_
      refine ⟨.det (fun val => l), ⟨fun _ _ hv => rfl, fun _ _ _ _ _ => trivial⟩, fun val h_ W hx he => ⟨trivial, ?_⟩, ?_⟩
      ·replace hx := (Upd.drew _ _).trans hx
       replace hl := hl.ext hx
       replace hm := hm.ext hx
       have hE := Upd.refl (fun _ => False) W
       refine id (X_move (v := l) rfl ?_)
       exact ⟨hE, rfl⟩
      refine ⟨.det (fun val => (.int .i64 (((i : Nat) : Int)))), ⟨fun _ _ hv => rfl, fun _ _ _ _ _ => trivial⟩, fun val h_ W hx he => ⟨trivial, ?_⟩, ?_⟩
      ·replace hx := (Upd.drew _ _).trans hx
       replace hl := hl.ext hx
       replace hm := hm.ext hx
       have hE := Upd.refl (fun _ => False) W
       refine id (X_move (v := (.int .i64 (((i : Nat) : Int)))) rfl ?_)
       exact ⟨hE, rfl⟩
      refine ⟨.det (fun val => (pof l ((((i : Nat) : Int) : Int).toNat * 6))), ⟨fun _ _ hv => rfl, fun _ _ _ _ _ => trivial⟩, fun val h_ W hx he => ⟨trivial, ?_⟩, ?_⟩
      ·replace hx := (Upd.drew _ _).trans hx
       replace hl := hl.ext hx
       replace hm := hm.ext hx
       have hE := Upd.refl (fun _ => False) W
       refine id (X_idx (v := l) (n := es.length) (k := .i64) (i := ((i : Nat) : Int)) S22 rfl hl.sv rfl (by omega) (by omega) ?_)
       exact ⟨hE, rfl⟩
      refine ⟨.det (fun val => (pof l ((((i : Nat) : Int) : Int).toNat * 6 + 0))), ⟨fun _ _ hv => rfl, fun _ _ _ _ _ => trivial⟩, fun val h_ W hx he => ⟨trivial, ?_⟩, ?_⟩
      ·replace hx := (Upd.drew _ _).trans hx
       replace hl := hl.ext hx
       replace hm := hm.ext hx
       have hE := Upd.refl (fun _ => False) W
       refine id (X_fldS (v := l) (o := (((i : Nat) : Int) : Int).toNat * 6) Fd44_0 rfl hl.sv (by omega) ?_)
       exact ⟨hE, rfl⟩
      refine ⟨.det (fun val => a.1), ⟨fun _ _ hv => rfl, fun _ _ _ _ _ => trivial⟩, fun val h_ W hx he => ⟨trivial, ?_⟩, ?_⟩
      ·replace hx := (Upd.drew _ _).trans hx
       replace hl := hl.ext hx
       replace hm := hm.ext hx
       have hE := Upd.refl (fun _ => False) W
       refine id (X_load (v := a.1) T42 rfl (kkey hl (Int.toNat_natCast _) hai) ?_)
       exact ⟨hE, rfl⟩
      refine ⟨.det (fun val => (strV (a.2.1))), ⟨fun _ _ hv => rfl, fun _ _ _ _ _ => trivial⟩, fun val h_ W hx he => ⟨trivial, ?_⟩, ?_⟩
      ·replace hx := (Upd.drew _ _).trans hx
       replace hl := hl.ext hx
       replace hm := hm.ext hx
       have hE := Upd.refl (fun _ => False) W
       refine id (X_str (v := a.1) (l := a.2.1) Tryd.underlying42 Tryd.underlying5 Tryd.underlying9 rfl (krd hl hai) ?_)
       exact ⟨hE, rfl⟩
      refine ⟨.det (fun val => m), ⟨fun _ _ hv => rfl, fun _ _ _ _ _ => trivial⟩, fun val h_ W hx he => ⟨trivial, ?_⟩, ?_⟩
      ·replace hx := (Upd.drew _ _).trans hx
       replace hl := hl.ext hx
       replace hm := hm.ext hx
       have hE := Upd.refl (fun _ => False) W
       refine id (X_move (v := m) rfl ?_)
       exact ⟨hE, rfl⟩
      refine ⟨.det (fun val => (.int .i64 (((i : Nat) : Int)))), ⟨fun _ _ hv => rfl, fun _ _ _ _ _ => trivial⟩, fun val h_ W hx he => ⟨trivial, ?_⟩, ?_⟩
      ·replace hx := (Upd.drew _ _).trans hx
       replace hl := hl.ext hx
       replace hm := hm.ext hx
       have hE := Upd.refl (fun _ => False) W
       refine id (X_move (v := (.int .i64 (((i : Nat) : Int)))) rfl ?_)
       exact ⟨hE, rfl⟩
      refine ⟨.det (fun val => (pof m ((((i : Nat) : Int) : Int).toNat * 6))), ⟨fun _ _ hv => rfl, fun _ _ _ _ _ => trivial⟩, fun val h_ W hx he => ⟨trivial, ?_⟩, ?_⟩
      ·replace hx := (Upd.drew _ _).trans hx
       replace hl := hl.ext hx
       replace hm := hm.ext hx
       have hE := Upd.refl (fun _ => False) W
       refine id (X_idx (v := m) (n := fs.length) (k := .i64) (i := ((i : Nat) : Int)) S22 rfl hm.sv rfl (by omega) (by omega) ?_)
       exact ⟨hE, rfl⟩
      refine ⟨.det (fun val => (pof m ((((i : Nat) : Int) : Int).toNat * 6 + 0))), ⟨fun _ _ hv => rfl, fun _ _ _ _ _ => trivial⟩, fun val h_ W hx he => ⟨trivial, ?_⟩, ?_⟩
      ·replace hx := (Upd.drew _ _).trans hx
       replace hl := hl.ext hx
       replace hm := hm.ext hx
       have hE := Upd.refl (fun _ => False) W
       refine id (X_fldS (v := m) (o := (((i : Nat) : Int) : Int).toNat * 6) Fd44_0 rfl hm.sv (by omega) ?_)
       exact ⟨hE, rfl⟩
      refine ⟨.det (fun val => b.1), ⟨fun _ _ hv => rfl, fun _ _ _ _ _ => trivial⟩, fun val h_ W hx he => ⟨trivial, ?_⟩, ?_⟩
      ·replace hx := (Upd.drew _ _).trans hx
       replace hl := hl.ext hx
       replace hm := hm.ext hx
       have hE := Upd.refl (fun _ => False) W
       refine id (X_load (v := b.1) T42 rfl (kkey hm (Int.toNat_natCast _) hbi) ?_)
       exact ⟨hE, rfl⟩
      refine ⟨.det (fun val => (strV (b.2.1))), ⟨fun _ _ hv => rfl, fun _ _ _ _ _ => trivial⟩, fun val h_ W hx he => ⟨trivial, ?_⟩, ?_⟩
      ·replace hx := (Upd.drew _ _).trans hx
       replace hl := hl.ext hx
       replace hm := hm.ext hx
       have hE := Upd.refl (fun _ => False) W
       refine id (X_str (v := b.1) (l := b.2.1) Tryd.underlying42 Tryd.underlying5 Tryd.underlying9 rfl (krd hm hbi) ?_)
       exact ⟨hE, rfl⟩
      refine ⟨.det (fun val => (.bool (true))), ⟨fun _ _ hv => rfl, fun _ _ _ _ _ => trivial⟩, fun val h_ W hx he => ⟨trivial, ?_⟩, ?_⟩
      ·replace hx := (Upd.drew _ _).trans hx
       replace hl := hl.ext hx
       replace hm := hm.ext hx
       have hE := Upd.refl (fun _ => False) W
       refine id (X_scmp (a := a.2.1) (b := b.2.1) (r := true) rfl rfl rfl hs17 ?_)
       exact ⟨hE, rfl⟩
      refine ⟨.det (fun val => (.bool (true))), ⟨fun _ _ hv => rfl, fun _ _ _ _ _ => trivial⟩, fun val h_ W hx he => ⟨trivial, ?_⟩, ?_⟩
      ·replace hx := (Upd.drew _ _).trans hx
       replace hl := hl.ext hx
       replace hm := hm.ext hx
       have hE := Upd.refl (fun _ => False) W
       refine id (X_move (v := (.bool (true))) rfl ?_)
       exact ⟨hE, rfl⟩
      refine ⟨.det (fun val => l), ⟨fun _ _ hv => rfl, fun _ _ _ _ _ => trivial⟩, fun val h_ W hx he => ⟨⟨33, rfl, rfl⟩, ?_⟩, ?_⟩
      ·replace hx := (Upd.drew _ _).trans hx
       replace hl := hl.ext hx
       replace hm := hm.ext hx
       have hE := Upd.refl (fun _ => False) W
       refine id (X_move (v := l) rfl ?_)
       exact ⟨hE, rfl⟩
      refine ⟨.det (fun val => (.int .i64 (((i : Nat) : Int)))), ⟨fun _ _ hv => rfl, fun _ _ _ _ _ => trivial⟩, fun val h_ W hx he => ⟨⟨33, rfl, rfl⟩, ?_⟩, ?_⟩
      ·replace hx := (Upd.drew _ _).trans hx
       replace hl := hl.ext hx
       replace hm := hm.ext hx
       have hE := Upd.refl (fun _ => False) W
       refine id (X_move (v := (.int .i64 (((i : Nat) : Int)))) rfl ?_)
       exact ⟨hE, rfl⟩
      refine ⟨.det (fun val => (pof l ((((i : Nat) : Int) : Int).toNat * 6))), ⟨fun _ _ hv => rfl, fun _ _ _ _ _ => trivial⟩, fun val h_ W hx he => ⟨⟨33, rfl, rfl⟩, ?_⟩, ?_⟩
      ·replace hx := (Upd.drew _ _).trans hx
       replace hl := hl.ext hx
       replace hm := hm.ext hx
       have hE := Upd.refl (fun _ => False) W
       refine id (X_idx (v := l) (n := es.length) (k := .i64) (i := ((i : Nat) : Int)) S22 rfl hl.sv rfl (by omega) (by omega) ?_)
       exact ⟨hE, rfl⟩
      refine ⟨.det (fun val => (pof l ((((i : Nat) : Int) : Int).toNat * 6 + 1))), ⟨fun _ _ hv => rfl, fun _ _ _ _ _ => trivial⟩, fun val h_ W hx he => ⟨⟨33, rfl, rfl⟩, ?_⟩, ?_⟩
      ·replace hx := (Upd.drew _ _).trans hx
       replace hl := hl.ext hx
       replace hm := hm.ext hx
       have hE := Upd.refl (fun _ => False) W
       refine id (X_fldS (v := l) (o := (((i : Nat) : Int) : Int).toNat * 6) Fd44_1 rfl hl.sv (by omega) ?_)
       exact ⟨hE, rfl⟩
      refine ⟨.det (fun val => (.agg (ptC a.2.2).toArray)), ⟨fun _ _ hv => rfl, fun _ _ _ _ _ => trivial⟩, fun val h_ W hx he => ⟨⟨33, rfl, rfl⟩, ?_⟩, ?_⟩
      ·replace hx := (Upd.drew _ _).trans hx
       replace hl := hl.ext hx
       replace hm := hm.ext hx
       have hE := Upd.refl (fun _ => False) W
       refine id (X_loadA (xs := ptC a.2.2) A41 rfl (kptr hl (Int.toNat_natCast _) hai) rfl ?_)
       exact ⟨hE, rfl⟩
      refine ⟨.det (fun val => m), ⟨fun _ _ hv => rfl, fun _ _ _ _ _ => trivial⟩, fun val h_ W hx he => ⟨⟨33, rfl, rfl⟩, ?_⟩, ?_⟩
      ·replace hx := (Upd.drew _ _).trans hx
       replace hl := hl.ext hx
       replace hm := hm.ext hx
       have hE := Upd.refl (fun _ => False) W
       refine id (X_move (v := m) rfl ?_)
       exact ⟨hE, rfl⟩
      refine ⟨.det (fun val => (.int .i64 (((i : Nat) : Int)))), ⟨fun _ _ hv => rfl, fun _ _ _ _ _ => trivial⟩, fun val h_ W hx he => ⟨⟨33, rfl, rfl⟩, ?_⟩, ?_⟩
      ·replace hx := (Upd.drew _ _).trans hx
       replace hl := hl.ext hx
       replace hm := hm.ext hx
       have hE := Upd.refl (fun _ => False) W
       refine id (X_move (v := (.int .i64 (((i : Nat) : Int)))) rfl ?_)
       exact ⟨hE, rfl⟩
      refine ⟨.det (fun val => (pof m ((((i : Nat) : Int) : Int).toNat * 6))), ⟨fun _ _ hv => rfl, fun _ _ _ _ _ => trivial⟩, fun val h_ W hx he => ⟨⟨33, rfl, rfl⟩, ?_⟩, ?_⟩
      ·replace hx := (Upd.drew _ _).trans hx
       replace hl := hl.ext hx
       replace hm := hm.ext hx
       have hE := Upd.refl (fun _ => False) W
       refine id (X_idx (v := m) (n := fs.length) (k := .i64) (i := ((i : Nat) : Int)) S22 rfl hm.sv rfl (by omega) (by omega) ?_)
       exact ⟨hE, rfl⟩
      refine ⟨.det (fun val => (pof m ((((i : Nat) : Int) : Int).toNat * 6 + 1))), ⟨fun _ _ hv => rfl, fun _ _ _ _ _ => trivial⟩, fun val h_ W hx he => ⟨⟨33, rfl, rfl⟩, ?_⟩, ?_⟩
      ·replace hx := (Upd.drew _ _).trans hx
       replace hl := hl.ext hx
       replace hm := hm.ext hx
       have hE := Upd.refl (fun _ => False) W
       refine id (X_fldS (v := m) (o := (((i : Nat) : Int) : Int).toNat * 6) Fd44_1 rfl hm.sv (by omega) ?_)
       exact ⟨hE, rfl⟩
      refine ⟨.det (fun val => (.agg (ptC b.2.2).toArray)), ⟨fun _ _ hv => rfl, fun _ _ _ _ _ => trivial⟩, fun val h_ W hx he => ⟨⟨33, rfl, rfl⟩, ?_⟩, ?_⟩
      ·replace hx := (Upd.drew _ _).trans hx
       replace hl := hl.ext hx
       replace hm := hm.ext hx
       have hE := Upd.refl (fun _ => False) W
       refine id (X_loadA (xs := ptC b.2.2) A41 rfl (kptr hm (Int.toNat_natCast _) hbi) rfl ?_)
       exact ⟨hE, rfl⟩
      intro val W22 hx22 he22
      replace hx22 := (Upd.drew _ _).trans hx22
      have hz22 := hx22.size
      replace hl := hl.ext hx22
      replace hm := hm.ext hx22
      replace hE := hE.trans (Ext.upd hx22)
      refine L_gy (dj := 33) rfl rfl rfl (X_eqP (p := a.2.2) (q := b.2.2) (r := false) Tryd.underlying41 u28 (by kernel_rfl) (by decide) ⟨rfl, rfl, rfl, rfl⟩ Tryd.underlying5 Tryd.underlying38 (by kernel_rfl) Tryd.underlying37 (ie := _) rfl (by kernel_rfl) Tryd.underlying35 Tryd.underlying39 (by kernel_rfl) rfl rfl (.inl ⟨rfl, hs18⟩) ?_)
      refine L_op rfl (X_pick (t := true) (v := (.bool (false))) rfl rfl ?_)
      refine L_op rfl (X_assign (v := (.bool (false))) rfl ?_)
      refine L_nil ?_
      refine B_n ?_
      refine T_n ?_
      refine W_reg ?_
      refine L_op rfl (X_move (v := (.int .i64 (((i : Nat) : Int)))) rfl ?_)
      refine L_op rfl (X_arith (k := .i64) (a := ((i : Nat) : Int)) (b := 1) (r := ((i + 1 : Nat) : Int)) rfl rfl rfl (iadd64 (by omega) (by omega) (by omega)) ?_)
      refine L_op rfl (X_assign (v := (.int .i64 (((i + 1 : Nat) : Int)))) rfl ?_)
      refine L_nil ?_
      refine T_n ?_
      exact ⟨rfl, (i + 1, false), ⟨⟨hi, fun h => (by cases h), fun _ h => (by have h2 := same_no hai hbi h; exact ne_of_beq_false hs18 (by rw [h2])), hl, hm, hE⟩, (by show (if false = true then 1 else 0) + (es.length - (i + 1)) < 1 + (es.length - i); split <;> omega)⟩, (Out.mk rfl), ⟨rfl, rfl, trivial⟩⟩
    ·refine W_draw 24 [[], [], [0, 1], [0, 1, 2], [0, 1, 2, 3], [0, 1, 2, 3, 4], [], [], [6, 7], [6, 7, 8], [6, 7, 8, 9], [6, 7, 8, 9, 10], [0, 1, 2, 3, 4, 5, 6, 7, 8, 9, 10, 11], [0, 1, 2, 3, 4, 5, 6, 7, 8, 9, 10, 11, 12], [0, 1, 2, 3, 4, 5, 6, 7, 8, 9, 10, 11, 12, 13], [0, 1, 2, 3, 4, 5, 6, 7, 8, 9, 10, 11, 12, 13], [0, 1, 2, 3, 4, 5, 6, 7, 8, 9, 10, 11, 12, 13, 14, 15], [0, 1, 2, 3, 4, 5, 6, 7, 8, 9, 10, 11, 12, 13, 14, 15, 16], [0, 1, 2, 3, 4, 5, 6, 7, 8, 9, 10, 11, 12, 13, 14, 15, 16, 17], [0, 1, 2, 3, 4, 5, 6, 7, 8, 9, 10, 11, 12, 13], [0, 1, 2, 3, 4, 5, 6, 7, 8, 9, 10, 11, 12, 13], [0, 1, 2, 3, 4, 5, 6, 7, 8, 9, 10, 11, 12, 13, 19, 20], [0, 1, 2, 3, 4, 5, 6, 7, 8, 9, 10, 11, 12, 13, 19, 20, 21], [0, 1, 2, 3, 4, 5, 6, 7, 8, 9, 10, 11, 12, 13, 19, 20, 21, 22], [0, 1, 2, 3, 4, 5, 6, 7, 8, 9, 10, 11, 12, 13, 14, 15, 16, 17, 18, 19, 20, 21, 22, 23], [0, 1, 2, 3, 4, 5, 6, 7, 8, 9, 10, 11, 12, 13, 14, 15, 16, 17, 18, 19, 20, 21, 22, 23, 24], [0, 1, 2, 3, 4, 5, 6, 7, 8, 9, 10, 11, 12, 13, 14, 15, 16, 17, 18, 19, 20, 21, 22, 23, 24, 25]] mixed (by kernel_rfl) ?_
     refine ⟨.det (fun val => l), ⟨fun _ _ hv => rfl, fun _ _ _ _ _ => trivial⟩, fun val h_ W hx he => ⟨trivial, ?_⟩, ?_⟩
     ·replace hx := (Upd.drew _ _).trans hx
      replace hl := hl.ext hx
      replace hm := hm.ext hx
      have hE := Upd.refl (fun _ => False) W
      refine id (X_move (v := l) rfl ?_)
      exact ⟨hE, rfl⟩
     refine ⟨.det (fun val => (.int .i64 (((i : Nat) : Int)))), ⟨fun _ _ hv => rfl, fun _ _ _ _ _ => trivial⟩, fun val h_ W hx he => ⟨trivial, ?_⟩, ?_⟩
     ·replace hx := (Upd.drew _ _).trans hx
      replace hl := hl.ext hx
      replace hm := hm.ext hx
      have hE := Upd.refl (fun _ => False) W
      refine id (X_move (v := (.int .i64 (((i : Nat) : Int)))) rfl ?_)
      exact ⟨hE, rfl⟩
     refine ⟨.det (fun val => (pof l ((((i : Nat) : Int) : Int).toNat * 6))), ⟨fun _ _ hv => rfl, fun _ _ _ _ _ => trivial⟩, fun val h_ W hx he => ⟨trivial, ?_⟩, ?_⟩
     ·replace hx := (Upd.drew _ _).trans hx
      replace hl := hl.ext hx
      replace hm := hm.ext hx
      have hE := Upd.refl (fun _ => False) W
      refine id (X_idx (v := l) (n := es.length) (k := .i64) (i := ((i : Nat) : Int)) S22 rfl hl.sv rfl (by omega) (by omega) ?_)
      exact ⟨hE, rfl⟩
     refine ⟨.det (fun val => (pof l ((((i : Nat) : Int) : Int).toNat * 6 + 0))), ⟨fun _ _ hv => rfl, fun _ _ _ _ _ => trivial⟩, fun val h_ W hx he => ⟨trivial, ?_⟩, ?_⟩
     ·replace hx := (Upd.drew _ _).trans hx
      replace hl := hl.ext hx
      replace hm := hm.ext hx
      have hE := Upd.refl (fun _ => False) W
      refine id (X_fldS (v := l) (o := (((i : Nat) : Int) : Int).toNat * 6) Fd44_0 rfl hl.sv (by omega) ?_)
      exact ⟨hE, rfl⟩
     refine ⟨.det (fun val => a.1), ⟨fun _ _ hv => rfl, fun _ _ _ _ _ => trivial⟩, fun val h_ W hx he => ⟨trivial, ?_⟩, ?_⟩
     ·replace hx := (Upd.drew _ _).trans hx
      replace hl := hl.ext hx
      replace hm := hm.ext hx
      have hE := Upd.refl (fun _ => False) W
      refine id (X_load (v := a.1) T42 rfl (kkey hl (Int.toNat_natCast _) hai) ?_)
      exact ⟨hE, rfl⟩
     refine ⟨.det (fun val => (strV (a.2.1))), ⟨fun _ _ hv => rfl, fun _ _ _ _ _ => trivial⟩, fun val h_ W hx he => ⟨trivial, ?_⟩, ?_⟩
     ·replace hx := (Upd.drew _ _).trans hx
      replace hl := hl.ext hx
      replace hm := hm.ext hx
      have hE := Upd.refl (fun _ => False) W
      refine id (X_str (v := a.1) (l := a.2.1) Tryd.underlying42 Tryd.underlying5 Tryd.underlying9 rfl (krd hl hai) ?_)
      exact ⟨hE, rfl⟩
     refine ⟨.det (fun val => m), ⟨fun _ _ hv => rfl, fun _ _ _ _ _ => trivial⟩, fun val h_ W hx he => ⟨trivial, ?_⟩, ?_⟩
     ·replace hx := (Upd.drew _ _).trans hx
      replace hl := hl.ext hx
      replace hm := hm.ext hx
      have hE := Upd.refl (fun _ => False) W
      refine id (X_move (v := m) rfl ?_)
      exact ⟨hE, rfl⟩
     refine ⟨.det (fun val => (.int .i64 (((i : Nat) : Int)))), ⟨fun _ _ hv => rfl, fun _ _ _ _ _ => trivial⟩, fun val h_ W hx he => ⟨trivial, ?_⟩, ?_⟩
     ·replace hx := (Upd.drew _ _).trans hx
      replace hl := hl.ext hx
      replace hm := hm.ext hx
      have hE := Upd.refl (fun _ => False) W
      refine id (X_move (v := (.int .i64 (((i : Nat) : Int)))) rfl ?_)
      exact ⟨hE, rfl⟩
     refine ⟨.det (fun val => (pof m ((((i : Nat) : Int) : Int).toNat * 6))), ⟨fun _ _ hv => rfl, fun _ _ _ _ _ => trivial⟩, fun val h_ W hx he => ⟨trivial, ?_⟩, ?_⟩
     ·replace hx := (Upd.drew _ _).trans hx
      replace hl := hl.ext hx
      replace hm := hm.ext hx
      have hE := Upd.refl (fun _ => False) W
      refine id (X_idx (v := m) (n := fs.length) (k := .i64) (i := ((i : Nat) : Int)) S22 rfl hm.sv rfl (by omega) (by omega) ?_)
      exact ⟨hE, rfl⟩
     refine ⟨.det (fun val => (pof m ((((i : Nat) : Int) : Int).toNat * 6 + 0))), ⟨fun _ _ hv => rfl, fun _ _ _ _ _ => trivial⟩, fun val h_ W hx he => ⟨trivial, ?_⟩, ?_⟩
     ·replace hx := (Upd.drew _ _).trans hx
      replace hl := hl.ext hx
      replace hm := hm.ext hx
      have hE := Upd.refl (fun _ => False) W
      refine id (X_fldS (v := m) (o := (((i : Nat) : Int) : Int).toNat * 6) Fd44_0 rfl hm.sv (by omega) ?_)
      exact ⟨hE, rfl⟩
     refine ⟨.det (fun val => b.1), ⟨fun _ _ hv => rfl, fun _ _ _ _ _ => trivial⟩, fun val h_ W hx he => ⟨trivial, ?_⟩, ?_⟩
     ·replace hx := (Upd.drew _ _).trans hx
      replace hl := hl.ext hx
      replace hm := hm.ext hx
      have hE := Upd.refl (fun _ => False) W
      refine id (X_load (v := b.1) T42 rfl (kkey hm (Int.toNat_natCast _) hbi) ?_)
      exact ⟨hE, rfl⟩
     refine ⟨.det (fun val => (strV (b.2.1))), ⟨fun _ _ hv => rfl, fun _ _ _ _ _ => trivial⟩, fun val h_ W hx he => ⟨trivial, ?_⟩, ?_⟩
     ·replace hx := (Upd.drew _ _).trans hx
      replace hl := hl.ext hx
      replace hm := hm.ext hx
      have hE := Upd.refl (fun _ => False) W
      refine id (X_str (v := b.1) (l := b.2.1) Tryd.underlying42 Tryd.underlying5 Tryd.underlying9 rfl (krd hm hbi) ?_)
      exact ⟨hE, rfl⟩
     refine ⟨.det (fun val => (.bool (false))), ⟨fun _ _ hv => rfl, fun _ _ _ _ _ => trivial⟩, fun val h_ W hx he => ⟨trivial, ?_⟩, ?_⟩
     ·replace hx := (Upd.drew _ _).trans hx
      replace hl := hl.ext hx
      replace hm := hm.ext hx
      have hE := Upd.refl (fun _ => False) W
      refine id (X_scmp (a := a.2.1) (b := b.2.1) (r := false) rfl rfl rfl hs17 ?_)
      exact ⟨hE, rfl⟩
     refine ⟨.det (fun val => (.bool (false))), ⟨fun _ _ hv => rfl, fun _ _ _ _ _ => trivial⟩, fun val h_ W hx he => ⟨trivial, ?_⟩, ?_⟩
     ·replace hx := (Upd.drew _ _).trans hx
      replace hl := hl.ext hx
      replace hm := hm.ext hx
      have hE := Upd.refl (fun _ => False) W
      refine id (X_move (v := (.bool (false))) rfl ?_)
      exact ⟨hE, rfl⟩
     refine ⟨.no, ⟨fun _ _ _ => trivial, fun _ _ _ _ _ => trivial⟩, fun val h_ W hx he => ⟨33, rfl, .inl rfl⟩, ?_⟩
     refine ⟨.no, ⟨fun _ _ _ => trivial, fun _ _ _ _ _ => trivial⟩, fun val h_ W hx he => ⟨33, rfl, .inl rfl⟩, ?_⟩
     refine ⟨.no, ⟨fun _ _ _ => trivial, fun _ _ _ _ _ => trivial⟩, fun val h_ W hx he => ⟨33, rfl, .inl rfl⟩, ?_⟩
     refine ⟨.no, ⟨fun _ _ _ => trivial, fun _ _ _ _ _ => trivial⟩, fun val h_ W hx he => ⟨33, rfl, .inl rfl⟩, ?_⟩
     refine ⟨.no, ⟨fun _ _ _ => trivial, fun _ _ _ _ _ => trivial⟩, fun val h_ W hx he => ⟨33, rfl, .inl rfl⟩, ?_⟩
     refine ⟨.no, ⟨fun _ _ _ => trivial, fun _ _ _ _ _ => trivial⟩, fun val h_ W hx he => ⟨33, rfl, .inl rfl⟩, ?_⟩
     refine ⟨.no, ⟨fun _ _ _ => trivial, fun _ _ _ _ _ => trivial⟩, fun val h_ W hx he => ⟨33, rfl, .inl rfl⟩, ?_⟩
     refine ⟨.no, ⟨fun _ _ _ => trivial, fun _ _ _ _ _ => trivial⟩, fun val h_ W hx he => ⟨33, rfl, .inl rfl⟩, ?_⟩
     refine ⟨.no, ⟨fun _ _ _ => trivial, fun _ _ _ _ _ => trivial⟩, fun val h_ W hx he => ⟨33, rfl, .inl rfl⟩, ?_⟩
     refine ⟨.no, ⟨fun _ _ _ => trivial, fun _ _ _ _ _ => trivial⟩, fun val h_ W hx he => ⟨33, rfl, .inl rfl⟩, ?_⟩
     intro val W25 hx25 he25
     replace hx25 := (Upd.drew _ _).trans hx25
     have hz25 := hx25.size
     replace hl := hl.ext hx25
     replace hm := hm.ext hx25
     replace hE := hE.trans (Ext.upd hx25)
     refine L_gn (dj := 33) (t := false) rfl rfl rfl rfl ?_
     refine L_op rfl (X_pick (t := false) (v := (.bool (false))) rfl rfl ?_)
     refine L_op rfl (X_assign (v := (.bool (false))) rfl ?_)
     refine L_nil ?_
     refine B_n ?_
     refine T_n ?_
     refine W_reg ?_
     refine L_op rfl (X_move (v := (.int .i64 (((i : Nat) : Int)))) rfl ?_)
     refine L_op rfl (X_arith (k := .i64) (a := ((i : Nat) : Int)) (b := 1) (r := ((i + 1 : Nat) : Int)) rfl rfl rfl (iadd64 (by omega) (by omega) (by omega)) ?_)
     refine L_op rfl (X_assign (v := (.int .i64 (((i + 1 : Nat) : Int)))) rfl ?_)
     refine L_nil ?_
     refine T_n ?_
     exact ⟨rfl, (i + 1, false), ⟨⟨hi, fun h => (by cases h), fun _ h => (by have h2 := same_no hai hbi h; have h3 := hs17; rw [show a.2.1 = b.2.1 by rw [h2]] at h3; simp [scmp] at h3), hl, hm, hE⟩, (by show (if false = true then 1 else 0) + (es.length - (i + 1)) < 1 + (es.length - i); split <;> omega)⟩, (Out.mk rfl), ⟨rfl, rfl, trivial⟩⟩
   ·refine L_gy (dj := 12) rfl rfl rfl (X_cmp (k := .i64) (a := ((i : Nat) : Int)) (b := ((es.length : Nat) : Int)) (r := false) rfl rfl rfl (decide_eq_false (p := ((((i : Nat) : Int)) : Int) < ((((es.length : Nat) : Int)) : Int)) (by omega)) ?_)
    refine L_op rfl (X_pick (t := true) (v := (.bool (false))) rfl rfl ?_)
    refine L_nil ?_
    refine T_n ?_
    refine W_cf rfl ?_
    refine W_exit ?_
    refine T_e ?_
    refine T_e ?_
    refine B_x ?_
    refine T_n ?_
    refine W_seq ?_
    refine W_reg ?_
    refine L_op rfl (X_move (v := (.bool (true))) rfl ?_)
    refine L_op rfl (X_assign (v := (.bool (true))) rfl ?_)
    refine L_nil ?_
    refine T_n ?_
    refine W_ret ?_
    exact BQ_r (End_1 Tryd.results20 (v := .bool true) rfl ⟨⟨true, rfl, ⟨fun _ => by have h1 := hz; rwa [List.take_of_length_le (by omega), List.take_of_length_le (by omega)] at h1, fun _ => rfl⟩⟩, Ext.upd hE⟩)
  ·refine W_seq ?_
   refine W_seq ?_
   refine W_reg ?_
   refine L_op rfl (X_move (v := (.bool (false))) rfl ?_)
   refine L_op rfl (X_move (v := (.bool (false))) rfl ?_)
   refine L_gn (dj := 12) (t := false) rfl rfl rfl rfl ?_
   refine L_gn (dj := 12) (t := false) rfl rfl rfl rfl ?_
   refine L_gn (dj := 12) (t := false) rfl rfl rfl rfl ?_
   refine L_gn (dj := 12) (t := false) rfl rfl rfl rfl ?_
   refine L_op rfl (X_pick (t := false) (v := (.bool (false))) rfl rfl ?_)
   refine L_nil ?_
   refine T_n ?_
   refine W_cf rfl ?_
   refine W_exit ?_
   refine T_e ?_
   refine T_e ?_
   refine B_x ?_
   refine T_n ?_
   refine W_seq ?_
   refine W_reg ?_
   refine L_op rfl (X_move (v := (.bool (false))) rfl ?_)
   refine L_op rfl (X_assign (v := (.bool (false))) rfl ?_)
   refine L_nil ?_
   refine T_n ?_
   refine W_ret ?_
   exact BQ_r (End_1 Tryd.results20 (v := .bool false) rfl ⟨⟨false, rfl, ⟨fun h => (by cases h), fun h => absurd h (hgf rfl)⟩⟩, Ext.upd hE⟩)

theorem c_birthR (l : Value) (es : List KE) (w : World) (lo up : Nat) (hl : NRd LK w lo up l es) : CT Tryd.prog 21 #[l] w fun v w' => v = .int .u32 (birthK (es.map (·.2))) ∧ w = w' := by
 have hmx := hl.sv.len
 refine CT_of Tryd.func21 rfl rfl rfl ?_
 refine W_seq ?_
 refine W_reg ?_
 refine L_op rfl (X_assign (v := (.int .u32 (0))) rfl ?_)
 refine L_nil ?_
 refine T_n ?_
 refine W_seq ?_
 refine W_reg ?_
 refine L_op rfl (X_assign (v := (.int .u32 (0))) rfl ?_)
 refine L_nil ?_
 refine T_n ?_
 refine W_seq ?_
 refine W_seq ?_
 refine W_reg ?_
 refine L_op rfl (X_assign (v := (.int .i64 (0))) rfl ?_)
 refine L_nil ?_
 refine T_n ?_
 refine W_block ?_
 refine W_loop (α := Nat) [3, 4, 5, 6, 7, 8, 9, 10, 11, 12, 13, 14, 15, 16, 17, 18] (fun i => [(4, (.int .i64 (((i : Nat) : Int)))), (3, (.int .u32 (birthK ((es.take i).map (fun (x : KE) => x.2)))))]) (fun i w_ => w = w_ ∧ i ≤ es.length) (fun i => es.length - i) ⟨rfl, 0, ⟨rfl, Nat.zero_le _⟩, Out.refl _ _, ⟨rfl, rfl, trivial⟩⟩ ?_
 rintro i w1 _ ⟨rfl, hil⟩
 refine W_seq ?_
 refine W_seq ?_
 refine W_reg ?_
 refine L_op rfl (X_move (v := (.int .i64 (((i : Nat) : Int)))) rfl ?_)
 refine L_op rfl (X_move (v := l) rfl ?_)
 refine L_op rfl (X_len (v := l) (n := es.length) Tryd.underlying22 rfl hl.sv ?_)
 by_cases hc2 : (((i : Nat) : Int) : Int) < (((es.length : Nat) : Int))
 ·refine L_op rfl (X_cmp (k := .i64) (a := ((i : Nat) : Int)) (b := ((es.length : Nat) : Int)) (r := true) rfl rfl rfl (decide_eq_true (p := ((((i : Nat) : Int)) : Int) < ((((es.length : Nat) : Int)) : Int)) (by omega)) ?_)
  have hi : i < es.length := by omega
  obtain ⟨e, hei⟩ : ∃ e, es[i]? = some e := ⟨_, List.getElem?_eq_getElem hi⟩
  refine L_nil ?_
  refine T_n ?_
  refine W_ct rfl ?_
  refine W_skip ?_
  refine T_n ?_
  refine W_seq ?_
  refine W_block ?_
  refine W_reg ?_
  refine L_op rfl (X_move (v := (.int .u32 (birthK ((es.take i).map (fun (x : KE) => x.2))))) rfl ?_)
  refine L_op rfl (X_move (v := l) rfl ?_)
  refine L_op rfl (X_move (v := (.int .i64 (((i : Nat) : Int)))) rfl ?_)
  refine L_op rfl (X_idx (v := l) (n := es.length) (k := .i64) (i := ((i : Nat) : Int)) S22 rfl hl.sv rfl (by omega) (by omega) ?_)
  refine L_op rfl (X_fldS (v := l) (o := (((i : Nat) : Int) : Int).toNat * 6) Fd44_1 rfl hl.sv (by omega) ?_)
  refine L_op rfl (X_fldS (v := l) (o := (((i : Nat) : Int) : Int).toNat * 6 + 1) Fd41_2 rfl hl.sv (by omega) ?_)
  refine L_op rfl (X_load (v := .int .u32 e.2.2.2.2.2.1) T35 rfl (show At _ (pof l _) _ from by have h := hl.cell hei (j := 4) rfl; rwa [show i * LK.sz + 4 = ((i : Nat) : Int).toNat * 6 + 1 + 3 by rw [Int.toNat_natCast]; rfl] at h) ?_)
  refine L_op rfl (X_max (k := .u32) (a := birthK ((es.take i).map (fun (x : KE) => x.2))) (b := e.2.2.2.2.2.1) (r := max (birthK ((es.take i).map (fun (x : KE) => x.2))) e.2.2.2.2.2.1) rfl rfl (by omega) ?_)
  refine L_op rfl (X_assign (v := (.int .u32 (max (birthK ((es.take i).map (fun (x : KE) => x.2))) e.2.2.2.2.2.1))) rfl ?_)
  refine L_nil ?_
  refine B_n ?_
  refine T_n ?_
  refine W_reg ?_
  refine L_op rfl (X_move (v := (.int .i64 (((i : Nat) : Int)))) rfl ?_)
  refine L_op rfl (X_arith (k := .i64) (a := ((i : Nat) : Int)) (b := 1) (r := ((i + 1 : Nat) : Int)) rfl rfl rfl (iadd64 (by omega) (by omega) (by omega)) ?_)
  refine L_op rfl (X_assign (v := (.int .i64 (((i + 1 : Nat) : Int)))) rfl ?_)
  refine L_nil ?_
  refine T_n ?_
  exact ⟨rfl, i + 1, ⟨⟨rfl, hi⟩, (by show es.length - (i + 1) < es.length - i; omega)⟩, (Out.mk rfl), ⟨rfl, by rw [birth_step hei]; rfl, trivial⟩⟩
 ·refine L_op rfl (X_cmp (k := .i64) (a := ((i : Nat) : Int)) (b := ((es.length : Nat) : Int)) (r := false) rfl rfl rfl (decide_eq_false (p := ((((i : Nat) : Int)) : Int) < ((((es.length : Nat) : Int)) : Int)) (by omega)) ?_)
  have hie : i = es.length := by omega
  refine L_nil ?_
  refine T_n ?_
  refine W_cf rfl ?_
  refine W_exit ?_
  refine T_e ?_
  refine T_e ?_
  refine B_x ?_
  refine T_n ?_
  refine W_seq ?_
  refine W_reg ?_
  refine L_op rfl (X_move (v := (.int .u32 (birthK ((es.take i).map (fun (x : KE) => x.2))))) rfl ?_)
  refine L_op rfl (X_assign (v := (.int .u32 (birthK ((es.take i).map (fun (x : KE) => x.2))))) rfl ?_)
  refine L_nil ?_
  refine T_n ?_
  refine W_ret ?_
  exact BQ_r (End_1 Tryd.results21 (v := .int .u32 (birthK ((es.take i).map (fun (x : KE) => x.2)))) rfl ⟨by rw [hie, List.take_length], rfl⟩)

theorem c_rightKR (l : Value) (es : List KE) (w : World) (lo up : Nat) (hup : up ≤ w.heap.size) (hl : NRd LK w lo up l es) (hpt : ∀ e ∈ es, PtOk e.2.2) : CT Tryd.prog 19 #[l] w fun v w' => v = .bool (decide (RightK (es.map (fun (x : KE) => x.2)))) ∧ Ext w w' := by
 obtain ⟨n0, hn0⟩ : ∃ n, n = w.heap.size := ⟨_, rfl⟩
 have hU : Upd (fun i => n0 ≤ i) w w := Upd.refl _ _
 have hmx := hl.sv.len
 rw [← hn0] at hup
 refine CT_of Tryd.func19 rfl rfl rfl ?_
 refine W_seq ?_
 refine W_reg ?_
 refine L_op rfl (X_assign (v := (.bool (false))) rfl ?_)
 refine L_nil ?_
 refine T_n ?_
 refine W_seq ?_
 refine W_seq ?_
 refine W_reg ?_
 refine L_op rfl (X_move (v := l) rfl ?_)
 refine L_op rfl (X_len (v := l) (n := es.length) Tryd.underlying22 rfl hl.sv ?_)
 by_cases hc1 : (((es.length : Nat) : Int) : Int) < (2)
 ·refine L_op rfl (X_cmp (k := .i64) (a := ((es.length : Nat) : Int)) (b := 2) (r := true) rfl rfl rfl (decide_eq_true (p := ((((es.length : Nat) : Int)) : Int) < ((2) : Int)) (by omega)) ?_)
  refine L_op rfl (X_move (v := (.bool (true))) rfl ?_)
  refine L_gn (dj := 7) (t := true) rfl rfl rfl rfl ?_
  refine L_gn (dj := 7) (t := true) rfl rfl rfl rfl ?_
  refine L_gn (dj := 7) (t := true) rfl rfl rfl rfl ?_
  refine L_op rfl (X_pick (t := true) (v := (.bool (true))) rfl rfl ?_)
  refine L_op rfl (X_move (v := (.bool (true))) rfl ?_)
  refine L_gn (dj := 12) (t := true) rfl rfl rfl rfl ?_
  refine L_gn (dj := 12) (t := true) rfl rfl rfl rfl ?_
  refine L_gn (dj := 12) (t := true) rfl rfl rfl rfl ?_
  refine L_gn (dj := 12) (t := true) rfl rfl rfl rfl ?_
  refine L_gn (dj := 12) (t := true) rfl rfl rfl rfl ?_
  refine L_gn (dj := 12) (t := true) rfl rfl rfl rfl ?_
  refine L_op rfl (X_pick (t := true) (v := (.bool (true))) rfl rfl ?_)
  refine L_nil ?_
  refine T_n ?_
  refine W_ct rfl ?_
  refine W_seq ?_
  refine W_reg ?_
  refine L_op rfl (X_assign (v := (.bool (false))) rfl ?_)
  refine L_nil ?_
  refine T_n ?_
  refine W_ret ?_
  refine T_r ?_
  have hR : ¬ RightK (es.map (fun (x : KE) => x.2)) := fun h => by obtain ⟨⟨h1, h2, h3⟩, _⟩ := h; rw [List.length_map] at h1 h2; first | omega | (rw [hd0] at h3; omega)
  exact BQ_r (End_1 Tryd.results19 (v := .bool false) rfl ⟨by rw [decide_eq_false hR], hU.own hn0⟩)
 ·refine L_op rfl (X_cmp (k := .i64) (a := ((es.length : Nat) : Int)) (b := 2) (r := false) rfl rfl rfl (decide_eq_false (p := ((((es.length : Nat) : Int)) : Int) < ((2) : Int)) (by omega)) ?_)
  refine L_op rfl (X_move (v := (.bool (false))) rfl ?_)
  refine L_gy (dj := 7) rfl rfl rfl (X_move (v := l) rfl ?_)
  refine L_gy (dj := 7) rfl rfl rfl (X_len (v := l) (n := es.length) Tryd.underlying22 rfl hl.sv ?_)
  by_cases hc2 : (((es.length : Nat) : Int) : Int) > (6)
  ·refine L_gy (dj := 7) rfl rfl rfl (X_cmp (k := .i64) (a := ((es.length : Nat) : Int)) (b := 6) (r := true) rfl rfl rfl (decide_eq_true (p := ((6) : Int) < ((((es.length : Nat) : Int)) : Int)) (by omega)) ?_)
   refine L_op rfl (X_pick (t := false) (v := (.bool (true))) rfl rfl ?_)
   refine L_op rfl (X_move (v := (.bool (true))) rfl ?_)
   refine L_gn (dj := 12) (t := true) rfl rfl rfl rfl ?_
   refine L_gn (dj := 12) (t := true) rfl rfl rfl rfl ?_
   refine L_gn (dj := 12) (t := true) rfl rfl rfl rfl ?_
   refine L_gn (dj := 12) (t := true) rfl rfl rfl rfl ?_
   refine L_gn (dj := 12) (t := true) rfl rfl rfl rfl ?_
   refine L_gn (dj := 12) (t := true) rfl rfl rfl rfl ?_
   refine L_op rfl (X_pick (t := true) (v := (.bool (true))) rfl rfl ?_)
   refine L_nil ?_
   refine T_n ?_
   refine W_ct rfl ?_
   refine W_seq ?_
   refine W_reg ?_
   refine L_op rfl (X_assign (v := (.bool (false))) rfl ?_)
   refine L_nil ?_
   refine T_n ?_
   refine W_ret ?_
   refine T_r ?_
   have hR : ¬ RightK (es.map (fun (x : KE) => x.2)) := fun h => by obtain ⟨⟨h1, h2, h3⟩, _⟩ := h; rw [List.length_map] at h1 h2; first | omega | (rw [hd0] at h3; omega)
   exact BQ_r (End_1 Tryd.results19 (v := .bool false) rfl ⟨by rw [decide_eq_false hR], hU.own hn0⟩)
  ·refine L_gy (dj := 7) rfl rfl rfl (X_cmp (k := .i64) (a := ((es.length : Nat) : Int)) (b := 6) (r := false) rfl rfl rfl (decide_eq_false (p := ((6) : Int) < ((((es.length : Nat) : Int)) : Int)) (by omega)) ?_)
   obtain ⟨e0, he0⟩ : ∃ e, es[0]? = some e := ⟨_, List.getElem?_eq_getElem (by omega)⟩
   have hd0 := dK_at he0
   have hkl0 := (krd hl he0).len
   refine L_op rfl (X_pick (t := false) (v := (.bool (false))) rfl rfl ?_)
   refine L_op rfl (X_move (v := (.bool (false))) rfl ?_)
   refine L_gy (dj := 12) rfl rfl rfl (X_move (v := l) rfl ?_)
   refine L_gy (dj := 12) rfl rfl rfl (X_idx (v := l) (n := es.length) (k := .i64) (i := 0) S22 rfl hl.sv rfl (by omega) (by omega) ?_)
   refine L_gy (dj := 12) rfl rfl rfl (X_fldS (v := l) (o := (0 : Int).toNat * 6) Fd44_0 rfl hl.sv (by omega) ?_)
   refine L_gy (dj := 12) rfl rfl rfl (X_load (v := e0.1) T42 rfl (kkey hl (rfl) he0) ?_)
   refine L_gy (dj := 12) rfl rfl rfl (X_len (v := e0.1) (n := e0.2.1.length) Tryd.underlying42 rfl (krd hl he0).sv ?_)
   by_cases hc4 : (((e0.2.1.length : Nat) : Int) : Int) ≠ (0)
   ·refine L_gy (dj := 12) rfl rfl rfl (X_cmp (k := .i64) (a := ((e0.2.1.length : Nat) : Int)) (b := 0) (r := true) rfl rfl rfl (decide_eq_true (p := ((((e0.2.1.length : Nat) : Int)) : Int) ≠ ((0) : Int)) (by omega)) ?_)
    refine L_op rfl (X_pick (t := false) (v := (.bool (true))) rfl rfl ?_)
    refine L_nil ?_
    refine T_n ?_
    refine W_ct rfl ?_
    refine W_seq ?_
    refine W_reg ?_
    refine L_op rfl (X_assign (v := (.bool (false))) rfl ?_)
    refine L_nil ?_
    refine T_n ?_
    refine W_ret ?_
    refine T_r ?_
    have hR : ¬ RightK (es.map (fun (x : KE) => x.2)) := fun h => by obtain ⟨⟨h1, h2, h3⟩, _⟩ := h; rw [List.length_map] at h1 h2; first | omega | (rw [hd0] at h3; omega)
    exact BQ_r (End_1 Tryd.results19 (v := .bool false) rfl ⟨by rw [decide_eq_false hR], hU.own hn0⟩)
   ·refine L_gy (dj := 12) rfl rfl rfl (X_cmp (k := .i64) (a := ((e0.2.1.length : Nat) : Int)) (b := 0) (r := false) rfl rfl rfl (decide_eq_false (p := ((((e0.2.1.length : Nat) : Int)) : Int) ≠ ((0) : Int)) (by omega)) ?_)
    refine L_op rfl (X_pick (t := false) (v := (.bool (false))) rfl rfl ?_)
    refine L_nil ?_
    refine T_n ?_
    refine W_cf rfl ?_
    refine W_skip ?_
    refine T_n ?_
    refine W_seq ?_
    refine W_seq ?_
    refine W_reg ?_
    refine L_op rfl (X_assign (v := (.int .i64 (0))) rfl ?_)
    refine L_nil ?_
    refine T_n ?_
    refine W_block ?_
    refine W_loop (α := Nat) [2, 3, 20, 21, 22, 23, 24, 25, 26, 27, 28, 29, 30, 31, 32, 33, 34, 35, 36, 37, 38, 39, 40, 41, 42, 43, 44, 45, 46, 47, 48, 49, 50, 51, 52, 53, 54, 55, 56, 57, 58, 59, 60, 61, 62, 63, 64, 65, 66, 67, 68, 69, 70, 71, 72, 73, 74, 75, 76, 77, 78, 79, 80, 81, 82, 83, 84, 85, 86, 87, 88, 89, 90, 91] (fun i => [(3, (.int .i64 (((i : Nat) : Int))))]) (fun i w_ => i ≤ es.length ∧ NRd LK w_ lo up l es ∧ (∀ j, j < i → StepK (es.map (fun (x : KE) => x.2)) j) ∧ Upd (fun i => n0 ≤ i) w w_) (fun i => es.length - i) ⟨rfl, 0, ⟨Nat.zero_le _, hl, fun j h => absurd h (Nat.not_lt_zero j), hU⟩, Out.refl _ _, ⟨rfl, trivial⟩⟩ ?_
    rintro i w5 _ ⟨hil, hl, hz, hU⟩
    have hsz_ := hU.size
    refine W_seq ?_
    refine W_seq ?_
    refine W_reg ?_
    refine L_op rfl (X_move (v := (.int .i64 (((i : Nat) : Int)))) rfl ?_)
    refine L_op rfl (X_move (v := l) rfl ?_)
    refine L_op rfl (X_len (v := l) (n := es.length) Tryd.underlying22 rfl hl.sv ?_)
    by_cases hc6 : (((i : Nat) : Int) : Int) < (((es.length : Nat) : Int))
    ·refine L_op rfl (X_cmp (k := .i64) (a := ((i : Nat) : Int)) (b := ((es.length : Nat) : Int)) (r := true) rfl rfl rfl (decide_eq_true (p := ((((i : Nat) : Int)) : Int) < ((((es.length : Nat) : Int)) : Int)) (by omega)) ?_)
     have hi : i < es.length := by omega
     obtain ⟨e, hei⟩ : ∃ e, es[i]? = some e := ⟨_, List.getElem?_eq_getElem hi⟩
     obtain ⟨c, hci⟩ : ∃ c, es[i - 1]? = some c := ⟨_, List.getElem?_eq_getElem (by omega)⟩
     have hke := (krd hl hei).len
     have hst : StepK (es.map (fun (x : KE) => x.2)) i ↔ (MetaP e.2.2 ∧ RightP e.2.2 256 ∧ e.2.2.1 = e0.2.2.1) ∧ (0 < i → 1 ≤ e.2.1.length ∧ e.2.1.length ≤ 8 ∧ Op.bytesLess c.2.1 e.2.1 = true) := by unfold StepK; rw [dK_at hei, hd0, dK_at hci]
     refine L_nil ?_
     refine T_n ?_
     refine W_ct rfl ?_
     refine W_skip ?_
     refine T_n ?_
     refine W_seq ?_
     refine W_block ?_
     refine W_seq ?_
     refine W_seq ?_
     rcases Bool.eq_false_or_eq_true (decide (MetaP e.2.2)) with hs7 | hs7
     ·rcases Bool.eq_false_or_eq_true (decide (RightP e.2.2 256)) with hs8 | hs8
      ·rcases Bool.eq_false_or_eq_true (decide (e.2.2.1 = e0.2.2.1)) with hs9 | hs9
       ·have hkq := of_decide_eq_true hs9
        refine W_draw 28 [[], [], [0, 1], [0, 1, 2], [0, 1, 2, 3], [0, 1, 2, 3, 4], [0, 1, 2, 3, 4, 5], [0, 1, 2, 3, 4, 5, 6], [0, 1, 2, 3, 4, 5, 6, 7], [0, 1, 2, 3, 4, 5, 6, 7], [0, 1, 2, 3, 4, 5, 6, 7, 8, 9], [0, 1, 2, 3, 4, 5, 6, 7, 8, 9, 10], [0, 1, 2, 3, 4, 5, 6, 7, 8, 9, 10, 11], [0, 1, 2, 3, 4, 5, 6, 7, 8, 9, 10, 11, 12], [0, 1, 2, 3, 4, 5, 6, 7, 8, 9, 10, 11, 12, 13], [0, 1, 2, 3, 4, 5, 6, 7, 8, 9, 10, 11, 12, 13, 14], [0, 1, 2, 3, 4, 5, 6, 7, 8, 9, 10, 11, 12, 13, 14, 15], [0, 1, 2, 3, 4, 5, 6, 7, 8, 9, 10, 11, 12, 13, 14, 15, 16], [0, 1, 2, 3, 4, 5, 6, 7, 8, 9, 10, 11, 12, 13, 14, 15, 16], [0, 1, 2, 3, 4, 5, 6, 7, 8, 9, 10, 11, 12, 13, 14, 15, 16, 17, 18], [0, 1, 2, 3, 4, 5, 6, 7, 8, 9, 10, 11, 12, 13, 14, 15, 16, 17, 18, 19], [0, 1, 2, 3, 4, 5, 6, 7, 8, 9, 10, 11, 12, 13, 14, 15, 16, 17, 18, 19, 20], [0, 1, 2, 3, 4, 5, 6, 7, 8, 9, 10, 11, 12, 13, 14, 15, 16, 17, 18, 19, 20, 21], [0, 1, 2, 3, 4, 5, 6, 7, 8, 9, 10, 11, 12, 13, 14, 15, 16], [0, 1, 2, 3, 4, 5, 6, 7, 8, 9, 10, 11, 12, 13, 14, 15, 16, 23], [0, 1, 2, 3, 4, 5, 6, 7, 8, 9, 10, 11, 12, 13, 14, 15, 16, 23, 24], [0, 1, 2, 3, 4, 5, 6, 7, 8, 9, 10, 11, 12, 13, 14, 15, 16, 23, 24, 25], [0, 1, 2, 3, 4, 5, 6, 7, 8, 9, 10, 11, 12, 13, 14, 15, 16, 23, 24, 25, 26], [0, 1, 2, 3, 4, 5, 6, 7, 8, 9, 10, 11, 12, 13, 14, 15, 16, 17, 18, 19, 20, 21, 22, 23, 24, 25, 26, 27], [0, 1, 2, 3, 4, 5, 6, 7, 8, 9, 10, 11, 12, 13, 14, 15, 16, 17, 18, 19, 20, 21, 22, 23, 24, 25, 26, 27, 28]] mixed (by kernel_rfl) ?_
        refine ⟨.det (fun val => l), ⟨fun _ _ hv => rfl, fun _ _ _ _ _ => trivial⟩, fun val h_ W hx he => ⟨trivial, ?_⟩, ?_⟩
        ·replace hx := (Upd.drew _ _).trans hx
         replace hl := hl.ext hx
         have hE := Upd.refl (fun _ => False) W
         refine id (X_move (v := l) rfl ?_)
         exact ⟨hE, rfl⟩
        refine ⟨.det (fun val => (.int .i64 (((i : Nat) : Int)))), ⟨fun _ _ hv => rfl, fun _ _ _ _ _ => trivial⟩, fun val h_ W hx he => ⟨trivial, ?_⟩, ?_⟩
        ·replace hx := (Upd.drew _ _).trans hx
         replace hl := hl.ext hx
         have hE := Upd.refl (fun _ => False) W
         refine id (X_move (v := (.int .i64 (((i : Nat) : Int)))) rfl ?_)
         exact ⟨hE, rfl⟩
        refine ⟨.det (fun val => (pof l ((((i : Nat) : Int) : Int).toNat * 6))), ⟨fun _ _ hv => rfl, fun _ _ _ _ _ => trivial⟩, fun val h_ W hx he => ⟨trivial, ?_⟩, ?_⟩
        ·replace hx := (Upd.drew _ _).trans hx
         replace hl := hl.ext hx
         have hE := Upd.refl (fun _ => False) W
         refine id (X_idx (v := l) (n := es.length) (k := .i64) (i := ((i : Nat) : Int)) S22 rfl hl.sv rfl (by omega) (by omega) ?_)
         exact ⟨hE, rfl⟩
        refine ⟨.det (fun val => (pof l ((((i : Nat) : Int) : Int).toNat * 6 + 1))), ⟨fun _ _ hv => rfl, fun _ _ _ _ _ => trivial⟩, fun val h_ W hx he => ⟨trivial, ?_⟩, ?_⟩
        ·replace hx := (Upd.drew _ _).trans hx
         replace hl := hl.ext hx
         have hE := Upd.refl (fun _ => False) W
         refine id (X_fldS (v := l) (o := (((i : Nat) : Int) : Int).toNat * 6) Fd44_1 rfl hl.sv (by omega) ?_)
         exact ⟨hE, rfl⟩
        refine ⟨.det (fun val => (.agg (ptC e.2.2).toArray)), ⟨fun _ _ hv => rfl, fun _ _ _ _ _ => trivial⟩, fun val h_ W hx he => ⟨trivial, ?_⟩, ?_⟩
        ·replace hx := (Upd.drew _ _).trans hx
         replace hl := hl.ext hx
         have hE := Upd.refl (fun _ => False) W
         refine id (X_loadA (xs := ptC e.2.2) A41 rfl (kptr hl (Int.toNat_natCast _) hei) rfl ?_)
         exact ⟨hE, rfl⟩
        refine ⟨.det (fun _ => .bool true), ⟨fun _ _ _ => rfl, fun _ _ _ _ _ => trivial⟩, fun val h_ W hx he => ⟨trivial, ?_⟩, ?_⟩
        ·replace hx := (Upd.drew _ _).trans hx
         replace hl := hl.ext hx
         have hE := Upd.refl (fun _ => False) W
         refine X_fn (vs := [.agg (ptC e.2.2).toArray]) en36 rfl (CT.mono (c_metaR e.2.2 _) ?_)
         rintro _ w9 ⟨rfl, hu9⟩
         exact ⟨hu9, by rw [hs7]⟩
        refine ⟨.det (fun val => (.bool (false))), ⟨fun _ _ hv => rfl, fun _ _ _ _ _ => trivial⟩, fun val h_ W hx he => ⟨trivial, ?_⟩, ?_⟩
        ·replace hx := (Upd.drew _ _).trans hx
         replace hl := hl.ext hx
         have hE := Upd.refl (fun _ => False) W
         refine id (X_not (b := true) (r := false) rfl rfl ?_)
         exact ⟨hE, rfl⟩
        refine ⟨.det (fun val => (.bool (false))), ⟨fun _ _ hv => rfl, fun _ _ _ _ _ => trivial⟩, fun val h_ W hx he => ⟨trivial, ?_⟩, ?_⟩
        ·replace hx := (Upd.drew _ _).trans hx
         replace hl := hl.ext hx
         have hE := Upd.refl (fun _ => False) W
         refine id (X_move (v := (.bool (false))) rfl ?_)
         exact ⟨hE, rfl⟩
        refine ⟨.det (fun val => l), ⟨fun _ _ hv => rfl, fun _ _ _ _ _ => trivial⟩, fun val h_ W hx he => ⟨⟨33, rfl, rfl⟩, ?_⟩, ?_⟩
        ·replace hx := (Upd.drew _ _).trans hx
         replace hl := hl.ext hx
         have hE := Upd.refl (fun _ => False) W
         refine id (X_move (v := l) rfl ?_)
         exact ⟨hE, rfl⟩
        refine ⟨.det (fun val => (.int .i64 (((i : Nat) : Int)))), ⟨fun _ _ hv => rfl, fun _ _ _ _ _ => trivial⟩, fun val h_ W hx he => ⟨⟨33, rfl, rfl⟩, ?_⟩, ?_⟩
        ·replace hx := (Upd.drew _ _).trans hx
         replace hl := hl.ext hx
         have hE := Upd.refl (fun _ => False) W
         refine id (X_move (v := (.int .i64 (((i : Nat) : Int)))) rfl ?_)
         exact ⟨hE, rfl⟩
        refine ⟨.det (fun val => (pof l ((((i : Nat) : Int) : Int).toNat * 6))), ⟨fun _ _ hv => rfl, fun _ _ _ _ _ => trivial⟩, fun val h_ W hx he => ⟨⟨33, rfl, rfl⟩, ?_⟩, ?_⟩
        ·replace hx := (Upd.drew _ _).trans hx
         replace hl := hl.ext hx
         have hE := Upd.refl (fun _ => False) W
         refine id (X_idx (v := l) (n := es.length) (k := .i64) (i := ((i : Nat) : Int)) S22 rfl hl.sv rfl (by omega) (by omega) ?_)
         exact ⟨hE, rfl⟩
        refine ⟨.det (fun val => (pof l ((((i : Nat) : Int) : Int).toNat * 6 + 1))), ⟨fun _ _ hv => rfl, fun _ _ _ _ _ => trivial⟩, fun val h_ W hx he => ⟨⟨33, rfl, rfl⟩, ?_⟩, ?_⟩
        ·replace hx := (Upd.drew _ _).trans hx
         replace hl := hl.ext hx
         have hE := Upd.refl (fun _ => False) W
         refine id (X_fldS (v := l) (o := (((i : Nat) : Int) : Int).toNat * 6) Fd44_1 rfl hl.sv (by omega) ?_)
         exact ⟨hE, rfl⟩
        refine ⟨.det (fun val => (.agg (ptC e.2.2).toArray)), ⟨fun _ _ hv => rfl, fun _ _ _ _ _ => trivial⟩, fun val h_ W hx he => ⟨⟨33, rfl, rfl⟩, ?_⟩, ?_⟩
        ·replace hx := (Upd.drew _ _).trans hx
         replace hl := hl.ext hx
         have hE := Upd.refl (fun _ => False) W
         refine id (X_loadA (xs := ptC e.2.2) A41 rfl (kptr hl (Int.toNat_natCast _) hei) rfl ?_)
         exact ⟨hE, rfl⟩
        refine ⟨.det (fun _ => .bool true), ⟨fun _ _ _ => rfl, fun _ _ _ _ _ => trivial⟩, fun val h_ W hx he => ⟨⟨33, rfl, rfl⟩, ?_⟩, ?_⟩
        ·replace hx := (Upd.drew _ _).trans hx
         replace hl := hl.ext hx
         have hE := Upd.refl (fun _ => False) W
         refine X_fn (vs := [.agg (ptC e.2.2).toArray, .int .i64 256]) en37 rfl (CT.mono (c_rightR e.2.2 256 _ (hpt e (List.mem_of_getElem? hei))) ?_)
         rintro _ w9 ⟨rfl, hu9⟩
         exact ⟨hu9, by rw [hs8]⟩
        refine ⟨.det (fun val => (.bool (false))), ⟨fun _ _ hv => rfl, fun _ _ _ _ _ => trivial⟩, fun val h_ W hx he => ⟨⟨33, rfl, rfl⟩, ?_⟩, ?_⟩
        ·replace hx := (Upd.drew _ _).trans hx
         replace hl := hl.ext hx
         have hE := Upd.refl (fun _ => False) W
         refine id (X_not (b := true) (r := false) rfl rfl ?_)
         exact ⟨hE, rfl⟩
        refine ⟨.det (fun val => (.bool (false))), ⟨fun _ _ hv => rfl, fun _ _ _ _ _ => trivial⟩, fun val h_ W hx he => ⟨trivial, ?_⟩, ?_⟩
        ·replace hx := (Upd.drew _ _).trans hx
         replace hl := hl.ext hx
         have hE := Upd.refl (fun _ => False) W
         refine id (X_pick (t := false) (v := (.bool (false))) rfl rfl ?_)
         exact ⟨hE, rfl⟩
        refine ⟨.det (fun val => (.bool (false))), ⟨fun _ _ hv => rfl, fun _ _ _ _ _ => trivial⟩, fun val h_ W hx he => ⟨trivial, ?_⟩, ?_⟩
        ·replace hx := (Upd.drew _ _).trans hx
         replace hl := hl.ext hx
         have hE := Upd.refl (fun _ => False) W
         refine id (X_move (v := (.bool (false))) rfl ?_)
         exact ⟨hE, rfl⟩
        refine ⟨.det (fun val => l), ⟨fun _ _ hv => rfl, fun _ _ _ _ _ => trivial⟩, fun val h_ W hx he => ⟨⟨42, rfl, rfl⟩, ?_⟩, ?_⟩
        ·replace hx := (Upd.drew _ _).trans hx
         replace hl := hl.ext hx
         have hE := Upd.refl (fun _ => False) W
         refine id (X_move (v := l) rfl ?_)
         exact ⟨hE, rfl⟩
        refine ⟨.det (fun val => (.int .i64 (((i : Nat) : Int)))), ⟨fun _ _ hv => rfl, fun _ _ _ _ _ => trivial⟩, fun val h_ W hx he => ⟨⟨42, rfl, rfl⟩, ?_⟩, ?_⟩
        ·replace hx := (Upd.drew _ _).trans hx
         replace hl := hl.ext hx
         have hE := Upd.refl (fun _ => False) W
         refine id (X_move (v := (.int .i64 (((i : Nat) : Int)))) rfl ?_)
         exact ⟨hE, rfl⟩
        refine ⟨.det (fun val => (pof l ((((i : Nat) : Int) : Int).toNat * 6))), ⟨fun _ _ hv => rfl, fun _ _ _ _ _ => trivial⟩, fun val h_ W hx he => ⟨⟨42, rfl, rfl⟩, ?_⟩, ?_⟩
        ·replace hx := (Upd.drew _ _).trans hx
         replace hl := hl.ext hx
         have hE := Upd.refl (fun _ => False) W
         refine id (X_idx (v := l) (n := es.length) (k := .i64) (i := ((i : Nat) : Int)) S22 rfl hl.sv rfl (by omega) (by omega) ?_)
         exact ⟨hE, rfl⟩
        refine ⟨.det (fun val => (pof l ((((i : Nat) : Int) : Int).toNat * 6 + 1))), ⟨fun _ _ hv => rfl, fun _ _ _ _ _ => trivial⟩, fun val h_ W hx he => ⟨⟨42, rfl, rfl⟩, ?_⟩, ?_⟩
        ·replace hx := (Upd.drew _ _).trans hx
         replace hl := hl.ext hx
         have hE := Upd.refl (fun _ => False) W
         refine id (X_fldS (v := l) (o := (((i : Nat) : Int) : Int).toNat * 6) Fd44_1 rfl hl.sv (by omega) ?_)
         exact ⟨hE, rfl⟩
        refine ⟨.det (fun val => (pof l ((((i : Nat) : Int) : Int).toNat * 6 + 1 + 0))), ⟨fun _ _ hv => rfl, fun _ _ _ _ _ => trivial⟩, fun val h_ W hx he => ⟨⟨42, rfl, rfl⟩, ?_⟩, ?_⟩
        ·replace hx := (Upd.drew _ _).trans hx
         replace hl := hl.ext hx
         have hE := Upd.refl (fun _ => False) W
         refine id (X_fldS (v := l) (o := (((i : Nat) : Int) : Int).toNat * 6 + 1) Fd41_0 rfl hl.sv (by omega) ?_)
         exact ⟨hE, rfl⟩
        refine ⟨.det (fun val => (.int .u8 (e.2.2.1))), ⟨fun _ _ hv => rfl, fun _ _ _ _ _ => trivial⟩, fun val h_ W hx he => ⟨⟨42, rfl, rfl⟩, ?_⟩, ?_⟩
        ·replace hx := (Upd.drew _ _).trans hx
         replace hl := hl.ext hx
         have hE := Upd.refl (fun _ => False) W
         refine id (X_load (v := .int .u8 e.2.2.1) T5 rfl (show At _ (pof l _) _ from by have h := hl.cell hei (j := 1) rfl; rwa [show i * LK.sz + 1 = ((i : Nat) : Int).toNat * 6 + 1 + 0 by rw [Int.toNat_natCast]; rfl] at h) ?_)
         exact ⟨hE, rfl⟩
        refine ⟨.det (fun val => l), ⟨fun _ _ hv => rfl, fun _ _ _ _ _ => trivial⟩, fun val h_ W hx he => ⟨⟨42, rfl, rfl⟩, ?_⟩, ?_⟩
        ·replace hx := (Upd.drew _ _).trans hx
         replace hl := hl.ext hx
         have hE := Upd.refl (fun _ => False) W
         refine id (X_move (v := l) rfl ?_)
         exact ⟨hE, rfl⟩
        refine ⟨.det (fun val => (pof l ((0 : Int).toNat * 6))), ⟨fun _ _ hv => rfl, fun _ _ _ _ _ => trivial⟩, fun val h_ W hx he => ⟨⟨42, rfl, rfl⟩, ?_⟩, ?_⟩
        ·replace hx := (Upd.drew _ _).trans hx
         replace hl := hl.ext hx
         have hE := Upd.refl (fun _ => False) W
         refine id (X_idx (v := l) (n := es.length) (k := .i64) (i := 0) S22 rfl hl.sv rfl (by omega) (by omega) ?_)
         exact ⟨hE, rfl⟩
        refine ⟨.det (fun val => (pof l ((0 : Int).toNat * 6 + 1))), ⟨fun _ _ hv => rfl, fun _ _ _ _ _ => trivial⟩, fun val h_ W hx he => ⟨⟨42, rfl, rfl⟩, ?_⟩, ?_⟩
        ·replace hx := (Upd.drew _ _).trans hx
         replace hl := hl.ext hx
         have hE := Upd.refl (fun _ => False) W
         refine id (X_fldS (v := l) (o := (0 : Int).toNat * 6) Fd44_1 rfl hl.sv (by omega) ?_)
         exact ⟨hE, rfl⟩
        refine ⟨.det (fun val => (pof l ((0 : Int).toNat * 6 + 1 + 0))), ⟨fun _ _ hv => rfl, fun _ _ _ _ _ => trivial⟩, fun val h_ W hx he => ⟨⟨42, rfl, rfl⟩, ?_⟩, ?_⟩
        ·replace hx := (Upd.drew _ _).trans hx
         replace hl := hl.ext hx
         have hE := Upd.refl (fun _ => False) W
         refine id (X_fldS (v := l) (o := (0 : Int).toNat * 6 + 1) Fd41_0 rfl hl.sv (by omega) ?_)
         exact ⟨hE, rfl⟩
        refine ⟨.det (fun val => (.int .u8 (e0.2.2.1))), ⟨fun _ _ hv => rfl, fun _ _ _ _ _ => trivial⟩, fun val h_ W hx he => ⟨⟨42, rfl, rfl⟩, ?_⟩, ?_⟩
        ·replace hx := (Upd.drew _ _).trans hx
         replace hl := hl.ext hx
         have hE := Upd.refl (fun _ => False) W
         refine id (X_load (v := .int .u8 e0.2.2.1) T5 rfl (show At _ (pof l _) _ from hl.cell he0 (j := 1) rfl) ?_)
         exact ⟨hE, rfl⟩
        intro val W10 hx10 he10
        replace hx10 := (Upd.drew _ _).trans hx10
        have hz10 := hx10.size
        replace hl := hl.ext hx10
        replace hU := hU.trans (Ext.upd hx10)
        refine L_gy (dj := 42) rfl rfl rfl (X_cmp (k := .u8) (a := e.2.2.1) (b := e0.2.2.1) (r := false) rfl rfl rfl (decide_eq_false (p := ((e.2.2.1) : Int) ≠ ((e0.2.2.1) : Int)) (by omega)) ?_)
        refine L_op rfl (X_pick (t := false) (v := (.bool (false))) rfl rfl ?_)
        refine L_nil ?_
        refine T_n ?_
        refine W_cf rfl ?_
        refine W_skip ?_
        refine T_n ?_
        refine W_seq ?_
        rcases Bool.eq_false_or_eq_true (decide (0 < i)) with hs11 | hs11
        ·rcases Bool.eq_false_or_eq_true (decide (1 ≤ e.2.1.length)) with hs12 | hs12
         ·rcases Bool.eq_false_or_eq_true (decide (e.2.1.length ≤ 8)) with hs13 | hs13
          ·rcases Bool.eq_false_or_eq_true (scmp .geq (c.2.1) (e.2.1)) with hs14 | hs14
           ·have hs11_ := of_decide_eq_true hs11
            have hs12_ := of_decide_eq_true hs12
            have hs13_ := of_decide_eq_true hs13
            refine W_draw 33 [[], [0], [0, 1], [0, 1, 2], [0, 1, 2], [0, 1, 2, 3, 4], [0, 1, 2, 3, 4, 5], [0, 1, 2, 3, 4, 5, 6], [0, 1, 2, 3, 4, 5, 6, 7], [0, 1, 2, 3, 4, 5, 6, 7, 8], [0, 1, 2, 3, 4, 5, 6, 7, 8, 9], [0, 1, 2, 3, 4, 5, 6, 7, 8, 9, 10], [0, 1, 2, 3, 4, 5, 6, 7, 8, 9, 10], [0, 1, 2, 3, 4, 5, 6, 7, 8, 9, 10, 11, 12], [0, 1, 2, 3, 4, 5, 6, 7, 8, 9, 10, 11, 12, 13], [0, 1, 2, 3, 4, 5, 6, 7, 8, 9, 10, 11, 12, 13, 14], [0, 1, 2, 3, 4, 5, 6, 7, 8, 9, 10, 11, 12, 13, 14, 15], [0, 1, 2, 3, 4, 5, 6, 7, 8, 9, 10, 11, 12, 13, 14, 15, 16], [0, 1, 2, 3, 4, 5, 6, 7, 8, 9, 10, 11, 12, 13, 14, 15, 16, 17], [0, 1, 2, 3, 4, 5, 6, 7, 8, 9, 10, 11, 12, 13, 14, 15, 16, 17, 18], [0, 1, 2, 3, 4, 5, 6, 7, 8, 9, 10, 11, 12, 13, 14, 15, 16, 17, 18, 19], [0, 1, 2, 3, 4, 5, 6, 7, 8, 9, 10, 11, 12, 13, 14, 15, 16, 17, 18, 19], [0, 1, 2, 3, 4, 5, 6, 7, 8, 9, 10, 11, 12, 13, 14, 15, 16, 17, 18, 19, 21], [0, 1, 2, 3, 4, 5, 6, 7, 8, 9, 10, 11, 12, 13, 14, 15, 16, 17, 18, 19, 20, 21, 22], [0, 1, 2, 3, 4, 5, 6, 7, 8, 9, 10, 11, 12, 13, 14, 15, 16, 17, 18, 19, 20, 21, 22, 23], [0, 1, 2, 3, 4, 5, 6, 7, 8, 9, 10, 11, 12, 13, 14, 15, 16, 17, 18, 19, 20, 21, 22, 23, 24], [0, 1, 2, 3, 4, 5, 6, 7, 8, 9, 10, 11, 12, 13, 14, 15, 16, 17, 18, 19, 20, 21, 22, 23, 24, 25], [0, 1, 2, 3, 4, 5, 6, 7, 8, 9, 10, 11, 12, 13, 14, 15, 16, 17, 18, 19], [0, 1, 2, 3, 4, 5, 6, 7, 8, 9, 10, 11, 12, 13, 14, 15, 16, 17, 18, 19], [0, 1, 2, 3, 4, 5, 6, 7, 8, 9, 10, 11, 12, 13, 14, 15, 16, 17, 18, 19, 27, 28], [0, 1, 2, 3, 4, 5, 6, 7, 8, 9, 10, 11, 12, 13, 14, 15, 16, 17, 18, 19, 27, 28, 29], [0, 1, 2, 3, 4, 5, 6, 7, 8, 9, 10, 11, 12, 13, 14, 15, 16, 17, 18, 19, 27, 28, 29, 30], [0, 1, 2, 3, 4, 5, 6, 7, 8, 9, 10, 11, 12, 13, 14, 15, 16, 17, 18, 19, 27, 28, 29, 30, 31], [0, 1, 2, 3, 4, 5, 6, 7, 8, 9, 10, 11, 12, 13, 14, 15, 16, 17, 18, 19, 20, 21, 22, 23, 24, 25, 26, 27, 28, 29, 30, 31, 32], [0, 1, 2, 3, 4, 5, 6, 7, 8, 9, 10, 11, 12, 13, 14, 15, 16, 17, 18, 19, 20, 21, 22, 23, 24, 25, 26, 27, 28, 29, 30, 31, 32, 33], [0, 1, 2, 3, 4, 5, 6, 7, 8, 9, 10, 11, 12, 13, 14, 15, 16, 17, 18, 19, 20, 21, 22, 23, 24, 25, 26, 27, 28, 29, 30, 31, 32, 33, 34]] mixed (by kernel_rfl) ?_
            refine ⟨.det (fun val => (.int .i64 (((i : Nat) : Int)))), ⟨fun _ _ hv => rfl, fun _ _ _ _ _ => trivial⟩, fun val h_ W hx he => ⟨trivial, ?_⟩, ?_⟩
            ·replace hx := (Upd.drew _ _).trans hx
             replace hl := hl.ext hx
             have hE := Upd.refl (fun _ => False) W
             refine id (X_move (v := (.int .i64 (((i : Nat) : Int)))) rfl ?_)
             exact ⟨hE, rfl⟩
            refine ⟨.det (fun val => (.bool (true))), ⟨fun _ _ hv => rfl, fun _ _ _ _ _ => trivial⟩, fun val h_ W hx he => ⟨trivial, ?_⟩, ?_⟩
            ·replace hx := (Upd.drew _ _).trans hx
             replace hl := hl.ext hx
             have hE := Upd.refl (fun _ => False) W
             refine id (X_cmp (k := .i64) (a := ((i : Nat) : Int)) (b := 0) (r := true) rfl rfl rfl (decide_eq_true (p := ((0) : Int) < ((((i : Nat) : Int)) : Int)) (by omega)) ?_)
             exact ⟨hE, rfl⟩
            refine ⟨.det (fun val => (.bool (true))), ⟨fun _ _ hv => rfl, fun _ _ _ _ _ => trivial⟩, fun val h_ W hx he => ⟨trivial, ?_⟩, ?_⟩
            ·replace hx := (Upd.drew _ _).trans hx
             replace hl := hl.ext hx
             have hE := Upd.refl (fun _ => False) W
             refine id (X_move (v := (.bool (true))) rfl ?_)
             exact ⟨hE, rfl⟩
            refine ⟨.det (fun val => l), ⟨fun _ _ hv => rfl, fun _ _ _ _ _ => trivial⟩, fun val h_ W hx he => ⟨⟨58, rfl, rfl⟩, ?_⟩, ?_⟩
            ·replace hx := (Upd.drew _ _).trans hx
             replace hl := hl.ext hx
             have hE := Upd.refl (fun _ => False) W
             refine id (X_move (v := l) rfl ?_)
             exact ⟨hE, rfl⟩
            refine ⟨.det (fun val => (.int .i64 (((i : Nat) : Int)))), ⟨fun _ _ hv => rfl, fun _ _ _ _ _ => trivial⟩, fun val h_ W hx he => ⟨⟨58, rfl, rfl⟩, ?_⟩, ?_⟩
            ·replace hx := (Upd.drew _ _).trans hx
             replace hl := hl.ext hx
             have hE := Upd.refl (fun _ => False) W
             refine id (X_move (v := (.int .i64 (((i : Nat) : Int)))) rfl ?_)
             exact ⟨hE, rfl⟩
            refine ⟨.det (fun val => (pof l ((((i : Nat) : Int) : Int).toNat * 6))), ⟨fun _ _ hv => rfl, fun _ _ _ _ _ => trivial⟩, fun val h_ W hx he => ⟨⟨58, rfl, rfl⟩, ?_⟩, ?_⟩
            ·replace hx := (Upd.drew _ _).trans hx
             replace hl := hl.ext hx
             have hE := Upd.refl (fun _ => False) W
             refine id (X_idx (v := l) (n := es.length) (k := .i64) (i := ((i : Nat) : Int)) S22 rfl hl.sv rfl (by omega) (by omega) ?_)
             exact ⟨hE, rfl⟩
            refine ⟨.det (fun val => (pof l ((((i : Nat) : Int) : Int).toNat * 6 + 0))), ⟨fun _ _ hv => rfl, fun _ _ _ _ _ => trivial⟩, fun val h_ W hx he => ⟨⟨58, rfl, rfl⟩, ?_⟩, ?_⟩
            ·replace hx := (Upd.drew _ _).trans hx
             replace hl := hl.ext hx
             have hE := Upd.refl (fun _ => False) W
             refine id (X_fldS (v := l) (o := (((i : Nat) : Int) : Int).toNat * 6) Fd44_0 rfl hl.sv (by omega) ?_)
             exact ⟨hE, rfl⟩
            refine ⟨.det (fun val => e.1), ⟨fun _ _ hv => rfl, fun _ _ _ _ _ => trivial⟩, fun val h_ W hx he => ⟨⟨58, rfl, rfl⟩, ?_⟩, ?_⟩
            ·replace hx := (Upd.drew _ _).trans hx
             replace hl := hl.ext hx
             have hE := Upd.refl (fun _ => False) W
             refine id (X_load (v := e.1) T42 rfl (kkey hl (Int.toNat_natCast _) hei) ?_)
             exact ⟨hE, rfl⟩
            refine ⟨.det (fun val => (.int .i64 (((e.2.1.length : Nat) : Int)))), ⟨fun _ _ hv => rfl, fun _ _ _ _ _ => trivial⟩, fun val h_ W hx he => ⟨⟨58, rfl, rfl⟩, ?_⟩, ?_⟩
            ·replace hx := (Upd.drew _ _).trans hx
             replace hl := hl.ext hx
             have hE := Upd.refl (fun _ => False) W
             refine id (X_len (v := e.1) (n := e.2.1.length) Tryd.underlying42 rfl (krd hl hei).sv ?_)
             exact ⟨hE, rfl⟩
            refine ⟨.det (fun val => (.bool (false))), ⟨fun _ _ hv => rfl, fun _ _ _ _ _ => trivial⟩, fun val h_ W hx he => ⟨⟨58, rfl, rfl⟩, ?_⟩, ?_⟩
            ·replace hx := (Upd.drew _ _).trans hx
             replace hl := hl.ext hx
             have hE := Upd.refl (fun _ => False) W
             refine id (X_cmp (k := .i64) (a := ((e.2.1.length : Nat) : Int)) (b := 1) (r := false) rfl rfl rfl (decide_eq_false (p := ((((e.2.1.length : Nat) : Int)) : Int) < ((1) : Int)) (by omega)) ?_)
             exact ⟨hE, rfl⟩
            refine ⟨.det (fun val => (.bool (false))), ⟨fun _ _ hv => rfl, fun _ _ _ _ _ => trivial⟩, fun val h_ W hx he => ⟨⟨58, rfl, rfl⟩, ?_⟩, ?_⟩
            ·replace hx := (Upd.drew _ _).trans hx
             replace hl := hl.ext hx
             have hE := Upd.refl (fun _ => False) W
             refine id (X_move (v := (.bool (false))) rfl ?_)
             exact ⟨hE, rfl⟩
            refine ⟨.det (fun val => l), ⟨fun _ _ hv => rfl, fun _ _ _ _ _ => trivial⟩, fun val h_ W hx he => ⟨⟨66, rfl, rfl⟩, ?_⟩, ?_⟩
            ·replace hx := (Upd.drew _ _).trans hx
             replace hl := hl.ext hx
             have hE := Upd.refl (fun _ => False) W
             refine id (X_move (v := l) rfl ?_)
             exact ⟨hE, rfl⟩
            refine ⟨.det (fun val => (.int .i64 (((i : Nat) : Int)))), ⟨fun _ _ hv => rfl, fun _ _ _ _ _ => trivial⟩, fun val h_ W hx he => ⟨⟨66, rfl, rfl⟩, ?_⟩, ?_⟩
            ·replace hx := (Upd.drew _ _).trans hx
             replace hl := hl.ext hx
             have hE := Upd.refl (fun _ => False) W
             refine id (X_move (v := (.int .i64 (((i : Nat) : Int)))) rfl ?_)
             exact ⟨hE, rfl⟩
            refine ⟨.det (fun val => (pof l ((((i : Nat) : Int) : Int).toNat * 6))), ⟨fun _ _ hv => rfl, fun _ _ _ _ _ => trivial⟩, fun val h_ W hx he => ⟨⟨66, rfl, rfl⟩, ?_⟩, ?_⟩
            ·replace hx := (Upd.drew _ _).trans hx
             replace hl := hl.ext hx
             have hE := Upd.refl (fun _ => False) W
             refine id (X_idx (v := l) (n := es.length) (k := .i64) (i := ((i : Nat) : Int)) S22 rfl hl.sv rfl (by omega) (by omega) ?_)
             exact ⟨hE, rfl⟩
            refine ⟨.det (fun val => (pof l ((((i : Nat) : Int) : Int).toNat * 6 + 0))), ⟨fun _ _ hv => rfl, fun _ _ _ _ _ => trivial⟩, fun val h_ W hx he => ⟨⟨66, rfl, rfl⟩, ?_⟩, ?_⟩
            ·replace hx := (Upd.drew _ _).trans hx
             replace hl := hl.ext hx
             have hE := Upd.refl (fun _ => False) W
             refine id (X_fldS (v := l) (o := (((i : Nat) : Int) : Int).toNat * 6) Fd44_0 rfl hl.sv (by omega) ?_)
             exact ⟨hE, rfl⟩
            refine ⟨.det (fun val => e.1), ⟨fun _ _ hv => rfl, fun _ _ _ _ _ => trivial⟩, fun val h_ W hx he => ⟨⟨66, rfl, rfl⟩, ?_⟩, ?_⟩
            ·replace hx := (Upd.drew _ _).trans hx
             replace hl := hl.ext hx
             have hE := Upd.refl (fun _ => False) W
             refine id (X_load (v := e.1) T42 rfl (kkey hl (Int.toNat_natCast _) hei) ?_)
             exact ⟨hE, rfl⟩
            refine ⟨.det (fun val => (.int .i64 (((e.2.1.length : Nat) : Int)))), ⟨fun _ _ hv => rfl, fun _ _ _ _ _ => trivial⟩, fun val h_ W hx he => ⟨⟨66, rfl, rfl⟩, ?_⟩, ?_⟩
            ·replace hx := (Upd.drew _ _).trans hx
             replace hl := hl.ext hx
             have hE := Upd.refl (fun _ => False) W
             refine id (X_len (v := e.1) (n := e.2.1.length) Tryd.underlying42 rfl (krd hl hei).sv ?_)
             exact ⟨hE, rfl⟩
            refine ⟨.det (fun val => (.bool (false))), ⟨fun _ _ hv => rfl, fun _ _ _ _ _ => trivial⟩, fun val h_ W hx he => ⟨⟨66, rfl, rfl⟩, ?_⟩, ?_⟩
            ·replace hx := (Upd.drew _ _).trans hx
             replace hl := hl.ext hx
             have hE := Upd.refl (fun _ => False) W
             refine id (X_cmp (k := .i64) (a := ((e.2.1.length : Nat) : Int)) (b := 8) (r := false) rfl rfl rfl (decide_eq_false (p := ((8) : Int) < ((((e.2.1.length : Nat) : Int)) : Int)) (by omega)) ?_)
             exact ⟨hE, rfl⟩
            refine ⟨.det (fun val => (.bool (false))), ⟨fun _ _ hv => rfl, fun _ _ _ _ _ => trivial⟩, fun val h_ W hx he => ⟨⟨58, rfl, rfl⟩, ?_⟩, ?_⟩
            ·replace hx := (Upd.drew _ _).trans hx
             replace hl := hl.ext hx
             have hE := Upd.refl (fun _ => False) W
             refine id (X_pick (t := false) (v := (.bool (false))) rfl rfl ?_)
             exact ⟨hE, rfl⟩
            refine ⟨.det (fun val => (.bool (false))), ⟨fun _ _ hv => rfl, fun _ _ _ _ _ => trivial⟩, fun val h_ W hx he => ⟨⟨58, rfl, rfl⟩, ?_⟩, ?_⟩
            ·replace hx := (Upd.drew _ _).trans hx
             replace hl := hl.ext hx
             have hE := Upd.refl (fun _ => False) W
             refine id (X_move (v := (.bool (false))) rfl ?_)
             exact ⟨hE, rfl⟩
            refine ⟨.det (fun val => l), ⟨fun _ _ hv => rfl, fun _ _ _ _ _ => trivial⟩, fun val h_ W hx he => ⟨⟨75, rfl, rfl⟩, ?_⟩, ?_⟩
            ·replace hx := (Upd.drew _ _).trans hx
             replace hl := hl.ext hx
             have hE := Upd.refl (fun _ => False) W
             refine id (X_move (v := l) rfl ?_)
             exact ⟨hE, rfl⟩
            refine ⟨.det (fun val => (.int .i64 (((i : Nat) : Int)))), ⟨fun _ _ hv => rfl, fun _ _ _ _ _ => trivial⟩, fun val h_ W hx he => ⟨⟨75, rfl, rfl⟩, ?_⟩, ?_⟩
            ·replace hx := (Upd.drew _ _).trans hx
             replace hl := hl.ext hx
             have hE := Upd.refl (fun _ => False) W
             refine id (X_move (v := (.int .i64 (((i : Nat) : Int)))) rfl ?_)
             exact ⟨hE, rfl⟩
            refine ⟨.det (fun val => (.int .i64 (((i - 1 : Nat) : Int)))), ⟨fun _ _ hv => rfl, fun _ _ _ _ _ => trivial⟩, fun val h_ W hx he => ⟨⟨75, rfl, rfl⟩, ?_⟩, ?_⟩
            ·replace hx := (Upd.drew _ _).trans hx
             replace hl := hl.ext hx
             have hE := Upd.refl (fun _ => False) W
             refine id (X_arith (k := .i64) (a := ((i : Nat) : Int)) (b := 1) (r := ((i - 1 : Nat) : Int)) rfl rfl rfl (isub64 (by omega) (by omega) (by omega)) ?_)
             exact ⟨hE, rfl⟩
            refine ⟨.det (fun val => (pof l ((((i - 1 : Nat) : Int) : Int).toNat * 6))), ⟨fun _ _ hv => rfl, fun _ _ _ _ _ => trivial⟩, fun val h_ W hx he => ⟨⟨75, rfl, rfl⟩, ?_⟩, ?_⟩
            ·replace hx := (Upd.drew _ _).trans hx
             replace hl := hl.ext hx
             have hE := Upd.refl (fun _ => False) W
             refine id (X_idx (v := l) (n := es.length) (k := .i64) (i := ((i - 1 : Nat) : Int)) S22 rfl hl.sv rfl (by omega) (by omega) ?_)
             exact ⟨hE, rfl⟩
            refine ⟨.det (fun val => (pof l ((((i - 1 : Nat) : Int) : Int).toNat * 6 + 0))), ⟨fun _ _ hv => rfl, fun _ _ _ _ _ => trivial⟩, fun val h_ W hx he => ⟨⟨75, rfl, rfl⟩, ?_⟩, ?_⟩
            ·replace hx := (Upd.drew _ _).trans hx
             replace hl := hl.ext hx
             have hE := Upd.refl (fun _ => False) W
             refine id (X_fldS (v := l) (o := (((i - 1 : Nat) : Int) : Int).toNat * 6) Fd44_0 rfl hl.sv (by omega) ?_)
             exact ⟨hE, rfl⟩
            refine ⟨.det (fun val => c.1), ⟨fun _ _ hv => rfl, fun _ _ _ _ _ => trivial⟩, fun val h_ W hx he => ⟨⟨75, rfl, rfl⟩, ?_⟩, ?_⟩
            ·replace hx := (Upd.drew _ _).trans hx
             replace hl := hl.ext hx
             have hE := Upd.refl (fun _ => False) W
             refine id (X_load (v := c.1) T42 rfl (kkey hl (Int.toNat_natCast _) hci) ?_)
             exact ⟨hE, rfl⟩
            refine ⟨.det (fun val => (strV (c.2.1))), ⟨fun _ _ hv => rfl, fun _ _ _ _ _ => trivial⟩, fun val h_ W hx he => ⟨⟨75, rfl, rfl⟩, ?_⟩, ?_⟩
            ·replace hx := (Upd.drew _ _).trans hx
             replace hl := hl.ext hx
             have hE := Upd.refl (fun _ => False) W
             refine id (X_str (v := c.1) (l := c.2.1) Tryd.underlying42 Tryd.underlying5 Tryd.underlying9 rfl (krd hl hci) ?_)
             exact ⟨hE, rfl⟩
            refine ⟨.det (fun val => l), ⟨fun _ _ hv => rfl, fun _ _ _ _ _ => trivial⟩, fun val h_ W hx he => ⟨⟨75, rfl, rfl⟩, ?_⟩, ?_⟩
            ·replace hx := (Upd.drew _ _).trans hx
             replace hl := hl.ext hx
             have hE := Upd.refl (fun _ => False) W
             refine id (X_move (v := l) rfl ?_)
             exact ⟨hE, rfl⟩
            refine ⟨.det (fun val => (.int .i64 (((i : Nat) : Int)))), ⟨fun _ _ hv => rfl, fun _ _ _ _ _ => trivial⟩, fun val h_ W hx he => ⟨⟨75, rfl, rfl⟩, ?_⟩, ?_⟩
            ·replace hx := (Upd.drew _ _).trans hx
             replace hl := hl.ext hx
             have hE := Upd.refl (fun _ => False) W
             refine id (X_move (v := (.int .i64 (((i : Nat) : Int)))) rfl ?_)
             exact ⟨hE, rfl⟩
            refine ⟨.det (fun val => (pof l ((((i : Nat) : Int) : Int).toNat * 6))), ⟨fun _ _ hv => rfl, fun _ _ _ _ _ => trivial⟩, fun val h_ W hx he => ⟨⟨75, rfl, rfl⟩, ?_⟩, ?_⟩
            ·replace hx := (Upd.drew _ _).trans hx
             replace hl := hl.ext hx
             have hE := Upd.refl (fun _ => False) W
             refine id (X_idx (v := l) (n := es.length) (k := .i64) (i := ((i : Nat) : Int)) S22 rfl hl.sv rfl (by omega) (by omega) ?_)
             exact ⟨hE, rfl⟩
            refine ⟨.det (fun val => (pof l ((((i : Nat) : Int) : Int).toNat * 6 + 0))), ⟨fun _ _ hv => rfl, fun _ _ _ _ _ => trivial⟩, fun val h_ W hx he => ⟨⟨75, rfl, rfl⟩, ?_⟩, ?_⟩
            ·replace hx := (Upd.drew _ _).trans hx
             replace hl := hl.ext hx
             have hE := Upd.refl (fun _ => False) W
             refine id (X_fldS (v := l) (o := (((i : Nat) : Int) : Int).toNat * 6) Fd44_0 rfl hl.sv (by omega) ?_)
             exact ⟨hE, rfl⟩
            refine ⟨.det (fun val => e.1), ⟨fun _ _ hv => rfl, fun _ _ _ _ _ => trivial⟩, fun val h_ W hx he => ⟨⟨75, rfl, rfl⟩, ?_⟩, ?_⟩
            ·replace hx := (Upd.drew _ _).trans hx
             replace hl := hl.ext hx
             have hE := Upd.refl (fun _ => False) W
             refine id (X_load (v := e.1) T42 rfl (kkey hl (Int.toNat_natCast _) hei) ?_)
             exact ⟨hE, rfl⟩
            refine ⟨.det (fun val => (strV (e.2.1))), ⟨fun _ _ hv => rfl, fun _ _ _ _ _ => trivial⟩, fun val h_ W hx he => ⟨⟨75, rfl, rfl⟩, ?_⟩, ?_⟩
            ·replace hx := (Upd.drew _ _).trans hx
             replace hl := hl.ext hx
             have hE := Upd.refl (fun _ => False) W
             refine id (X_str (v := e.1) (l := e.2.1) Tryd.underlying42 Tryd.underlying5 Tryd.underlying9 rfl (krd hl hei) ?_)
             exact ⟨hE, rfl⟩
            intro val W15 hx15 he15
            replace hx15 := (Upd.drew _ _).trans hx15
            have hz15 := hx15.size
            replace hl := hl.ext hx15
            replace hU := hU.trans (Ext.upd hx15)
            refine L_gy (dj := 75) rfl rfl rfl (X_scmp (a := c.2.1) (b := e.2.1) (r := true) rfl rfl rfl hs14 ?_)
            refine L_gy (dj := 58) rfl rfl rfl (X_pick (t := false) (v := (.bool (true))) rfl rfl ?_)
            refine L_op rfl (X_pick (t := true) (v := (.bool (true))) rfl rfl ?_)
            refine L_nil ?_
            refine T_n ?_
            refine W_ct rfl ?_
            refine W_seq ?_
            refine W_reg ?_
            refine L_op rfl (X_assign (v := (.bool (false))) rfl ?_)
            refine L_nil ?_
            refine T_n ?_
            refine W_ret ?_
            refine B_r ?_
            refine T_r ?_
            refine T_r ?_
            refine B_r ?_
            refine T_r ?_
            have hR : ¬ RightK (es.map (fun (x : KE) => x.2)) := fun h => by obtain ⟨⟨h1, h2, h3⟩, h4⟩ := hst.1 (h.2 i (by rw [List.length_map]; exact hi)); have h5 := (h4 (by omega)).2.2; have h9 := hs14; simp [scmp, h5] at h9
            exact BQ_r (End_1 Tryd.results19 (v := .bool false) rfl ⟨by rw [decide_eq_false hR], hU.own hn0⟩)
           ·have hs11_ := of_decide_eq_true hs11
            have hs12_ := of_decide_eq_true hs12
            have hs13_ := of_decide_eq_true hs13
            refine W_draw 33 [[], [0], [0, 1], [0, 1, 2], [0, 1, 2], [0, 1, 2, 3, 4], [0, 1, 2, 3, 4, 5], [0, 1, 2, 3, 4, 5, 6], [0, 1, 2, 3, 4, 5, 6, 7], [0, 1, 2, 3, 4, 5, 6, 7, 8], [0, 1, 2, 3, 4, 5, 6, 7, 8, 9], [0, 1, 2, 3, 4, 5, 6, 7, 8, 9, 10], [0, 1, 2, 3, 4, 5, 6, 7, 8, 9, 10], [0, 1, 2, 3, 4, 5, 6, 7, 8, 9, 10, 11, 12], [0, 1, 2, 3, 4, 5, 6, 7, 8, 9, 10, 11, 12, 13], [0, 1, 2, 3, 4, 5, 6, 7, 8, 9, 10, 11, 12, 13, 14], [0, 1, 2, 3, 4, 5, 6, 7, 8, 9, 10, 11, 12, 13, 14, 15], [0, 1, 2, 3, 4, 5, 6, 7, 8, 9, 10, 11, 12, 13, 14, 15, 16], [0, 1, 2, 3, 4, 5, 6, 7, 8, 9, 10, 11, 12, 13, 14, 15, 16, 17], [0, 1, 2, 3, 4, 5, 6, 7, 8, 9, 10, 11, 12, 13, 14, 15, 16, 17, 18], [0, 1, 2, 3, 4, 5, 6, 7, 8, 9, 10, 11, 12, 13, 14, 15, 16, 17, 18, 19], [0, 1, 2, 3, 4, 5, 6, 7, 8, 9, 10, 11, 12, 13, 14, 15, 16, 17, 18, 19], [0, 1, 2, 3, 4, 5, 6, 7, 8, 9, 10, 11, 12, 13, 14, 15, 16, 17, 18, 19, 21], [0, 1, 2, 3, 4, 5, 6, 7, 8, 9, 10, 11, 12, 13, 14, 15, 16, 17, 18, 19, 20, 21, 22], [0, 1, 2, 3, 4, 5, 6, 7, 8, 9, 10, 11, 12, 13, 14, 15, 16, 17, 18, 19, 20, 21, 22, 23], [0, 1, 2, 3, 4, 5, 6, 7, 8, 9, 10, 11, 12, 13, 14, 15, 16, 17, 18, 19, 20, 21, 22, 23, 24], [0, 1, 2, 3, 4, 5, 6, 7, 8, 9, 10, 11, 12, 13, 14, 15, 16, 17, 18, 19, 20, 21, 22, 23, 24, 25], [0, 1, 2, 3, 4, 5, 6, 7, 8, 9, 10, 11, 12, 13, 14, 15, 16, 17, 18, 19], [0, 1, 2, 3, 4, 5, 6, 7, 8, 9, 10, 11, 12, 13, 14, 15, 16, 17, 18, 19], [0, 1, 2, 3, 4, 5, 6, 7, 8, 9, 10, 11, 12, 13, 14, 15, 16, 17, 18, 19, 27, 28], [0, 1, 2, 3, 4, 5, 6, 7, 8, 9, 10, 11, 12, 13, 14, 15, 16, 17, 18, 19, 27, 28, 29], [0, 1, 2, 3, 4, 5, 6, 7, 8, 9, 10, 11, 12, 13, 14, 15, 16, 17, 18, 19, 27, 28, 29, 30], [0, 1, 2, 3, 4, 5, 6, 7, 8, 9, 10, 11, 12, 13, 14, 15, 16, 17, 18, 19, 27, 28, 29, 30, 31], [0, 1, 2, 3, 4, 5, 6, 7, 8, 9, 10, 11, 12, 13, 14, 15, 16, 17, 18, 19, 20, 21, 22, 23, 24, 25, 26, 27, 28, 29, 30, 31, 32], [0, 1, 2, 3, 4, 5, 6, 7, 8, 9, 10, 11, 12, 13, 14, 15, 16, 17, 18, 19, 20, 21, 22, 23, 24, 25, 26, 27, 28, 29, 30, 31, 32, 33], [0, 1, 2, 3, 4, 5, 6, 7, 8, 9, 10, 11, 12, 13, 14, 15, 16, 17, 18, 19, 20, 21, 22, 23, 24, 25, 26, 27, 28, 29, 30, 31, 32, 33, 34]] mixed (by kernel_rfl) ?_
            refine ⟨.det (fun val => (.int .i64 (((i : Nat) : Int)))), ⟨fun _ _ hv => rfl, fun _ _ _ _ _ => trivial⟩, fun val h_ W hx he => ⟨trivial, ?_⟩, ?_⟩
            ·replace hx := (Upd.drew _ _).trans hx
             replace hl := hl.ext hx
             have hE := Upd.refl (fun _ => False) W
             refine id (X_move (v := (.int .i64 (((i : Nat) : Int)))) rfl ?_)
             exact ⟨hE, rfl⟩
            refine ⟨.det (fun val => (.bool (true))), ⟨fun _ _ hv => rfl, fun _ _ _ _ _ => trivial⟩, fun val h_ W hx he => ⟨trivial, ?_⟩, ?_⟩
            ·replace hx := (Upd.drew _ _).trans hx
             replace hl := hl.ext hx
             have hE := Upd.refl (fun _ => False) W
             refine id (X_cmp (k := .i64) (a := ((i : Nat) : Int)) (b := 0) (r := true) rfl rfl rfl (decide_eq_true (p := ((0) : Int) < ((((i : Nat) : Int)) : Int)) (by omega)) ?_)
             exact ⟨hE, rfl⟩
            refine ⟨.det (fun val => (.bool (true))), ⟨fun _ _ hv => rfl, fun _ _ _ _ _ => trivial⟩, fun val h_ W hx he => ⟨trivial, ?_⟩, ?_⟩
            ·replace hx := (Upd.drew _ _).trans hx
             replace hl := hl.ext hx
             have hE := Upd.refl (fun _ => False) W
             refine id (X_move (v := (.bool (true))) rfl ?_)
             exact ⟨hE, rfl⟩
            refine ⟨.det (fun val => l), ⟨fun _ _ hv => rfl, fun _ _ _ _ _ => trivial⟩, fun val h_ W hx he => ⟨⟨58, rfl, rfl⟩, ?_⟩, ?_⟩
            ·replace hx := (Upd.drew _ _).trans hx
             replace hl := hl.ext hx
             have hE := Upd.refl (fun _ => False) W
             refine id (X_move (v := l) rfl ?_)
             exact ⟨hE, rfl⟩
            refine ⟨.det (fun val => (.int .i64 (((i : Nat) : Int)))), ⟨fun _ _ hv => rfl, fun _ _ _ _ _ => trivial⟩, fun val h_ W hx he => ⟨⟨58, rfl, rfl⟩, ?_⟩, ?_⟩
            ·replace hx := (Upd.drew _ _).trans hx
             replace hl := hl.ext hx
             have hE := Upd.refl (fun _ => False) W
             refine id (X_move (v := (.int .i64 (((i : Nat) : Int)))) rfl ?_)
             exact ⟨hE, rfl⟩
            refine ⟨.det (fun val => (pof l ((((i : Nat) : Int) : Int).toNat * 6))), ⟨fun _ _ hv => rfl, fun _ _ _ _ _ => trivial⟩, fun val h_ W hx he => ⟨⟨58, rfl, rfl⟩, ?_⟩, ?_⟩
            ·replace hx := (Upd.drew _ _).trans hx
             replace hl := hl.ext hx
             have hE := Upd.refl (fun _ => False) W
             refine id (X_idx (v := l) (n := es.length) (k := .i64) (i := ((i : Nat) : Int)) S22 rfl hl.sv rfl (by omega) (by omega) ?_)
             exact ⟨hE, rfl⟩
            refine ⟨.det (fun val => (pof l ((((i : Nat) : Int) : Int).toNat * 6 + 0))), ⟨fun _ _ hv => rfl, fun _ _ _ _ _ => trivial⟩, fun val h_ W hx he => ⟨⟨58, rfl, rfl⟩, ?_⟩, ?_⟩
            ·replace hx := (Upd.drew _ _).trans hx
             replace hl := hl.ext hx
             have hE := Upd.refl (fun _ => False) W
             refine id (X_fldS (v := l) (o := (((i : Nat) : Int) : Int).toNat * 6) Fd44_0 rfl hl.sv (by omega) ?_)
             exact ⟨hE, rfl⟩
            refine ⟨.det (fun val => e.1), ⟨fun _ _ hv => rfl, fun _ _ _ _ _ => trivial⟩, fun val h_ W hx he => ⟨⟨58, rfl, rfl⟩, ?_⟩, ?_⟩
            ·replace hx := (Upd.drew _ _).trans hx
             replace hl := hl.ext hx
             have hE := Upd.refl (fun _ => False) W
             refine id (X_load (v := e.1) T42 rfl (kkey hl (Int.toNat_natCast _) hei) ?_)
             exact ⟨hE, rfl⟩
            refine ⟨.det (fun val => (.int .i64 (((e.2.1.length : Nat) : Int)))), ⟨fun _ _ hv => rfl, fun _ _ _ _ _ => trivial⟩, fun val h_ W hx he => ⟨⟨58, rfl, rfl⟩, ?_⟩, ?_⟩
            ·replace hx := (Upd.drew _ _).trans hx
             replace hl := hl.ext hx
             have hE := Upd.refl (fun _ => False) W
             refine id (X_len (v := e.1) (n := e.2.1.length) Tryd.underlying42 rfl (krd hl hei).sv ?_)
             exact ⟨hE, rfl⟩
            refine ⟨.det (fun val => (.bool (false))), ⟨fun _ _ hv => rfl, fun _ _ _ _ _ => trivial⟩, fun val h_ W hx he => ⟨⟨58, rfl, rfl⟩, ?_⟩, ?_⟩
            ·replace hx := (Upd.drew _ _).trans hx
             replace hl := hl.ext hx
             have hE := Upd.refl (fun _ => False) W
             refine id (X_cmp (k := .i64) (a := ((e.2.1.length : Nat) : Int)) (b := 1) (r := false) rfl rfl rfl (decide_eq_false (p := ((((e.2.1.length : Nat) : Int)) : Int) < ((1) : Int)) (by omega)) ?_)
             exact ⟨hE, rfl⟩
            refine ⟨.det (fun val => (.bool (false))), ⟨fun _ _ hv => rfl, fun _ _ _ _ _ => trivial⟩, fun val h_ W hx he => ⟨⟨58, rfl, rfl⟩, ?_⟩, ?_⟩
            ·replace hx := (Upd.drew _ _).trans hx
             replace hl := hl.ext hx
             have hE := Upd.refl (fun _ => False) W
             refine id (X_move (v := (.bool (false))) rfl ?_)
             exact ⟨hE, rfl⟩
            refine ⟨.det (fun val => l), ⟨fun _ _ hv => rfl, fun _ _ _ _ _ => trivial⟩, fun val h_ W hx he => ⟨⟨66, rfl, rfl⟩, ?_⟩, ?_⟩
            ·replace hx := (Upd.drew _ _).trans hx
             replace hl := hl.ext hx
             have hE := Upd.refl (fun _ => False) W
             refine id (X_move (v := l) rfl ?_)
             exact ⟨hE, rfl⟩
            refine ⟨.det (fun val => (.int .i64 (((i : Nat) : Int)))), ⟨fun _ _ hv => rfl, fun _ _ _ _ _ => trivial⟩, fun val h_ W hx he => ⟨⟨66, rfl, rfl⟩, ?_⟩, ?_⟩
            ·replace hx := (Upd.drew _ _).trans hx
             replace hl := hl.ext hx
             have hE := Upd.refl (fun _ => False) W
             refine id (X_move (v := (.int .i64 (((i : Nat) : Int)))) rfl ?_)
             exact ⟨hE, rfl⟩
            refine ⟨.det (fun val => (pof l ((((i : Nat) : Int) : Int).toNat * 6))), ⟨fun _ _ hv => rfl, fun _ _ _ _ _ => trivial⟩, fun val h_ W hx he => ⟨⟨66, rfl, rfl⟩, ?_⟩, ?_⟩
            ·replace hx := (Upd.drew _ _).trans hx
             replace hl := hl.ext hx
             have hE := Upd.refl (fun _ => False) W
             refine id (X_idx (v := l) (n := es.length) (k := .i64) (i := ((i : Nat) : Int)) S22 rfl hl.sv rfl (by omega) (by omega) ?_)
             exact ⟨hE, rfl⟩
            refine ⟨.det (fun val => (pof l ((((i : Nat) : Int) : Int).toNat * 6 + 0))), ⟨fun _ _ hv => rfl, fun _ _ _ _ _ => trivial⟩, fun val h_ W hx he => ⟨⟨66, rfl, rfl⟩, ?_⟩, ?_⟩
            ·replace hx := (Upd.drew _ _).trans hx
             replace hl := hl.ext hx
             have hE := Upd.refl (fun _ => False) W
             refine id (X_fldS (v := l) (o := (((i : Nat) : Int) : Int).toNat * 6) Fd44_0 rfl hl.sv (by omega) ?_)
             exact ⟨hE, rfl⟩
            refine ⟨.det (fun val => e.1), ⟨fun _ _ hv => rfl, fun _ _ _ _ _ => trivial⟩, fun val h_ W hx he => ⟨⟨66, rfl, rfl⟩, ?_⟩, ?_⟩
            ·replace hx := (Upd.drew _ _).trans hx
             replace hl := hl.ext hx
             have hE := Upd.refl (fun _ => False) W
             refine id (X_load (v := e.1) T42 rfl (kkey hl (Int.toNat_natCast _) hei) ?_)
             exact ⟨hE, rfl⟩
            refine ⟨.det (fun val => (.int .i64 (((e.2.1.length : Nat) : Int)))), ⟨fun _ _ hv => rfl, fun _ _ _ _ _ => trivial⟩, fun val h_ W hx he => ⟨⟨66, rfl, rfl⟩, ?_⟩, ?_⟩
            ·replace hx := (Upd.drew _ _).trans hx
             replace hl := hl.ext hx
             have hE := Upd.refl (fun _ => False) W
             refine id (X_len (v := e.1) (n := e.2.1.length) Tryd.underlying42 rfl (krd hl hei).sv ?_)
             exact ⟨hE, rfl⟩
            refine ⟨.det (fun val => (.bool (false))), ⟨fun _ _ hv => rfl, fun _ _ _ _ _ => trivial⟩, fun val h_ W hx he => ⟨⟨66, rfl, rfl⟩, ?_⟩, ?_⟩
            ·replace hx := (Upd.drew _ _).trans hx
             replace hl := hl.ext hx
             have hE := Upd.refl (fun _ => False) W
             refine id (X_cmp (k := .i64) (a := ((e.2.1.length : Nat) : Int)) (b := 8) (r := false) rfl rfl rfl (decide_eq_false (p := ((8) : Int) < ((((e.2.1.length : Nat) : Int)) : Int)) (by omega)) ?_)
             exact ⟨hE, rfl⟩
            refine ⟨.det (fun val => (.bool (false))), ⟨fun _ _ hv => rfl, fun _ _ _ _ _ => trivial⟩, fun val h_ W hx he => ⟨⟨58, rfl, rfl⟩, ?_⟩, ?_⟩
            ·replace hx := (Upd.drew _ _).trans hx
             replace hl := hl.ext hx
             have hE := Upd.refl (fun _ => False) W
             refine id (X_pick (t := false) (v := (.bool (false))) rfl rfl ?_)
             exact ⟨hE, rfl⟩
            refine ⟨.det (fun val => (.bool (false))), ⟨fun _ _ hv => rfl, fun _ _ _ _ _ => trivial⟩, fun val h_ W hx he => ⟨⟨58, rfl, rfl⟩, ?_⟩, ?_⟩
            ·replace hx := (Upd.drew _ _).trans hx
             replace hl := hl.ext hx
             have hE := Upd.refl (fun _ => False) W
             refine id (X_move (v := (.bool (false))) rfl ?_)
             exact ⟨hE, rfl⟩
            refine ⟨.det (fun val => l), ⟨fun _ _ hv => rfl, fun _ _ _ _ _ => trivial⟩, fun val h_ W hx he => ⟨⟨75, rfl, rfl⟩, ?_⟩, ?_⟩
            ·replace hx := (Upd.drew _ _).trans hx
             replace hl := hl.ext hx
             have hE := Upd.refl (fun _ => False) W
             refine id (X_move (v := l) rfl ?_)
             exact ⟨hE, rfl⟩
            refine ⟨.det (fun val => (.int .i64 (((i : Nat) : Int)))), ⟨fun _ _ hv => rfl, fun _ _ _ _ _ => trivial⟩, fun val h_ W hx he => ⟨⟨75, rfl, rfl⟩, ?_⟩, ?_⟩
            ·replace hx := (Upd.drew _ _).trans hx
             replace hl := hl.ext hx
             have hE := Upd.refl (fun _ => False) W
             refine id (X_move (v := (.int .i64 (((i : Nat) : Int)))) rfl ?_)
             exact ⟨hE, rfl⟩
            refine ⟨.det (fun val => (.int .i64 (((i - 1 : Nat) : Int)))), ⟨fun _ _ hv => rfl, fun _ _ _ _ _ => trivial⟩, fun val h_ W hx he => ⟨⟨75, rfl, rfl⟩, ?_⟩, ?_⟩
            ·replace hx := (Upd.drew _ _).trans hx
             replace hl := hl.ext hx
             have hE := Upd.refl (fun _ => False) W
             refine id (X_arith (k := .i64) (a := ((i : Nat) : Int)) (b := 1) (r := ((i - 1 : Nat) : Int)) rfl rfl rfl (isub64 (by omega) (by omega) (by omega)) ?_)
             exact ⟨hE, rfl⟩
            refine ⟨.det (fun val => (pof l ((((i - 1 : Nat) : Int) : Int).toNat * 6))), ⟨fun _ _ hv => rfl, fun _ _ _ _ _ => trivial⟩, fun val h_ W hx he => ⟨⟨75, rfl, rfl⟩, ?_⟩, ?_⟩
            ·replace hx := (Upd.drew _ _).trans hx
             replace hl := hl.ext hx
             have hE := Upd.refl (fun _ => False) W
             refine id (X_idx (v := l) (n := es.length) (k := .i64) (i := ((i - 1 : Nat) : Int)) S22 rfl hl.sv rfl (by omega) (by omega) ?_)
             exact ⟨hE, rfl⟩
            refine ⟨.det (fun val => (pof l ((((i - 1 : Nat) : Int) : Int).toNat * 6 + 0))), ⟨fun _ _ hv => rfl, fun _ _ _ _ _ => trivial⟩, fun val h_ W hx he => ⟨⟨75, rfl, rfl⟩, ?_⟩, ?_⟩
            ·replace hx := (Upd.drew _ _).trans hx
             replace hl := hl.ext hx
             have hE := Upd.refl (fun _ => False) W
             refine id (X_fldS (v := l) (o := (((i - 1 : Nat) : Int) : Int).toNat * 6) Fd44_0 rfl hl.sv (by omega) ?_)
             exact ⟨hE, rfl⟩
            refine ⟨.det (fun val => c.1), ⟨fun _ _ hv => rfl, fun _ _ _ _ _ => trivial⟩, fun val h_ W hx he => ⟨⟨75, rfl, rfl⟩, ?_⟩, ?_⟩
            ·replace hx := (Upd.drew _ _).trans hx
             replace hl := hl.ext hx
             have hE := Upd.refl (fun _ => False) W
             refine id (X_load (v := c.1) T42 rfl (kkey hl (Int.toNat_natCast _) hci) ?_)
             exact ⟨hE, rfl⟩
            refine ⟨.det (fun val => (strV (c.2.1))), ⟨fun _ _ hv => rfl, fun _ _ _ _ _ => trivial⟩, fun val h_ W hx he => ⟨⟨75, rfl, rfl⟩, ?_⟩, ?_⟩
            ·replace hx := (Upd.drew _ _).trans hx
             replace hl := hl.ext hx
             have hE := Upd.refl (fun _ => False) W
             refine id (X_str (v := c.1) (l := c.2.1) Tryd.underlying42 Tryd.underlying5 Tryd.underlying9 rfl (krd hl hci) ?_)
             exact ⟨hE, rfl⟩
            refine ⟨.det (fun val => l), ⟨fun _ _ hv => rfl, fun _ _ _ _ _ => trivial⟩, fun val h_ W hx he => ⟨⟨75, rfl, rfl⟩, ?_⟩, ?_⟩
            ·replace hx := (Upd.drew _ _).trans hx
             replace hl := hl.ext hx
             have hE := Upd.refl (fun _ => False) W
             refine id (X_move (v := l) rfl ?_)
             exact ⟨hE, rfl⟩
            refine ⟨.det (fun val => (.int .i64 (((i : Nat) : Int)))), ⟨fun _ _ hv => rfl, fun _ _ _ _ _ => trivial⟩, fun val h_ W hx he => ⟨⟨75, rfl, rfl⟩, ?_⟩, ?_⟩
            ·replace hx := (Upd.drew _ _).trans hx
             replace hl := hl.ext hx
             have hE := Upd.refl (fun _ => False) W
             refine id (X_move (v := (.int .i64 (((i : Nat) : Int)))) rfl ?_)
             exact ⟨hE, rfl⟩
            refine ⟨.det (fun val => (pof l ((((i : Nat) : Int) : Int).toNat * 6))), ⟨fun _ _ hv => rfl, fun _ _ _ _ _ => trivial⟩, fun val h_ W hx he => ⟨⟨75, rfl, rfl⟩, ?_⟩, ?_⟩
            ·replace hx := (Upd.drew _ _).trans hx
             replace hl := hl.ext hx
             have hE := Upd.refl (fun _ => False) W
             refine id (X_idx (v := l) (n := es.length) (k := .i64) (i := ((i : Nat) : Int)) S22 rfl hl.sv rfl (by omega) (by omega) ?_)
             exact ⟨hE, rfl⟩
            refine ⟨.det (fun val => (pof l ((((i : Nat) : Int) : Int).toNat * 6 + 0))), ⟨fun _ _ hv => rfl, fun _ _ _ _ _ => trivial⟩, fun val h_ W hx he => ⟨⟨75, rfl, rfl⟩, ?_⟩, ?_⟩
            ·replace hx := (Upd.drew _ _).trans hx
             replace hl := hl.ext hx
             have hE := Upd.refl (fun _ => False) W
             refine id (X_fldS (v := l) (o := (((i : Nat) : Int) : Int).toNat * 6) Fd44_0 rfl hl.sv (by omega) ?_)
             exact ⟨hE, rfl⟩
            refine ⟨.det (fun val => e.1), ⟨fun _ _ hv => rfl, fun _ _ _ _ _ => trivial⟩, fun val h_ W hx he => ⟨⟨75, rfl, rfl⟩, ?_⟩, ?_⟩
            ·replace hx := (Upd.drew _ _).trans hx
             replace hl := hl.ext hx
             have hE := Upd.refl (fun _ => False) W
             refine id (X_load (v := e.1) T42 rfl (kkey hl (Int.toNat_natCast _) hei) ?_)
             exact ⟨hE, rfl⟩
            refine ⟨.det (fun val => (strV (e.2.1))), ⟨fun _ _ hv => rfl, fun _ _ _ _ _ => trivial⟩, fun val h_ W hx he => ⟨⟨75, rfl, rfl⟩, ?_⟩, ?_⟩
            ·replace hx := (Upd.drew _ _).trans hx
             replace hl := hl.ext hx
             have hE := Upd.refl (fun _ => False) W
             refine id (X_str (v := e.1) (l := e.2.1) Tryd.underlying42 Tryd.underlying5 Tryd.underlying9 rfl (krd hl hei) ?_)
             exact ⟨hE, rfl⟩
            intro val W20 hx20 he20
            replace hx20 := (Upd.drew _ _).trans hx20
            have hz20 := hx20.size
            replace hl := hl.ext hx20
            replace hU := hU.trans (Ext.upd hx20)
            refine L_gy (dj := 75) rfl rfl rfl (X_scmp (a := c.2.1) (b := e.2.1) (r := false) rfl rfl rfl hs14 ?_)
            refine L_gy (dj := 58) rfl rfl rfl (X_pick (t := false) (v := (.bool (false))) rfl rfl ?_)
            refine L_op rfl (X_pick (t := true) (v := (.bool (false))) rfl rfl ?_)
            refine L_nil ?_
            refine T_n ?_
            refine W_cf rfl ?_
            refine W_skip ?_
            refine B_n ?_
            refine T_n ?_
            refine W_reg ?_
            refine L_op rfl (X_move (v := (.int .i64 (((i : Nat) : Int)))) rfl ?_)
            refine L_op rfl (X_arith (k := .i64) (a := ((i : Nat) : Int)) (b := 1) (r := ((i + 1 : Nat) : Int)) rfl rfl rfl (iadd64 (by omega) (by omega) (by omega)) ?_)
            refine L_op rfl (X_assign (v := (.int .i64 (((i + 1 : Nat) : Int)))) rfl ?_)
            refine L_nil ?_
            refine T_n ?_
            exact ⟨rfl, i + 1, ⟨⟨hi, hl, fun j hj => (Nat.lt_or_ge j i).elim (hz j) fun h1 => by obtain rfl : j = i := by { omega }; exact hst.2 ⟨⟨of_decide_eq_true hs7, of_decide_eq_true hs8, hkq⟩, fun _ => ⟨by omega, by omega, (by have h9 := hs14; simpa [scmp] using h9)⟩⟩, hU⟩, (by show es.length - (i + 1) < es.length - i; omega)⟩, (Out.mk rfl), ⟨rfl, trivial⟩⟩
          ·have hs11_ := of_decide_eq_true hs11
           have hs12_ := of_decide_eq_true hs12
           have hs13_ := of_decide_eq_false hs13
           refine W_draw 33 [[], [0], [0, 1], [0, 1, 2], [0, 1, 2], [0, 1, 2, 3, 4], [0, 1, 2, 3, 4, 5], [0, 1, 2, 3, 4, 5, 6], [0, 1, 2, 3, 4, 5, 6, 7], [0, 1, 2, 3, 4, 5, 6, 7, 8], [0, 1, 2, 3, 4, 5, 6, 7, 8, 9], [0, 1, 2, 3, 4, 5, 6, 7, 8, 9, 10], [0, 1, 2, 3, 4, 5, 6, 7, 8, 9, 10], [0, 1, 2, 3, 4, 5, 6, 7, 8, 9, 10, 11, 12], [0, 1, 2, 3, 4, 5, 6, 7, 8, 9, 10, 11, 12, 13], [0, 1, 2, 3, 4, 5, 6, 7, 8, 9, 10, 11, 12, 13, 14], [0, 1, 2, 3, 4, 5, 6, 7, 8, 9, 10, 11, 12, 13, 14, 15], [0, 1, 2, 3, 4, 5, 6, 7, 8, 9, 10, 11, 12, 13, 14, 15, 16], [0, 1, 2, 3, 4, 5, 6, 7, 8, 9, 10, 11, 12, 13, 14, 15, 16, 17], [0, 1, 2, 3, 4, 5, 6, 7, 8, 9, 10, 11, 12, 13, 14, 15, 16, 17, 18], [0, 1, 2, 3, 4, 5, 6, 7, 8, 9, 10, 11, 12, 13, 14, 15, 16, 17, 18, 19], [0, 1, 2, 3, 4, 5, 6, 7, 8, 9, 10, 11, 12, 13, 14, 15, 16, 17, 18, 19], [0, 1, 2, 3, 4, 5, 6, 7, 8, 9, 10, 11, 12, 13, 14, 15, 16, 17, 18, 19, 21], [0, 1, 2, 3, 4, 5, 6, 7, 8, 9, 10, 11, 12, 13, 14, 15, 16, 17, 18, 19, 20, 21, 22], [0, 1, 2, 3, 4, 5, 6, 7, 8, 9, 10, 11, 12, 13, 14, 15, 16, 17, 18, 19, 20, 21, 22, 23], [0, 1, 2, 3, 4, 5, 6, 7, 8, 9, 10, 11, 12, 13, 14, 15, 16, 17, 18, 19, 20, 21, 22, 23, 24], [0, 1, 2, 3, 4, 5, 6, 7, 8, 9, 10, 11, 12, 13, 14, 15, 16, 17, 18, 19, 20, 21, 22, 23, 24, 25], [0, 1, 2, 3, 4, 5, 6, 7, 8, 9, 10, 11, 12, 13, 14, 15, 16, 17, 18, 19], [0, 1, 2, 3, 4, 5, 6, 7, 8, 9, 10, 11, 12, 13, 14, 15, 16, 17, 18, 19], [0, 1, 2, 3, 4, 5, 6, 7, 8, 9, 10, 11, 12, 13, 14, 15, 16, 17, 18, 19, 27, 28], [0, 1, 2, 3, 4, 5, 6, 7, 8, 9, 10, 11, 12, 13, 14, 15, 16, 17, 18, 19, 27, 28, 29], [0, 1, 2, 3, 4, 5, 6, 7, 8, 9, 10, 11, 12, 13, 14, 15, 16, 17, 18, 19, 27, 28, 29, 30], [0, 1, 2, 3, 4, 5, 6, 7, 8, 9, 10, 11, 12, 13, 14, 15, 16, 17, 18, 19, 27, 28, 29, 30, 31], [0, 1, 2, 3, 4, 5, 6, 7, 8, 9, 10, 11, 12, 13, 14, 15, 16, 17, 18, 19, 20, 21, 22, 23, 24, 25, 26, 27, 28, 29, 30, 31, 32], [0, 1, 2, 3, 4, 5, 6, 7, 8, 9, 10, 11, 12, 13, 14, 15, 16, 17, 18, 19, 20, 21, 22, 23, 24, 25, 26, 27, 28, 29, 30, 31, 32, 33], [0, 1, 2, 3, 4, 5, 6, 7, 8, 9, 10, 11, 12, 13, 14, 15, 16, 17, 18, 19, 20, 21, 22, 23, 24, 25, 26, 27, 28, 29, 30, 31, 32, 33, 34]] mixed (by kernel_rfl) ?_
           refine ⟨.det (fun val => (.int .i64 (((i : Nat) : Int)))), ⟨fun _ _ hv => rfl, fun _ _ _ _ _ => trivial⟩, fun val h_ W hx he => ⟨trivial, ?_⟩, ?_⟩
           ·replace hx := (Upd.drew _ _).trans hx
            replace hl := hl.ext hx
            have hE := Upd.refl (fun _ => False) W
            refine id (X_move (v := (.int .i64 (((i : Nat) : Int)))) rfl ?_)
            exact ⟨hE, rfl⟩
           refine ⟨.det (fun val => (.bool (true))), ⟨fun _ _ hv => rfl, fun _ _ _ _ _ => trivial⟩, fun val h_ W hx he => ⟨trivial, ?_⟩, ?_⟩
           ·replace hx := (Upd.drew _ _).trans hx
            replace hl := hl.ext hx
            have hE := Upd.refl (fun _ => False) W
            refine id (X_cmp (k := .i64) (a := ((i : Nat) : Int)) (b := 0) (r := true) rfl rfl rfl (decide_eq_true (p := ((0) : Int) < ((((i : Nat) : Int)) : Int)) (by omega)) ?_)
            exact ⟨hE, rfl⟩
           refine ⟨.det (fun val => (.bool (true))), ⟨fun _ _ hv => rfl, fun _ _ _ _ _ => trivial⟩, fun val h_ W hx he => ⟨trivial, ?_⟩, ?_⟩
           ·replace hx := (Upd.drew _ _).trans hx
            replace hl := hl.ext hx
            have hE := Upd.refl (fun _ => False) W
            refine id (X_move (v := (.bool (true))) rfl ?_)
            exact ⟨hE, rfl⟩
           refine ⟨.det (fun val => l), ⟨fun _ _ hv => rfl, fun _ _ _ _ _ => trivial⟩, fun val h_ W hx he => ⟨⟨58, rfl, rfl⟩, ?_⟩, ?_⟩
           ·replace hx := (Upd.drew _ _).trans hx
            replace hl := hl.ext hx
            have hE := Upd.refl (fun _ => False) W
            refine id (X_move (v := l) rfl ?_)
            exact ⟨hE, rfl⟩
           refine ⟨.det (fun val => (.int .i64 (((i : Nat) : Int)))), ⟨fun _ _ hv => rfl, fun _ _ _ _ _ => trivial⟩, fun val h_ W hx he => ⟨⟨58, rfl, rfl⟩, ?_⟩, ?_⟩
           ·replace hx := (Upd.drew _ _).trans hx
            replace hl := hl.ext hx
            have hE := Upd.refl (fun _ => False) W
            refine id (X_move (v := (.int .i64 (((i : Nat) : Int)))) rfl ?_)
            exact ⟨hE, rfl⟩
           refine ⟨.det (fun val => (pof l ((((i : Nat) : Int) : Int).toNat * 6))), ⟨fun _ _ hv => rfl, fun _ _ _ _ _ => trivial⟩, fun val h_ W hx he => ⟨⟨58, rfl, rfl⟩, ?_⟩, ?_⟩
           ·replace hx := (Upd.drew _ _).trans hx
            replace hl := hl.ext hx
            have hE := Upd.refl (fun _ => False) W
            refine id (X_idx (v := l) (n := es.length) (k := .i64) (i := ((i : Nat) : Int)) S22 rfl hl.sv rfl (by omega) (by omega) ?_)
            exact ⟨hE, rfl⟩
           refine ⟨.det (fun val => (pof l ((((i : Nat) : Int) : Int).toNat * 6 + 0))), ⟨fun _ _ hv => rfl, fun _ _ _ _ _ => trivial⟩, fun val h_ W hx he => ⟨⟨58, rfl, rfl⟩, ?_⟩, ?_⟩
           ·replace hx := (Upd.drew _ _).trans hx
            replace hl := hl.ext hx
            have hE := Upd.refl (fun _ => False) W
            refine id (X_fldS (v := l) (o := (((i : Nat) : Int) : Int).toNat * 6) Fd44_0 rfl hl.sv (by omega) ?_)
            exact ⟨hE, rfl⟩
           refine ⟨.det (fun val => e.1), ⟨fun _ _ hv => rfl, fun _ _ _ _ _ => trivial⟩, fun val h_ W hx he => ⟨⟨58, rfl, rfl⟩, ?_⟩, ?_⟩
           ·replace hx := (Upd.drew _ _).trans hx
            replace hl := hl.ext hx
            have hE := Upd.refl (fun _ => False) W
            refine id (X_load (v := e.1) T42 rfl (kkey hl (Int.toNat_natCast _) hei) ?_)
            exact ⟨hE, rfl⟩
           refine ⟨.det (fun val => (.int .i64 (((e.2.1.length : Nat) : Int)))), ⟨fun _ _ hv => rfl, fun _ _ _ _ _ => trivial⟩, fun val h_ W hx he => ⟨⟨58, rfl, rfl⟩, ?_⟩, ?_⟩
           ·replace hx := (Upd.drew _ _).trans hx
            replace hl := hl.ext hx
            have hE := Upd.refl (fun _ => False) W
            refine id (X_len (v := e.1) (n := e.2.1.length) Tryd.underlying42 rfl (krd hl hei).sv ?_)
            exact ⟨hE, rfl⟩
           refine ⟨.det (fun val => (.bool (false))), ⟨fun _ _ hv => rfl, fun _ _ _ _ _ => trivial⟩, fun val h_ W hx he => ⟨⟨58, rfl, rfl⟩, ?_⟩, ?_⟩
           ·replace hx := (Upd.drew _ _).trans hx
            replace hl := hl.ext hx
            have hE := Upd.refl (fun _ => False) W
            refine id (X_cmp (k := .i64) (a := ((e.2.1.length : Nat) : Int)) (b := 1) (r := false) rfl rfl rfl (decide_eq_false (p := ((((e.2.1.length : Nat) : Int)) : Int) < ((1) : Int)) (by omega)) ?_)
            exact ⟨hE, rfl⟩
           refine ⟨.det (fun val => (.bool (false))), ⟨fun _ _ hv => rfl, fun _ _ _ _ _ => trivial⟩, fun val h_ W hx he => ⟨⟨58, rfl, rfl⟩, ?_⟩, ?_⟩
           ·replace hx := (Upd.drew _ _).trans hx
            replace hl := hl.ext hx
            have hE := Upd.refl (fun _ => False) W
            refine id (X_move (v := (.bool (false))) rfl ?_)
            exact ⟨hE, rfl⟩
           refine ⟨.det (fun val => l), ⟨fun _ _ hv => rfl, fun _ _ _ _ _ => trivial⟩, fun val h_ W hx he => ⟨⟨66, rfl, rfl⟩, ?_⟩, ?_⟩
           ·replace hx := (Upd.drew _ _).trans hx
            replace hl := hl.ext hx
            have hE := Upd.refl (fun _ => False) W
            refine id (X_move (v := l) rfl ?_)
            exact ⟨hE, rfl⟩
           refine ⟨.det (fun val => (.int .i64 (((i : Nat) : Int)))), ⟨fun _ _ hv => rfl, fun _ _ _ _ _ => trivial⟩, fun val h_ W hx he => ⟨⟨66, rfl, rfl⟩, ?_⟩, ?_⟩
           ·replace hx := (Upd.drew _ _).trans hx
            replace hl := hl.ext hx
            have hE := Upd.refl (fun _ => False) W
            refine id (X_move (v := (.int .i64 (((i : Nat) : Int)))) rfl ?_)
            exact ⟨hE, rfl⟩
           refine ⟨.det (fun val => (pof l ((((i : Nat) : Int) : Int).toNat * 6))), ⟨fun _ _ hv => rfl, fun _ _ _ _ _ => trivial⟩, fun val h_ W hx he => ⟨⟨66, rfl, rfl⟩, ?_⟩, ?_⟩
           ·replace hx := (Upd.drew _ _).trans hx
            replace hl := hl.ext hx
            have hE := Upd.refl (fun _ => False) W
            refine id (X_idx (v := l) (n := es.length) (k := .i64) (i := ((i : Nat) : Int)) S22 rfl hl.sv rfl (by omega) (by omega) ?_)
            exact ⟨hE, rfl⟩
           refine ⟨.det (fun val => (pof l ((((i : Nat) : Int) : Int).toNat * 6 + 0))), ⟨fun _ _ hv => rfl, fun _ _ _ _ _ => trivial⟩, fun val h_ W hx he => ⟨⟨66, rfl, rfl⟩, ?_⟩, ?_⟩
           ·replace hx := (Upd.drew _ _).trans hx
            replace hl := hl.ext hx
            have hE := Upd.refl (fun _ => False) W
            refine id (X_fldS (v := l) (o := (((i : Nat) : Int) : Int).toNat * 6) Fd44_0 rfl hl.sv (by omega) ?_)
            exact ⟨hE, rfl⟩
           refine ⟨.det (fun val => e.1), ⟨fun _ _ hv => rfl, fun _ _ _ _ _ => trivial⟩, fun val h_ W hx he => ⟨⟨66, rfl, rfl⟩, ?_⟩, ?_⟩
           ·replace hx := (Upd.drew _ _).trans hx
            replace hl := hl.ext hx
            have hE := Upd.refl (fun _ => False) W
            refine id (X_load (v := e.1) T42 rfl (kkey hl (Int.toNat_natCast _) hei) ?_)
            exact ⟨hE, rfl⟩
           refine ⟨.det (fun val => (.int .i64 (((e.2.1.length : Nat) : Int)))), ⟨fun _ _ hv => rfl, fun _ _ _ _ _ => trivial⟩, fun val h_ W hx he => ⟨⟨66, rfl, rfl⟩, ?_⟩, ?_⟩
           ·replace hx := (Upd.drew _ _).trans hx
            replace hl := hl.ext hx
            have hE := Upd.refl (fun _ => False) W
            refine id (X_len (v := e.1) (n := e.2.1.length) Tryd.underlying42 rfl (krd hl hei).sv ?_)
            exact ⟨hE, rfl⟩
           refine ⟨.det (fun val => (.bool (true))), ⟨fun _ _ hv => rfl, fun _ _ _ _ _ => trivial⟩, fun val h_ W hx he => ⟨⟨66, rfl, rfl⟩, ?_⟩, ?_⟩
           ·replace hx := (Upd.drew _ _).trans hx
            replace hl := hl.ext hx
            have hE := Upd.refl (fun _ => False) W
            refine id (X_cmp (k := .i64) (a := ((e.2.1.length : Nat) : Int)) (b := 8) (r := true) rfl rfl rfl (decide_eq_true (p := ((8) : Int) < ((((e.2.1.length : Nat) : Int)) : Int)) (by omega)) ?_)
            exact ⟨hE, rfl⟩
           refine ⟨.det (fun val => (.bool (true))), ⟨fun _ _ hv => rfl, fun _ _ _ _ _ => trivial⟩, fun val h_ W hx he => ⟨⟨58, rfl, rfl⟩, ?_⟩, ?_⟩
           ·replace hx := (Upd.drew _ _).trans hx
            replace hl := hl.ext hx
            have hE := Upd.refl (fun _ => False) W
            refine id (X_pick (t := false) (v := (.bool (true))) rfl rfl ?_)
            exact ⟨hE, rfl⟩
           refine ⟨.det (fun val => (.bool (true))), ⟨fun _ _ hv => rfl, fun _ _ _ _ _ => trivial⟩, fun val h_ W hx he => ⟨⟨58, rfl, rfl⟩, ?_⟩, ?_⟩
           ·replace hx := (Upd.drew _ _).trans hx
            replace hl := hl.ext hx
            have hE := Upd.refl (fun _ => False) W
            refine id (X_move (v := (.bool (true))) rfl ?_)
            exact ⟨hE, rfl⟩
           refine ⟨.no, ⟨fun _ _ _ => trivial, fun _ _ _ _ _ => trivial⟩, fun val h_ W hx he => ⟨75, rfl, .inl rfl⟩, ?_⟩
           refine ⟨.no, ⟨fun _ _ _ => trivial, fun _ _ _ _ _ => trivial⟩, fun val h_ W hx he => ⟨75, rfl, .inl rfl⟩, ?_⟩
           refine ⟨.no, ⟨fun _ _ _ => trivial, fun _ _ _ _ _ => trivial⟩, fun val h_ W hx he => ⟨75, rfl, .inl rfl⟩, ?_⟩
           refine ⟨.no, ⟨fun _ _ _ => trivial, fun _ _ _ _ _ => trivial⟩, fun val h_ W hx he => ⟨75, rfl, .inl rfl⟩, ?_⟩
           refine ⟨.no, ⟨fun _ _ _ => trivial, fun _ _ _ _ _ => trivial⟩, fun val h_ W hx he => ⟨75, rfl, .inl rfl⟩, ?_⟩
           refine ⟨.no, ⟨fun _ _ _ => trivial, fun _ _ _ _ _ => trivial⟩, fun val h_ W hx he => ⟨75, rfl, .inl rfl⟩, ?_⟩
           refine ⟨.no, ⟨fun _ _ _ => trivial, fun _ _ _ _ _ => trivial⟩, fun val h_ W hx he => ⟨75, rfl, .inl rfl⟩, ?_⟩
           refine ⟨.no, ⟨fun _ _ _ => trivial, fun _ _ _ _ _ => trivial⟩, fun val h_ W hx he => ⟨75, rfl, .inl rfl⟩, ?_⟩
           refine ⟨.no, ⟨fun _ _ _ => trivial, fun _ _ _ _ _ => trivial⟩, fun val h_ W hx he => ⟨75, rfl, .inl rfl⟩, ?_⟩
           refine ⟨.no, ⟨fun _ _ _ => trivial, fun _ _ _ _ _ => trivial⟩, fun val h_ W hx he => ⟨75, rfl, .inl rfl⟩, ?_⟩
           refine ⟨.no, ⟨fun _ _ _ => trivial, fun _ _ _ _ _ => trivial⟩, fun val h_ W hx he => ⟨75, rfl, .inl rfl⟩, ?_⟩
           refine ⟨.no, ⟨fun _ _ _ => trivial, fun _ _ _ _ _ => trivial⟩, fun val h_ W hx he => ⟨75, rfl, .inl rfl⟩, ?_⟩
           refine ⟨.no, ⟨fun _ _ _ => trivial, fun _ _ _ _ _ => trivial⟩, fun val h_ W hx he => ⟨75, rfl, .inl rfl⟩, ?_⟩
           intro val W25 hx25 he25
           replace hx25 := (Upd.drew _ _).trans hx25
           have hz25 := hx25.size
           replace hl := hl.ext hx25
           replace hU := hU.trans (Ext.upd hx25)
           refine L_gn (dj := 75) (t := true) rfl rfl rfl rfl ?_
           refine L_gy (dj := 58) rfl rfl rfl (X_pick (t := true) (v := (.bool (true))) rfl rfl ?_)
           refine L_op rfl (X_pick (t := true) (v := (.bool (true))) rfl rfl ?_)
           refine L_nil ?_
           refine T_n ?_
           refine W_ct rfl ?_
           refine W_seq ?_
           refine W_reg ?_
           refine L_op rfl (X_assign (v := (.bool (false))) rfl ?_)
           refine L_nil ?_
           refine T_n ?_
           refine W_ret ?_
           refine B_r ?_
           refine T_r ?_
           refine T_r ?_
           refine B_r ?_
           refine T_r ?_
           have hR : ¬ RightK (es.map (fun (x : KE) => x.2)) := fun h => by obtain ⟨⟨h1, h2, h3⟩, h4⟩ := hst.1 (h.2 i (by rw [List.length_map]; exact hi)); have h5 := h4 (by omega); omega
           exact BQ_r (End_1 Tryd.results19 (v := .bool false) rfl ⟨by rw [decide_eq_false hR], hU.own hn0⟩)
         ·have hs11_ := of_decide_eq_true hs11
          have hs12_ := of_decide_eq_false hs12
          refine W_draw 33 [[], [0], [0, 1], [0, 1, 2], [0, 1, 2], [0, 1, 2, 3, 4], [0, 1, 2, 3, 4, 5], [0, 1, 2, 3, 4, 5, 6], [0, 1, 2, 3, 4, 5, 6, 7], [0, 1, 2, 3, 4, 5, 6, 7, 8], [0, 1, 2, 3, 4, 5, 6, 7, 8, 9], [0, 1, 2, 3, 4, 5, 6, 7, 8, 9, 10], [0, 1, 2, 3, 4, 5, 6, 7, 8, 9, 10], [0, 1, 2, 3, 4, 5, 6, 7, 8, 9, 10, 11, 12], [0, 1, 2, 3, 4, 5, 6, 7, 8, 9, 10, 11, 12, 13], [0, 1, 2, 3, 4, 5, 6, 7, 8, 9, 10, 11, 12, 13, 14], [0, 1, 2, 3, 4, 5, 6, 7, 8, 9, 10, 11, 12, 13, 14, 15], [0, 1, 2, 3, 4, 5, 6, 7, 8, 9, 10, 11, 12, 13, 14, 15, 16], [0, 1, 2, 3, 4, 5, 6, 7, 8, 9, 10, 11, 12, 13, 14, 15, 16, 17], [0, 1, 2, 3, 4, 5, 6, 7, 8, 9, 10, 11, 12, 13, 14, 15, 16, 17, 18], [0, 1, 2, 3, 4, 5, 6, 7, 8, 9, 10, 11, 12, 13, 14, 15, 16, 17, 18, 19], [0, 1, 2, 3, 4, 5, 6, 7, 8, 9, 10, 11, 12, 13, 14, 15, 16, 17, 18, 19], [0, 1, 2, 3, 4, 5, 6, 7, 8, 9, 10, 11, 12, 13, 14, 15, 16, 17, 18, 19, 21], [0, 1, 2, 3, 4, 5, 6, 7, 8, 9, 10, 11, 12, 13, 14, 15, 16, 17, 18, 19, 20, 21, 22], [0, 1, 2, 3, 4, 5, 6, 7, 8, 9, 10, 11, 12, 13, 14, 15, 16, 17, 18, 19, 20, 21, 22, 23], [0, 1, 2, 3, 4, 5, 6, 7, 8, 9, 10, 11, 12, 13, 14, 15, 16, 17, 18, 19, 20, 21, 22, 23, 24], [0, 1, 2, 3, 4, 5, 6, 7, 8, 9, 10, 11, 12, 13, 14, 15, 16, 17, 18, 19, 20, 21, 22, 23, 24, 25], [0, 1, 2, 3, 4, 5, 6, 7, 8, 9, 10, 11, 12, 13, 14, 15, 16, 17, 18, 19], [0, 1, 2, 3, 4, 5, 6, 7, 8, 9, 10, 11, 12, 13, 14, 15, 16, 17, 18, 19], [0, 1, 2, 3, 4, 5, 6, 7, 8, 9, 10, 11, 12, 13, 14, 15, 16, 17, 18, 19, 27, 28], [0, 1, 2, 3, 4, 5, 6, 7, 8, 9, 10, 11, 12, 13, 14, 15, 16, 17, 18, 19, 27, 28, 29], [0, 1, 2, 3, 4, 5, 6, 7, 8, 9, 10, 11, 12, 13, 14, 15, 16, 17, 18, 19, 27, 28, 29, 30], [0, 1, 2, 3, 4, 5, 6, 7, 8, 9, 10, 11, 12, 13, 14, 15, 16, 17, 18, 19, 27, 28, 29, 30, 31], [0, 1, 2, 3, 4, 5, 6, 7, 8, 9, 10, 11, 12, 13, 14, 15, 16, 17, 18, 19, 20, 21, 22, 23, 24, 25, 26, 27, 28, 29, 30, 31, 32], [0, 1, 2, 3, 4, 5, 6, 7, 8, 9, 10, 11, 12, 13, 14, 15, 16, 17, 18, 19, 20, 21, 22, 23, 24, 25, 26, 27, 28, 29, 30, 31, 32, 33], [0, 1, 2, 3, 4, 5, 6, 7, 8, 9, 10, 11, 12, 13, 14, 15, 16, 17, 18, 19, 20, 21, 22, 23, 24, 25, 26, 27, 28, 29, 30, 31, 32, 33, 34]] mixed (by kernel_rfl) ?_
          refine ⟨.det (fun val => (.int .i64 (((i : Nat) : Int)))), ⟨fun _ _ hv => rfl, fun _ _ _ _ _ => trivial⟩, fun val h_ W hx he => ⟨trivial, ?_⟩, ?_⟩
          ·replace hx := (Upd.drew _ _).trans hx
           replace hl := hl.ext hx
           have hE := Upd.refl (fun _ => False) W
           refine id (X_move (v := (.int .i64 (((i : Nat) : Int)))) rfl ?_)
           exact ⟨hE, rfl⟩
          refine ⟨.det (fun val => (.bool (true))), ⟨fun _ _ hv => rfl, fun _ _ _ _ _ => trivial⟩, fun val h_ W hx he => ⟨trivial, ?_⟩, ?_⟩
          ·replace hx := (Upd.drew _ _).trans hx
           replace hl := hl.ext hx
           have hE := Upd.refl (fun _ => False) W
           refine id (X_cmp (k := .i64) (a := ((i : Nat) : Int)) (b := 0) (r := true) rfl rfl rfl (decide_eq_true (p := ((0) : Int) < ((((i : Nat) : Int)) : Int)) (by omega)) ?_)
           exact ⟨hE, rfl⟩
          refine ⟨.det (fun val => (.bool (true))), ⟨fun _ _ hv => rfl, fun _ _ _ _ _ => trivial⟩, fun val h_ W hx he => ⟨trivial, ?_⟩, ?_⟩
          ·replace hx := (Upd.drew _ _).trans hx
           replace hl := hl.ext hx
           have hE := Upd.refl (fun _ => False) W
           refine id (X_move (v := (.bool (true))) rfl ?_)
           exact ⟨hE, rfl⟩
          refine ⟨.det (fun val => l), ⟨fun _ _ hv => rfl, fun _ _ _ _ _ => trivial⟩, fun val h_ W hx he => ⟨⟨58, rfl, rfl⟩, ?_⟩, ?_⟩
          ·replace hx := (Upd.drew _ _).trans hx
           replace hl := hl.ext hx
           have hE := Upd.refl (fun _ => False) W
           refine id (X_move (v := l) rfl ?_)
           exact ⟨hE, rfl⟩
          refine ⟨.det (fun val => (.int .i64 (((i : Nat) : Int)))), ⟨fun _ _ hv => rfl, fun _ _ _ _ _ => trivial⟩, fun val h_ W hx he => ⟨⟨58, rfl, rfl⟩, ?_⟩, ?_⟩
          ·replace hx := (Upd.drew _ _).trans hx
           replace hl := hl.ext hx
           have hE := Upd.refl (fun _ => False) W
           refine id (X_move (v := (.int .i64 (((i : Nat) : Int)))) rfl ?_)
           exact ⟨hE, rfl⟩
          refine ⟨.det (fun val => (pof l ((((i : Nat) : Int) : Int).toNat * 6))), ⟨fun _ _ hv => rfl, fun _ _ _ _ _ => trivial⟩, fun val h_ W hx he => ⟨⟨58, rfl, rfl⟩, ?_⟩, ?_⟩
          ·replace hx := (Upd.drew _ _).trans hx
           replace hl := hl.ext hx
           have hE := Upd.refl (fun _ => False) W
           refine id (X_idx (v := l) (n := es.length) (k := .i64) (i := ((i : Nat) : Int)) S22 rfl hl.sv rfl (by omega) (by omega) ?_)
           exact ⟨hE, rfl⟩
          refine ⟨.det (fun val => (pof l ((((i : Nat) : Int) : Int).toNat * 6 + 0))), ⟨fun _ _ hv => rfl, fun _ _ _ _ _ => trivial⟩, fun val h_ W hx he => ⟨⟨58, rfl, rfl⟩, ?_⟩, ?_⟩
          ·replace hx := (Upd.drew _ _).trans hx
           replace hl := hl.ext hx
           have hE := Upd.refl (fun _ => False) W
           refine id (X_fldS (v := l) (o := (((i : Nat) : Int) : Int).toNat * 6) Fd44_0 rfl hl.sv (by omega) ?_)
           exact ⟨hE, rfl⟩
          refine ⟨.det (fun val => e.1), ⟨fun _ _ hv => rfl, fun _ _ _ _ _ => trivial⟩, fun val h_ W hx he => ⟨⟨58, rfl, rfl⟩, ?_⟩, ?_⟩
          ·replace hx := (Upd.drew _ _).trans hx
           replace hl := hl.ext hx
           have hE := Upd.refl (fun _ => False) W
           refine id (X_load (v := e.1) T42 rfl (kkey hl (Int.toNat_natCast _) hei) ?_)
           exact ⟨hE, rfl⟩
          refine ⟨.det (fun val => (.int .i64 (((e.2.1.length : Nat) : Int)))), ⟨fun _ _ hv => rfl, fun _ _ _ _ _ => trivial⟩, fun val h_ W hx he => ⟨⟨58, rfl, rfl⟩, ?_⟩, ?_⟩
          ·replace hx := (Upd.drew _ _).trans hx
           replace hl := hl.ext hx
           have hE := Upd.refl (fun _ => False) W
           refine id (X_len (v := e.1) (n := e.2.1.length) Tryd.underlying42 rfl (krd hl hei).sv ?_)
           exact ⟨hE, rfl⟩
          refine ⟨.det (fun val => (.bool (true))), ⟨fun _ _ hv => rfl, fun _ _ _ _ _ => trivial⟩, fun val h_ W hx he => ⟨⟨58, rfl, rfl⟩, ?_⟩, ?_⟩
          ·replace hx := (Upd.drew _ _).trans hx
           replace hl := hl.ext hx
           have hE := Upd.refl (fun _ => False) W
           refine id (X_cmp (k := .i64) (a := ((e.2.1.length : Nat) : Int)) (b := 1) (r := true) rfl rfl rfl (decide_eq_true (p := ((((e.2.1.length : Nat) : Int)) : Int) < ((1) : Int)) (by omega)) ?_)
           exact ⟨hE, rfl⟩
          refine ⟨.det (fun val => (.bool (true))), ⟨fun _ _ hv => rfl, fun _ _ _ _ _ => trivial⟩, fun val h_ W hx he => ⟨⟨58, rfl, rfl⟩, ?_⟩, ?_⟩
          ·replace hx := (Upd.drew _ _).trans hx
           replace hl := hl.ext hx
           have hE := Upd.refl (fun _ => False) W
           refine id (X_move (v := (.bool (true))) rfl ?_)
           exact ⟨hE, rfl⟩
          refine ⟨.no, ⟨fun _ _ _ => trivial, fun _ _ _ _ _ => trivial⟩, fun val h_ W hx he => ⟨66, rfl, .inl rfl⟩, ?_⟩
          refine ⟨.no, ⟨fun _ _ _ => trivial, fun _ _ _ _ _ => trivial⟩, fun val h_ W hx he => ⟨66, rfl, .inl rfl⟩, ?_⟩
          refine ⟨.no, ⟨fun _ _ _ => trivial, fun _ _ _ _ _ => trivial⟩, fun val h_ W hx he => ⟨66, rfl, .inl rfl⟩, ?_⟩
          refine ⟨.no, ⟨fun _ _ _ => trivial, fun _ _ _ _ _ => trivial⟩, fun val h_ W hx he => ⟨66, rfl, .inl rfl⟩, ?_⟩
          refine ⟨.no, ⟨fun _ _ _ => trivial, fun _ _ _ _ _ => trivial⟩, fun val h_ W hx he => ⟨66, rfl, .inl rfl⟩, ?_⟩
          refine ⟨.no, ⟨fun _ _ _ => trivial, fun _ _ _ _ _ => trivial⟩, fun val h_ W hx he => ⟨66, rfl, .inl rfl⟩, ?_⟩
          refine ⟨.no, ⟨fun _ _ _ => trivial, fun _ _ _ _ _ => trivial⟩, fun val h_ W hx he => ⟨66, rfl, .inl rfl⟩, ?_⟩
          refine ⟨.det (fun val => (.bool (true))), ⟨fun _ _ hv => rfl, fun _ _ _ _ _ => trivial⟩, fun val h_ W hx he => ⟨⟨58, rfl, rfl⟩, ?_⟩, ?_⟩
          ·replace hx := (Upd.drew _ _).trans hx
           replace hl := hl.ext hx
           have hE := Upd.refl (fun _ => False) W
           refine id (X_pick (t := true) (v := (.bool (true))) rfl rfl ?_)
           exact ⟨hE, rfl⟩
          refine ⟨.det (fun val => (.bool (true))), ⟨fun _ _ hv => rfl, fun _ _ _ _ _ => trivial⟩, fun val h_ W hx he => ⟨⟨58, rfl, rfl⟩, ?_⟩, ?_⟩
          ·replace hx := (Upd.drew _ _).trans hx
           replace hl := hl.ext hx
           have hE := Upd.refl (fun _ => False) W
           refine id (X_move (v := (.bool (true))) rfl ?_)
           exact ⟨hE, rfl⟩
          refine ⟨.no, ⟨fun _ _ _ => trivial, fun _ _ _ _ _ => trivial⟩, fun val h_ W hx he => ⟨75, rfl, .inl rfl⟩, ?_⟩
          refine ⟨.no, ⟨fun _ _ _ => trivial, fun _ _ _ _ _ => trivial⟩, fun val h_ W hx he => ⟨75, rfl, .inl rfl⟩, ?_⟩
          refine ⟨.no, ⟨fun _ _ _ => trivial, fun _ _ _ _ _ => trivial⟩, fun val h_ W hx he => ⟨75, rfl, .inl rfl⟩, ?_⟩
          refine ⟨.no, ⟨fun _ _ _ => trivial, fun _ _ _ _ _ => trivial⟩, fun val h_ W hx he => ⟨75, rfl, .inl rfl⟩, ?_⟩
          refine ⟨.no, ⟨fun _ _ _ => trivial, fun _ _ _ _ _ => trivial⟩, fun val h_ W hx he => ⟨75, rfl, .inl rfl⟩, ?_⟩
          refine ⟨.no, ⟨fun _ _ _ => trivial, fun _ _ _ _ _ => trivial⟩, fun val h_ W hx he => ⟨75, rfl, .inl rfl⟩, ?_⟩
          refine ⟨.no, ⟨fun _ _ _ => trivial, fun _ _ _ _ _ => trivial⟩, fun val h_ W hx he => ⟨75, rfl, .inl rfl⟩, ?_⟩
          refine ⟨.no, ⟨fun _ _ _ => trivial, fun _ _ _ _ _ => trivial⟩, fun val h_ W hx he => ⟨75, rfl, .inl rfl⟩, ?_⟩
          refine ⟨.no, ⟨fun _ _ _ => trivial, fun _ _ _ _ _ => trivial⟩, fun val h_ W hx he => ⟨75, rfl, .inl rfl⟩, ?_⟩
          refine ⟨.no, ⟨fun _ _ _ => trivial, fun _ _ _ _ _ => trivial⟩, fun val h_ W hx he => ⟨75, rfl, .inl rfl⟩, ?_⟩
          refine ⟨.no, ⟨fun _ _ _ => trivial, fun _ _ _ _ _ => trivial⟩, fun val h_ W hx he => ⟨75, rfl, .inl rfl⟩, ?_⟩
          refine ⟨.no, ⟨fun _ _ _ => trivial, fun _ _ _ _ _ => trivial⟩, fun val h_ W hx he => ⟨75, rfl, .inl rfl⟩, ?_⟩
          refine ⟨.no, ⟨fun _ _ _ => trivial, fun _ _ _ _ _ => trivial⟩, fun val h_ W hx he => ⟨75, rfl, .inl rfl⟩, ?_⟩
          intro val W28 hx28 he28
          replace hx28 := (Upd.drew _ _).trans hx28
          have hz28 := hx28.size
          replace hl := hl.ext hx28
          replace hU := hU.trans (Ext.upd hx28)
          refine L_gn (dj := 75) (t := true) rfl rfl rfl rfl ?_
          refine L_gy (dj := 58) rfl rfl rfl (X_pick (t := true) (v := (.bool (true))) rfl rfl ?_)
          refine L_op rfl (X_pick (t := true) (v := (.bool (true))) rfl rfl ?_)
          refine L_nil ?_
          refine T_n ?_
          refine W_ct rfl ?_
          refine W_seq ?_
          refine W_reg ?_
          refine L_op rfl (X_assign (v := (.bool (false))) rfl ?_)
          refine L_nil ?_
          refine T_n ?_
          refine W_ret ?_
          refine B_r ?_
          refine T_r ?_
          refine T_r ?_
          refine B_r ?_
          refine T_r ?_
          have hR : ¬ RightK (es.map (fun (x : KE) => x.2)) := fun h => by obtain ⟨⟨h1, h2, h3⟩, h4⟩ := hst.1 (h.2 i (by rw [List.length_map]; exact hi)); have h5 := h4 (by omega); omega
          exact BQ_r (End_1 Tryd.results19 (v := .bool false) rfl ⟨by rw [decide_eq_false hR], hU.own hn0⟩)
        ·have hs11_ := of_decide_eq_false hs11
         refine W_draw 33 [[], [0], [0, 1], [0, 1, 2], [0, 1, 2], [0, 1, 2, 3, 4], [0, 1, 2, 3, 4, 5], [0, 1, 2, 3, 4, 5, 6], [0, 1, 2, 3, 4, 5, 6, 7], [0, 1, 2, 3, 4, 5, 6, 7, 8], [0, 1, 2, 3, 4, 5, 6, 7, 8, 9], [0, 1, 2, 3, 4, 5, 6, 7, 8, 9, 10], [0, 1, 2, 3, 4, 5, 6, 7, 8, 9, 10], [0, 1, 2, 3, 4, 5, 6, 7, 8, 9, 10, 11, 12], [0, 1, 2, 3, 4, 5, 6, 7, 8, 9, 10, 11, 12, 13], [0, 1, 2, 3, 4, 5, 6, 7, 8, 9, 10, 11, 12, 13, 14], [0, 1, 2, 3, 4, 5, 6, 7, 8, 9, 10, 11, 12, 13, 14, 15], [0, 1, 2, 3, 4, 5, 6, 7, 8, 9, 10, 11, 12, 13, 14, 15, 16], [0, 1, 2, 3, 4, 5, 6, 7, 8, 9, 10, 11, 12, 13, 14, 15, 16, 17], [0, 1, 2, 3, 4, 5, 6, 7, 8, 9, 10, 11, 12, 13, 14, 15, 16, 17, 18], [0, 1, 2, 3, 4, 5, 6, 7, 8, 9, 10, 11, 12, 13, 14, 15, 16, 17, 18, 19], [0, 1, 2, 3, 4, 5, 6, 7, 8, 9, 10, 11, 12, 13, 14, 15, 16, 17, 18, 19], [0, 1, 2, 3, 4, 5, 6, 7, 8, 9, 10, 11, 12, 13, 14, 15, 16, 17, 18, 19, 21], [0, 1, 2, 3, 4, 5, 6, 7, 8, 9, 10, 11, 12, 13, 14, 15, 16, 17, 18, 19, 20, 21, 22], [0, 1, 2, 3, 4, 5, 6, 7, 8, 9, 10, 11, 12, 13, 14, 15, 16, 17, 18, 19, 20, 21, 22, 23], [0, 1, 2, 3, 4, 5, 6, 7, 8, 9, 10, 11, 12, 13, 14, 15, 16, 17, 18, 19, 20, 21, 22, 23, 24], [0, 1, 2, 3, 4, 5, 6, 7, 8, 9, 10, 11, 12, 13, 14, 15, 16, 17, 18, 19, 20, 21, 22, 23, 24, 25], [0, 1, 2, 3, 4, 5, 6, 7, 8, 9, 10, 11, 12, 13, 14, 15, 16, 17, 18, 19], [0, 1, 2, 3, 4, 5, 6, 7, 8, 9, 10, 11, 12, 13, 14, 15, 16, 17, 18, 19], [0, 1, 2, 3, 4, 5, 6, 7, 8, 9, 10, 11, 12, 13, 14, 15, 16, 17, 18, 19, 27, 28], [0, 1, 2, 3, 4, 5, 6, 7, 8, 9, 10, 11, 12, 13, 14, 15, 16, 17, 18, 19, 27, 28, 29], [0, 1, 2, 3, 4, 5, 6, 7, 8, 9, 10, 11, 12, 13, 14, 15, 16, 17, 18, 19, 27, 28, 29, 30], [0, 1, 2, 3, 4, 5, 6, 7, 8, 9, 10, 11, 12, 13, 14, 15, 16, 17, 18, 19, 27, 28, 29, 30, 31], [0, 1, 2, 3, 4, 5, 6, 7, 8, 9, 10, 11, 12, 13, 14, 15, 16, 17, 18, 19, 20, 21, 22, 23, 24, 25, 26, 27, 28, 29, 30, 31, 32], [0, 1, 2, 3, 4, 5, 6, 7, 8, 9, 10, 11, 12, 13, 14, 15, 16, 17, 18, 19, 20, 21, 22, 23, 24, 25, 26, 27, 28, 29, 30, 31, 32, 33], [0, 1, 2, 3, 4, 5, 6, 7, 8, 9, 10, 11, 12, 13, 14, 15, 16, 17, 18, 19, 20, 21, 22, 23, 24, 25, 26, 27, 28, 29, 30, 31, 32, 33, 34]] mixed (by kernel_rfl) ?_
         refine ⟨.det (fun val => (.int .i64 (((i : Nat) : Int)))), ⟨fun _ _ hv => rfl, fun _ _ _ _ _ => trivial⟩, fun val h_ W hx he => ⟨trivial, ?_⟩, ?_⟩
         ·replace hx := (Upd.drew _ _).trans hx
          replace hl := hl.ext hx
          have hE := Upd.refl (fun _ => False) W
          refine id (X_move (v := (.int .i64 (((i : Nat) : Int)))) rfl ?_)
          exact ⟨hE, rfl⟩
         refine ⟨.det (fun val => (.bool (false))), ⟨fun _ _ hv => rfl, fun _ _ _ _ _ => trivial⟩, fun val h_ W hx he => ⟨trivial, ?_⟩, ?_⟩
         ·replace hx := (Upd.drew _ _).trans hx
          replace hl := hl.ext hx
          have hE := Upd.refl (fun _ => False) W
          refine id (X_cmp (k := .i64) (a := ((i : Nat) : Int)) (b := 0) (r := false) rfl rfl rfl (decide_eq_false (p := ((0) : Int) < ((((i : Nat) : Int)) : Int)) (by omega)) ?_)
          exact ⟨hE, rfl⟩
         refine ⟨.det (fun val => (.bool (false))), ⟨fun _ _ hv => rfl, fun _ _ _ _ _ => trivial⟩, fun val h_ W hx he => ⟨trivial, ?_⟩, ?_⟩
         ·replace hx := (Upd.drew _ _).trans hx
          replace hl := hl.ext hx
          have hE := Upd.refl (fun _ => False) W
          refine id (X_move (v := (.bool (false))) rfl ?_)
          exact ⟨hE, rfl⟩
         refine ⟨.no, ⟨fun _ _ _ => trivial, fun _ _ _ _ _ => trivial⟩, fun val h_ W hx he => ⟨58, rfl, .inl rfl⟩, ?_⟩
         refine ⟨.no, ⟨fun _ _ _ => trivial, fun _ _ _ _ _ => trivial⟩, fun val h_ W hx he => ⟨58, rfl, .inl rfl⟩, ?_⟩
         refine ⟨.no, ⟨fun _ _ _ => trivial, fun _ _ _ _ _ => trivial⟩, fun val h_ W hx he => ⟨58, rfl, .inl rfl⟩, ?_⟩
         refine ⟨.no, ⟨fun _ _ _ => trivial, fun _ _ _ _ _ => trivial⟩, fun val h_ W hx he => ⟨58, rfl, .inl rfl⟩, ?_⟩
         refine ⟨.no, ⟨fun _ _ _ => trivial, fun _ _ _ _ _ => trivial⟩, fun val h_ W hx he => ⟨58, rfl, .inl rfl⟩, ?_⟩
         refine ⟨.no, ⟨fun _ _ _ => trivial, fun _ _ _ _ _ => trivial⟩, fun val h_ W hx he => ⟨58, rfl, .inl rfl⟩, ?_⟩
         refine ⟨.no, ⟨fun _ _ _ => trivial, fun _ _ _ _ _ => trivial⟩, fun val h_ W hx he => ⟨58, rfl, .inl rfl⟩, ?_⟩
         refine ⟨.no, ⟨fun _ _ _ => trivial, fun _ _ _ _ _ => trivial⟩, fun val h_ W hx he => ⟨58, rfl, .inl rfl⟩, ?_⟩
         refine ⟨.no, ⟨fun _ _ _ => trivial, fun _ _ _ _ _ => trivial⟩, fun val h_ W hx he => ⟨66, rfl, .inr rfl⟩, ?_⟩
         refine ⟨.no, ⟨fun _ _ _ => trivial, fun _ _ _ _ _ => trivial⟩, fun val h_ W hx he => ⟨66, rfl, .inr rfl⟩, ?_⟩
         refine ⟨.no, ⟨fun _ _ _ => trivial, fun _ _ _ _ _ => trivial⟩, fun val h_ W hx he => ⟨66, rfl, .inr rfl⟩, ?_⟩
         refine ⟨.no, ⟨fun _ _ _ => trivial, fun _ _ _ _ _ => trivial⟩, fun val h_ W hx he => ⟨66, rfl, .inr rfl⟩, ?_⟩
         refine ⟨.no, ⟨fun _ _ _ => trivial, fun _ _ _ _ _ => trivial⟩, fun val h_ W hx he => ⟨66, rfl, .inr rfl⟩, ?_⟩
         refine ⟨.no, ⟨fun _ _ _ => trivial, fun _ _ _ _ _ => trivial⟩, fun val h_ W hx he => ⟨66, rfl, .inr rfl⟩, ?_⟩
         refine ⟨.no, ⟨fun _ _ _ => trivial, fun _ _ _ _ _ => trivial⟩, fun val h_ W hx he => ⟨66, rfl, .inr rfl⟩, ?_⟩
         refine ⟨.no, ⟨fun _ _ _ => trivial, fun _ _ _ _ _ => trivial⟩, fun val h_ W hx he => ⟨58, rfl, .inl rfl⟩, ?_⟩
         refine ⟨.no, ⟨fun _ _ _ => trivial, fun _ _ _ _ _ => trivial⟩, fun val h_ W hx he => ⟨58, rfl, .inl rfl⟩, ?_⟩
         refine ⟨.no, ⟨fun _ _ _ => trivial, fun _ _ _ _ _ => trivial⟩, fun val h_ W hx he => ⟨75, rfl, .inr rfl⟩, ?_⟩
         refine ⟨.no, ⟨fun _ _ _ => trivial, fun _ _ _ _ _ => trivial⟩, fun val h_ W hx he => ⟨75, rfl, .inr rfl⟩, ?_⟩
         refine ⟨.no, ⟨fun _ _ _ => trivial, fun _ _ _ _ _ => trivial⟩, fun val h_ W hx he => ⟨75, rfl, .inr rfl⟩, ?_⟩
         refine ⟨.no, ⟨fun _ _ _ => trivial, fun _ _ _ _ _ => trivial⟩, fun val h_ W hx he => ⟨75, rfl, .inr rfl⟩, ?_⟩
         refine ⟨.no, ⟨fun _ _ _ => trivial, fun _ _ _ _ _ => trivial⟩, fun val h_ W hx he => ⟨75, rfl, .inr rfl⟩, ?_⟩
         refine ⟨.no, ⟨fun _ _ _ => trivial, fun _ _ _ _ _ => trivial⟩, fun val h_ W hx he => ⟨75, rfl, .inr rfl⟩, ?_⟩
         refine ⟨.no, ⟨fun _ _ _ => trivial, fun _ _ _ _ _ => trivial⟩, fun val h_ W hx he => ⟨75, rfl, .inr rfl⟩, ?_⟩
         refine ⟨.no, ⟨fun _ _ _ => trivial, fun _ _ _ _ _ => trivial⟩, fun val h_ W hx he => ⟨75, rfl, .inr rfl⟩, ?_⟩
         refine ⟨.no, ⟨fun _ _ _ => trivial, fun _ _ _ _ _ => trivial⟩, fun val h_ W hx he => ⟨75, rfl, .inr rfl⟩, ?_⟩
         refine ⟨.no, ⟨fun _ _ _ => trivial, fun _ _ _ _ _ => trivial⟩, fun val h_ W hx he => ⟨75, rfl, .inr rfl⟩, ?_⟩
         refine ⟨.no, ⟨fun _ _ _ => trivial, fun _ _ _ _ _ => trivial⟩, fun val h_ W hx he => ⟨75, rfl, .inr rfl⟩, ?_⟩
         refine ⟨.no, ⟨fun _ _ _ => trivial, fun _ _ _ _ _ => trivial⟩, fun val h_ W hx he => ⟨75, rfl, .inr rfl⟩, ?_⟩
         refine ⟨.no, ⟨fun _ _ _ => trivial, fun _ _ _ _ _ => trivial⟩, fun val h_ W hx he => ⟨75, rfl, .inr rfl⟩, ?_⟩
         intro val W30 hx30 he30
         replace hx30 := (Upd.drew _ _).trans hx30
         have hz30 := hx30.size
         replace hl := hl.ext hx30
         replace hU := hU.trans (Ext.upd hx30)
         refine L_gu (dj := 75) rfl rfl rfl ?_
         refine L_gn (dj := 58) (t := false) rfl rfl rfl rfl ?_
         refine L_op rfl (X_pick (t := false) (v := (.bool (false))) rfl rfl ?_)
         refine L_nil ?_
         refine T_n ?_
         refine W_cf rfl ?_
         refine W_skip ?_
         refine B_n ?_
         refine T_n ?_
         refine W_reg ?_
         refine L_op rfl (X_move (v := (.int .i64 (((i : Nat) : Int)))) rfl ?_)
         refine L_op rfl (X_arith (k := .i64) (a := ((i : Nat) : Int)) (b := 1) (r := ((i + 1 : Nat) : Int)) rfl rfl rfl (iadd64 (by omega) (by omega) (by omega)) ?_)
         refine L_op rfl (X_assign (v := (.int .i64 (((i + 1 : Nat) : Int)))) rfl ?_)
         refine L_nil ?_
         refine T_n ?_
         exact ⟨rfl, i + 1, ⟨⟨hi, hl, fun j hj => (Nat.lt_or_ge j i).elim (hz j) fun h1 => by obtain rfl : j = i := by { omega }; exact hst.2 ⟨⟨of_decide_eq_true hs7, of_decide_eq_true hs8, hkq⟩, fun hp => absurd hp (by omega)⟩, hU⟩, (by show es.length - (i + 1) < es.length - i; omega)⟩, (Out.mk rfl), ⟨rfl, trivial⟩⟩
       ·have hkq := of_decide_eq_false hs9
        refine W_draw 28 [[], [], [0, 1], [0, 1, 2], [0, 1, 2, 3], [0, 1, 2, 3, 4], [0, 1, 2, 3, 4, 5], [0, 1, 2, 3, 4, 5, 6], [0, 1, 2, 3, 4, 5, 6, 7], [0, 1, 2, 3, 4, 5, 6, 7], [0, 1, 2, 3, 4, 5, 6, 7, 8, 9], [0, 1, 2, 3, 4, 5, 6, 7, 8, 9, 10], [0, 1, 2, 3, 4, 5, 6, 7, 8, 9, 10, 11], [0, 1, 2, 3, 4, 5, 6, 7, 8, 9, 10, 11, 12], [0, 1, 2, 3, 4, 5, 6, 7, 8, 9, 10, 11, 12, 13], [0, 1, 2, 3, 4, 5, 6, 7, 8, 9, 10, 11, 12, 13, 14], [0, 1, 2, 3, 4, 5, 6, 7, 8, 9, 10, 11, 12, 13, 14, 15], [0, 1, 2, 3, 4, 5, 6, 7, 8, 9, 10, 11, 12, 13, 14, 15, 16], [0, 1, 2, 3, 4, 5, 6, 7, 8, 9, 10, 11, 12, 13, 14, 15, 16], [0, 1, 2, 3, 4, 5, 6, 7, 8, 9, 10, 11, 12, 13, 14, 15, 16, 17, 18], [0, 1, 2, 3, 4, 5, 6, 7, 8, 9, 10, 11, 12, 13, 14, 15, 16, 17, 18, 19], [0, 1, 2, 3, 4, 5, 6, 7, 8, 9, 10, 11, 12, 13, 14, 15, 16, 17, 18, 19, 20], [0, 1, 2, 3, 4, 5, 6, 7, 8, 9, 10, 11, 12, 13, 14, 15, 16, 17, 18, 19, 20, 21], [0, 1, 2, 3, 4, 5, 6, 7, 8, 9, 10, 11, 12, 13, 14, 15, 16], [0, 1, 2, 3, 4, 5, 6, 7, 8, 9, 10, 11, 12, 13, 14, 15, 16, 23], [0, 1, 2, 3, 4, 5, 6, 7, 8, 9, 10, 11, 12, 13, 14, 15, 16, 23, 24], [0, 1, 2, 3, 4, 5, 6, 7, 8, 9, 10, 11, 12, 13, 14, 15, 16, 23, 24, 25], [0, 1, 2, 3, 4, 5, 6, 7, 8, 9, 10, 11, 12, 13, 14, 15, 16, 23, 24, 25, 26], [0, 1, 2, 3, 4, 5, 6, 7, 8, 9, 10, 11, 12, 13, 14, 15, 16, 17, 18, 19, 20, 21, 22, 23, 24, 25, 26, 27], [0, 1, 2, 3, 4, 5, 6, 7, 8, 9, 10, 11, 12, 13, 14, 15, 16, 17, 18, 19, 20, 21, 22, 23, 24, 25, 26, 27, 28]] mixed (by kernel_rfl) ?_
        refine ⟨.det (fun val => l), ⟨fun _ _ hv => rfl, fun _ _ _ _ _ => trivial⟩, fun val h_ W hx he => ⟨trivial, ?_⟩, ?_⟩
        ·replace hx := (Upd.drew _ _).trans hx
         replace hl := hl.ext hx
         have hE := Upd.refl (fun _ => False) W
         refine id (X_move (v := l) rfl ?_)
         exact ⟨hE, rfl⟩
        refine ⟨.det (fun val => (.int .i64 (((i : Nat) : Int)))), ⟨fun _ _ hv => rfl, fun _ _ _ _ _ => trivial⟩, fun val h_ W hx he => ⟨trivial, ?_⟩, ?_⟩
        ·replace hx := (Upd.drew _ _).trans hx
         replace hl := hl.ext hx
         have hE := Upd.refl (fun _ => False) W
         refine id (X_move (v := (.int .i64 (((i : Nat) : Int)))) rfl ?_)
         exact ⟨hE, rfl⟩
        refine ⟨.det (fun val => (pof l ((((i : Nat) : Int) : Int).toNat * 6))), ⟨fun _ _ hv => rfl, fun _ _ _ _ _ => trivial⟩, fun val h_ W hx he => ⟨trivial, ?_⟩, ?_⟩
        ·replace hx := (Upd.drew _ _).trans hx
         replace hl := hl.ext hx
         have hE := Upd.refl (fun _ => False) W
         refine id (X_idx (v := l) (n := es.length) (k := .i64) (i := ((i : Nat) : Int)) S22 rfl hl.sv rfl (by omega) (by omega) ?_)
         exact ⟨hE, rfl⟩
        refine ⟨.det (fun val => (pof l ((((i : Nat) : Int) : Int).toNat * 6 + 1))), ⟨fun _ _ hv => rfl, fun _ _ _ _ _ => trivial⟩, fun val h_ W hx he => ⟨trivial, ?_⟩, ?_⟩
        ·replace hx := (Upd.drew _ _).trans hx
         replace hl := hl.ext hx
         have hE := Upd.refl (fun _ => False) W
         refine id (X_fldS (v := l) (o := (((i : Nat) : Int) : Int).toNat * 6) Fd44_1 rfl hl.sv (by omega) ?_)
         exact ⟨hE, rfl⟩
        refine ⟨.det (fun val => (.agg (ptC e.2.2).toArray)), ⟨fun _ _ hv => rfl, fun _ _ _ _ _ => trivial⟩, fun val h_ W hx he => ⟨trivial, ?_⟩, ?_⟩
        ·replace hx := (Upd.drew _ _).trans hx
         replace hl := hl.ext hx
         have hE := Upd.refl (fun _ => False) W
         refine id (X_loadA (xs := ptC e.2.2) A41 rfl (kptr hl (Int.toNat_natCast _) hei) rfl ?_)
         exact ⟨hE, rfl⟩
        refine ⟨.det (fun _ => .bool true), ⟨fun _ _ _ => rfl, fun _ _ _ _ _ => trivial⟩, fun val h_ W hx he => ⟨trivial, ?_⟩, ?_⟩
        ·replace hx := (Upd.drew _ _).trans hx
         replace hl := hl.ext hx
         have hE := Upd.refl (fun _ => False) W
         refine X_fn (vs := [.agg (ptC e.2.2).toArray]) en36 rfl (CT.mono (c_metaR e.2.2 _) ?_)
         rintro _ w9 ⟨rfl, hu9⟩
         exact ⟨hu9, by rw [hs7]⟩
        refine ⟨.det (fun val => (.bool (false))), ⟨fun _ _ hv => rfl, fun _ _ _ _ _ => trivial⟩, fun val h_ W hx he => ⟨trivial, ?_⟩, ?_⟩
        ·replace hx := (Upd.drew _ _).trans hx
         replace hl := hl.ext hx
         have hE := Upd.refl (fun _ => False) W
         refine id (X_not (b := true) (r := false) rfl rfl ?_)
         exact ⟨hE, rfl⟩
        refine ⟨.det (fun val => (.bool (false))), ⟨fun _ _ hv => rfl, fun _ _ _ _ _ => trivial⟩, fun val h_ W hx he => ⟨trivial, ?_⟩, ?_⟩
        ·replace hx := (Upd.drew _ _).trans hx
         replace hl := hl.ext hx
         have hE := Upd.refl (fun _ => False) W
         refine id (X_move (v := (.bool (false))) rfl ?_)
         exact ⟨hE, rfl⟩
        refine ⟨.det (fun val => l), ⟨fun _ _ hv => rfl, fun _ _ _ _ _ => trivial⟩, fun val h_ W hx he => ⟨⟨33, rfl, rfl⟩, ?_⟩, ?_⟩
        ·replace hx := (Upd.drew _ _).trans hx
         replace hl := hl.ext hx
         have hE := Upd.refl (fun _ => False) W
         refine id (X_move (v := l) rfl ?_)
         exact ⟨hE, rfl⟩
        refine ⟨.det (fun val => (.int .i64 (((i : Nat) : Int)))), ⟨fun _ _ hv => rfl, fun _ _ _ _ _ => trivial⟩, fun val h_ W hx he => ⟨⟨33, rfl, rfl⟩, ?_⟩, ?_⟩
        ·replace hx := (Upd.drew _ _).trans hx
         replace hl := hl.ext hx
         have hE := Upd.refl (fun _ => False) W
         refine id (X_move (v := (.int .i64 (((i : Nat) : Int)))) rfl ?_)
         exact ⟨hE, rfl⟩
        refine ⟨.det (fun val => (pof l ((((i : Nat) : Int) : Int).toNat * 6))), ⟨fun _ _ hv => rfl, fun _ _ _ _ _ => trivial⟩, fun val h_ W hx he => ⟨⟨33, rfl, rfl⟩, ?_⟩, ?_⟩
        ·replace hx := (Upd.drew _ _).trans hx
         replace hl := hl.ext hx
         have hE := Upd.refl (fun _ => False) W
         refine id (X_idx (v := l) (n := es.length) (k := .i64) (i := ((i : Nat) : Int)) S22 rfl hl.sv rfl (by omega) (by omega) ?_)
         exact ⟨hE, rfl⟩
        refine ⟨.det (fun val => (pof l ((((i : Nat) : Int) : Int).toNat * 6 + 1))), ⟨fun _ _ hv => rfl, fun _ _ _ _ _ => trivial⟩, fun val h_ W hx he => ⟨⟨33, rfl, rfl⟩, ?_⟩, ?_⟩
        ·replace hx := (Upd.drew _ _).trans hx
         replace hl := hl.ext hx
         have hE := Upd.refl (fun _ => False) W
         refine id (X_fldS (v := l) (o := (((i : Nat) : Int) : Int).toNat * 6) Fd44_1 rfl hl.sv (by omega) ?_)
         exact ⟨hE, rfl⟩
        refine ⟨.det (fun val => (.agg (ptC e.2.2).toArray)), ⟨fun _ _ hv => rfl, fun _ _ _ _ _ => trivial⟩, fun val h_ W hx he => ⟨⟨33, rfl, rfl⟩, ?_⟩, ?_⟩
        ·replace hx := (Upd.drew _ _).trans hx
         replace hl := hl.ext hx
         have hE := Upd.refl (fun _ => False) W
         refine id (X_loadA (xs := ptC e.2.2) A41 rfl (kptr hl (Int.toNat_natCast _) hei) rfl ?_)
         exact ⟨hE, rfl⟩
        refine ⟨.det (fun _ => .bool true), ⟨fun _ _ _ => rfl, fun _ _ _ _ _ => trivial⟩, fun val h_ W hx he => ⟨⟨33, rfl, rfl⟩, ?_⟩, ?_⟩
        ·replace hx := (Upd.drew _ _).trans hx
         replace hl := hl.ext hx
         have hE := Upd.refl (fun _ => False) W
         refine X_fn (vs := [.agg (ptC e.2.2).toArray, .int .i64 256]) en37 rfl (CT.mono (c_rightR e.2.2 256 _ (hpt e (List.mem_of_getElem? hei))) ?_)
         rintro _ w9 ⟨rfl, hu9⟩
         exact ⟨hu9, by rw [hs8]⟩
        refine ⟨.det (fun val => (.bool (false))), ⟨fun _ _ hv => rfl, fun _ _ _ _ _ => trivial⟩, fun val h_ W hx he => ⟨⟨33, rfl, rfl⟩, ?_⟩, ?_⟩
        ·replace hx := (Upd.drew _ _).trans hx
         replace hl := hl.ext hx
         have hE := Upd.refl (fun _ => False) W
         refine id (X_not (b := true) (r := false) rfl rfl ?_)
         exact ⟨hE, rfl⟩
        refine ⟨.det (fun val => (.bool (false))), ⟨fun _ _ hv => rfl, fun _ _ _ _ _ => trivial⟩, fun val h_ W hx he => ⟨trivial, ?_⟩, ?_⟩
        ·replace hx := (Upd.drew _ _).trans hx
         replace hl := hl.ext hx
         have hE := Upd.refl (fun _ => False) W
         refine id (X_pick (t := false) (v := (.bool (false))) rfl rfl ?_)
         exact ⟨hE, rfl⟩
        refine ⟨.det (fun val => (.bool (false))), ⟨fun _ _ hv => rfl, fun _ _ _ _ _ => trivial⟩, fun val h_ W hx he => ⟨trivial, ?_⟩, ?_⟩
        ·replace hx := (Upd.drew _ _).trans hx
         replace hl := hl.ext hx
         have hE := Upd.refl (fun _ => False) W
         refine id (X_move (v := (.bool (false))) rfl ?_)
         exact ⟨hE, rfl⟩
        refine ⟨.det (fun val => l), ⟨fun _ _ hv => rfl, fun _ _ _ _ _ => trivial⟩, fun val h_ W hx he => ⟨⟨42, rfl, rfl⟩, ?_⟩, ?_⟩
        ·replace hx := (Upd.drew _ _).trans hx
         replace hl := hl.ext hx
         have hE := Upd.refl (fun _ => False) W
         refine id (X_move (v := l) rfl ?_)
         exact ⟨hE, rfl⟩
        refine ⟨.det (fun val => (.int .i64 (((i : Nat) : Int)))), ⟨fun _ _ hv => rfl, fun _ _ _ _ _ => trivial⟩, fun val h_ W hx he => ⟨⟨42, rfl, rfl⟩, ?_⟩, ?_⟩
        ·replace hx := (Upd.drew _ _).trans hx
         replace hl := hl.ext hx
         have hE := Upd.refl (fun _ => False) W
         refine id (X_move (v := (.int .i64 (((i : Nat) : Int)))) rfl ?_)
         exact ⟨hE, rfl⟩
        refine ⟨.det (fun val => (pof l ((((i : Nat) : Int) : Int).toNat * 6))), ⟨fun _ _ hv => rfl, fun _ _ _ _ _ => trivial⟩, fun val h_ W hx he => ⟨⟨42, rfl, rfl⟩, ?_⟩, ?_⟩
        ·replace hx := (Upd.drew _ _).trans hx
         replace hl := hl.ext hx
         have hE := Upd.refl (fun _ => False) W
         refine id (X_idx (v := l) (n := es.length) (k := .i64) (i := ((i : Nat) : Int)) S22 rfl hl.sv rfl (by omega) (by omega) ?_)
         exact ⟨hE, rfl⟩
        refine ⟨.det (fun val => (pof l ((((i : Nat) : Int) : Int).toNat * 6 + 1))), ⟨fun _ _ hv => rfl, fun _ _ _ _ _ => trivial⟩, fun val h_ W hx he => ⟨⟨42, rfl, rfl⟩, ?_⟩, ?_⟩
        ·replace hx := (Upd.drew _ _).trans hx
         replace hl := hl.ext hx
         have hE := Upd.refl (fun _ => False) W
         refine id (X_fldS (v := l) (o := (((i : Nat) : Int) : Int).toNat * 6) Fd44_1 rfl hl.sv (by omega) ?_)
         exact ⟨hE, rfl⟩
        refine ⟨.det (fun val => (pof l ((((i : Nat) : Int) : Int).toNat * 6 + 1 + 0))), ⟨fun _ _ hv => rfl, fun _ _ _ _ _ => trivial⟩, fun val h_ W hx he => ⟨⟨42, rfl, rfl⟩, ?_⟩, ?_⟩
        ·replace hx := (Upd.drew _ _).trans hx
         replace hl := hl.ext hx
         have hE := Upd.refl (fun _ => False) W
         refine id (X_fldS (v := l) (o := (((i : Nat) : Int) : Int).toNat * 6 + 1) Fd41_0 rfl hl.sv (by omega) ?_)
         exact ⟨hE, rfl⟩
        refine ⟨.det (fun val => (.int .u8 (e.2.2.1))), ⟨fun _ _ hv => rfl, fun _ _ _ _ _ => trivial⟩, fun val h_ W hx he => ⟨⟨42, rfl, rfl⟩, ?_⟩, ?_⟩
        ·replace hx := (Upd.drew _ _).trans hx
         replace hl := hl.ext hx
         have hE := Upd.refl (fun _ => False) W
         refine id (X_load (v := .int .u8 e.2.2.1) T5 rfl (show At _ (pof l _) _ from by have h := hl.cell hei (j := 1) rfl; rwa [show i * LK.sz + 1 = ((i : Nat) : Int).toNat * 6 + 1 + 0 by rw [Int.toNat_natCast]; rfl] at h) ?_)
         exact ⟨hE, rfl⟩
        refine ⟨.det (fun val => l), ⟨fun _ _ hv => rfl, fun _ _ _ _ _ => trivial⟩, fun val h_ W hx he => ⟨⟨42, rfl, rfl⟩, ?_⟩, ?_⟩
        ·replace hx := (Upd.drew _ _).trans hx
         replace hl := hl.ext hx
         have hE := Upd.refl (fun _ => False) W
         refine id (X_move (v := l) rfl ?_)
         exact ⟨hE, rfl⟩
        refine ⟨.det (fun val => (pof l ((0 : Int).toNat * 6))), ⟨fun _ _ hv => rfl, fun _ _ _ _ _ => trivial⟩, fun val h_ W hx he => ⟨⟨42, rfl, rfl⟩, ?_⟩, ?_⟩
        ·replace hx := (Upd.drew _ _).trans hx
         replace hl := hl.ext hx
         have hE := Upd.refl (fun _ => False) W
         refine id (X_idx (v := l) (n := es.length) (k := .i64) (i := 0) S22 rfl hl.sv rfl (by omega) (by omega) ?_)
         exact ⟨hE, rfl⟩
        refine ⟨.det (fun val => (pof l ((0 : Int).toNat * 6 + 1))), ⟨fun _ _ hv => rfl, fun _ _ _ _ _ => trivial⟩, fun val h_ W hx he => ⟨⟨42, rfl, rfl⟩, ?_⟩, ?_⟩
        ·replace hx := (Upd.drew _ _).trans hx
         replace hl := hl.ext hx
         have hE := Upd.refl (fun _ => False) W
         refine id (X_fldS (v := l) (o := (0 : Int).toNat * 6) Fd44_1 rfl hl.sv (by omega) ?_)
         exact ⟨hE, rfl⟩
        refine ⟨.det (fun val => (pof l ((0 : Int).toNat * 6 + 1 + 0))), ⟨fun _ _ hv => rfl, fun _ _ _ _ _ => trivial⟩, fun val h_ W hx he => ⟨⟨42, rfl, rfl⟩, ?_⟩, ?_⟩
        ·replace hx := (Upd.drew _ _).trans hx
         replace hl := hl.ext hx
         have hE := Upd.refl (fun _ => False) W
         refine id (X_fldS (v := l) (o := (0 : Int).toNat * 6 + 1) Fd41_0 rfl hl.sv (by omega) ?_)
         exact ⟨hE, rfl⟩
        refine ⟨.det (fun val => (.int .u8 (e0.2.2.1))), ⟨fun _ _ hv => rfl, fun _ _ _ _ _ => trivial⟩, fun val h_ W hx he => ⟨⟨42, rfl, rfl⟩, ?_⟩, ?_⟩
        ·replace hx := (Upd.drew _ _).trans hx
         replace hl := hl.ext hx
         have hE := Upd.refl (fun _ => False) W
         refine id (X_load (v := .int .u8 e0.2.2.1) T5 rfl (show At _ (pof l _) _ from hl.cell he0 (j := 1) rfl) ?_)
         exact ⟨hE, rfl⟩
        intro val W31 hx31 he31
        replace hx31 := (Upd.drew _ _).trans hx31
        have hz31 := hx31.size
        replace hl := hl.ext hx31
        replace hU := hU.trans (Ext.upd hx31)
        refine L_gy (dj := 42) rfl rfl rfl (X_cmp (k := .u8) (a := e.2.2.1) (b := e0.2.2.1) (r := true) rfl rfl rfl (decide_eq_true (p := ((e.2.2.1) : Int) ≠ ((e0.2.2.1) : Int)) (by omega)) ?_)
        refine L_op rfl (X_pick (t := false) (v := (.bool (true))) rfl rfl ?_)
        refine L_nil ?_
        refine T_n ?_
        refine W_ct rfl ?_
        refine W_seq ?_
        refine W_reg ?_
        refine L_op rfl (X_assign (v := (.bool (false))) rfl ?_)
        refine L_nil ?_
        refine T_n ?_
        refine W_ret ?_
        refine T_r ?_
        refine B_r ?_
        refine T_r ?_
        refine T_r ?_
        refine B_r ?_
        refine T_r ?_
        have hR : ¬ RightK (es.map (fun (x : KE) => x.2)) := fun h => by obtain ⟨⟨h1, h2, h3⟩, h4⟩ := hst.1 (h.2 i (by rw [List.length_map]; exact hi)); exact hkq h3
        exact BQ_r (End_1 Tryd.results19 (v := .bool false) rfl ⟨by rw [decide_eq_false hR], hU.own hn0⟩)
      ·refine W_draw 28 [[], [], [0, 1], [0, 1, 2], [0, 1, 2, 3], [0, 1, 2, 3, 4], [0, 1, 2, 3, 4, 5], [0, 1, 2, 3, 4, 5, 6], [0, 1, 2, 3, 4, 5, 6, 7], [0, 1, 2, 3, 4, 5, 6, 7], [0, 1, 2, 3, 4, 5, 6, 7, 8, 9], [0, 1, 2, 3, 4, 5, 6, 7, 8, 9, 10], [0, 1, 2, 3, 4, 5, 6, 7, 8, 9, 10, 11], [0, 1, 2, 3, 4, 5, 6, 7, 8, 9, 10, 11, 12], [0, 1, 2, 3, 4, 5, 6, 7, 8, 9, 10, 11, 12, 13], [0, 1, 2, 3, 4, 5, 6, 7, 8, 9, 10, 11, 12, 13, 14], [0, 1, 2, 3, 4, 5, 6, 7, 8, 9, 10, 11, 12, 13, 14, 15], [0, 1, 2, 3, 4, 5, 6, 7, 8, 9, 10, 11, 12, 13, 14, 15, 16], [0, 1, 2, 3, 4, 5, 6, 7, 8, 9, 10, 11, 12, 13, 14, 15, 16], [0, 1, 2, 3, 4, 5, 6, 7, 8, 9, 10, 11, 12, 13, 14, 15, 16, 17, 18], [0, 1, 2, 3, 4, 5, 6, 7, 8, 9, 10, 11, 12, 13, 14, 15, 16, 17, 18, 19], [0, 1, 2, 3, 4, 5, 6, 7, 8, 9, 10, 11, 12, 13, 14, 15, 16, 17, 18, 19, 20], [0, 1, 2, 3, 4, 5, 6, 7, 8, 9, 10, 11, 12, 13, 14, 15, 16, 17, 18, 19, 20, 21], [0, 1, 2, 3, 4, 5, 6, 7, 8, 9, 10, 11, 12, 13, 14, 15, 16], [0, 1, 2, 3, 4, 5, 6, 7, 8, 9, 10, 11, 12, 13, 14, 15, 16, 23], [0, 1, 2, 3, 4, 5, 6, 7, 8, 9, 10, 11, 12, 13, 14, 15, 16, 23, 24], [0, 1, 2, 3, 4, 5, 6, 7, 8, 9, 10, 11, 12, 13, 14, 15, 16, 23, 24, 25], [0, 1, 2, 3, 4, 5, 6, 7, 8, 9, 10, 11, 12, 13, 14, 15, 16, 23, 24, 25, 26], [0, 1, 2, 3, 4, 5, 6, 7, 8, 9, 10, 11, 12, 13, 14, 15, 16, 17, 18, 19, 20, 21, 22, 23, 24, 25, 26, 27], [0, 1, 2, 3, 4, 5, 6, 7, 8, 9, 10, 11, 12, 13, 14, 15, 16, 17, 18, 19, 20, 21, 22, 23, 24, 25, 26, 27, 28]] mixed (by kernel_rfl) ?_
       refine ⟨.det (fun val => l), ⟨fun _ _ hv => rfl, fun _ _ _ _ _ => trivial⟩, fun val h_ W hx he => ⟨trivial, ?_⟩, ?_⟩
       ·replace hx := (Upd.drew _ _).trans hx
        replace hl := hl.ext hx
        have hE := Upd.refl (fun _ => False) W
        refine id (X_move (v := l) rfl ?_)
        exact ⟨hE, rfl⟩
       refine ⟨.det (fun val => (.int .i64 (((i : Nat) : Int)))), ⟨fun _ _ hv => rfl, fun _ _ _ _ _ => trivial⟩, fun val h_ W hx he => ⟨trivial, ?_⟩, ?_⟩
       ·replace hx := (Upd.drew _ _).trans hx
        replace hl := hl.ext hx
        have hE := Upd.refl (fun _ => False) W
        refine id (X_move (v := (.int .i64 (((i : Nat) : Int)))) rfl ?_)
        exact ⟨hE, rfl⟩
       refine ⟨.det (fun val => (pof l ((((i : Nat) : Int) : Int).toNat * 6))), ⟨fun _ _ hv => rfl, fun _ _ _ _ _ => trivial⟩, fun val h_ W hx he => ⟨trivial, ?_⟩, ?_⟩
       ·replace hx := (Upd.drew _ _).trans hx
        replace hl := hl.ext hx
        have hE := Upd.refl (fun _ => False) W
        refine id (X_idx (v := l) (n := es.length) (k := .i64) (i := ((i : Nat) : Int)) S22 rfl hl.sv rfl (by omega) (by omega) ?_)
        exact ⟨hE, rfl⟩
       refine ⟨.det (fun val => (pof l ((((i : Nat) : Int) : Int).toNat * 6 + 1))), ⟨fun _ _ hv => rfl, fun _ _ _ _ _ => trivial⟩, fun val h_ W hx he => ⟨trivial, ?_⟩, ?_⟩
       ·replace hx := (Upd.drew _ _).trans hx
        replace hl := hl.ext hx
        have hE := Upd.refl (fun _ => False) W
        refine id (X_fldS (v := l) (o := (((i : Nat) : Int) : Int).toNat * 6) Fd44_1 rfl hl.sv (by omega) ?_)
        exact ⟨hE, rfl⟩
       refine ⟨.det (fun val => (.agg (ptC e.2.2).toArray)), ⟨fun _ _ hv => rfl, fun _ _ _ _ _ => trivial⟩, fun val h_ W hx he => ⟨trivial, ?_⟩, ?_⟩
       ·replace hx := (Upd.drew _ _).trans hx
        replace hl := hl.ext hx
        have hE := Upd.refl (fun _ => False) W
        refine id (X_loadA (xs := ptC e.2.2) A41 rfl (kptr hl (Int.toNat_natCast _) hei) rfl ?_)
        exact ⟨hE, rfl⟩
       refine ⟨.det (fun _ => .bool true), ⟨fun _ _ _ => rfl, fun _ _ _ _ _ => trivial⟩, fun val h_ W hx he => ⟨trivial, ?_⟩, ?_⟩
       ·replace hx := (Upd.drew _ _).trans hx
        replace hl := hl.ext hx
        have hE := Upd.refl (fun _ => False) W
        refine X_fn (vs := [.agg (ptC e.2.2).toArray]) en36 rfl (CT.mono (c_metaR e.2.2 _) ?_)
        rintro _ w9 ⟨rfl, hu9⟩
        exact ⟨hu9, by rw [hs7]⟩
       refine ⟨.det (fun val => (.bool (false))), ⟨fun _ _ hv => rfl, fun _ _ _ _ _ => trivial⟩, fun val h_ W hx he => ⟨trivial, ?_⟩, ?_⟩
       ·replace hx := (Upd.drew _ _).trans hx
        replace hl := hl.ext hx
        have hE := Upd.refl (fun _ => False) W
        refine id (X_not (b := true) (r := false) rfl rfl ?_)
        exact ⟨hE, rfl⟩
       refine ⟨.det (fun val => (.bool (false))), ⟨fun _ _ hv => rfl, fun _ _ _ _ _ => trivial⟩, fun val h_ W hx he => ⟨trivial, ?_⟩, ?_⟩
       ·replace hx := (Upd.drew _ _).trans hx
        replace hl := hl.ext hx
        have hE := Upd.refl (fun _ => False) W
        refine id (X_move (v := (.bool (false))) rfl ?_)
        exact ⟨hE, rfl⟩
       refine ⟨.det (fun val => l), ⟨fun _ _ hv => rfl, fun _ _ _ _ _ => trivial⟩, fun val h_ W hx he => ⟨⟨33, rfl, rfl⟩, ?_⟩, ?_⟩
       ·replace hx := (Upd.drew _ _).trans hx
        replace hl := hl.ext hx
        have hE := Upd.refl (fun _ => False) W
        refine id (X_move (v := l) rfl ?_)
        exact ⟨hE, rfl⟩
       refine ⟨.det (fun val => (.int .i64 (((i : Nat) : Int)))), ⟨fun _ _ hv => rfl, fun _ _ _ _ _ => trivial⟩, fun val h_ W hx he => ⟨⟨33, rfl, rfl⟩, ?_⟩, ?_⟩
       ·replace hx := (Upd.drew _ _).trans hx
        replace hl := hl.ext hx
        have hE := Upd.refl (fun _ => False) W
        refine id (X_move (v := (.int .i64 (((i : Nat) : Int)))) rfl ?_)
        exact ⟨hE, rfl⟩
       refine ⟨.det (fun val => (pof l ((((i : Nat) : Int) : Int).toNat * 6))), ⟨fun _ _ hv => rfl, fun _ _ _ _ _ => trivial⟩, fun val h_ W hx he => ⟨⟨33, rfl, rfl⟩, ?_⟩, ?_⟩
       ·replace hx := (Upd.drew _ _).trans hx
        replace hl := hl.ext hx
        have hE := Upd.refl (fun _ => False) W
        refine id (X_idx (v := l) (n := es.length) (k := .i64) (i := ((i : Nat) : Int)) S22 rfl hl.sv rfl (by omega) (by omega) ?_)
        exact ⟨hE, rfl⟩
       refine ⟨.det (fun val => (pof l ((((i : Nat) : Int) : Int).toNat * 6 + 1))), ⟨fun _ _ hv => rfl, fun _ _ _ _ _ => trivial⟩, fun val h_ W hx he => ⟨⟨33, rfl, rfl⟩, ?_⟩, ?_⟩
       ·replace hx := (Upd.drew _ _).trans hx
        replace hl := hl.ext hx
        have hE := Upd.refl (fun _ => False) W
        refine id (X_fldS (v := l) (o := (((i : Nat) : Int) : Int).toNat * 6) Fd44_1 rfl hl.sv (by omega) ?_)
        exact ⟨hE, rfl⟩
       refine ⟨.det (fun val => (.agg (ptC e.2.2).toArray)), ⟨fun _ _ hv => rfl, fun _ _ _ _ _ => trivial⟩, fun val h_ W hx he => ⟨⟨33, rfl, rfl⟩, ?_⟩, ?_⟩
       ·replace hx := (Upd.drew _ _).trans hx
        replace hl := hl.ext hx
        have hE := Upd.refl (fun _ => False) W
        refine id (X_loadA (xs := ptC e.2.2) A41 rfl (kptr hl (Int.toNat_natCast _) hei) rfl ?_)
        exact ⟨hE, rfl⟩
       refine ⟨.det (fun _ => .bool false), ⟨fun _ _ _ => rfl, fun _ _ _ _ _ => trivial⟩, fun val h_ W hx he => ⟨⟨33, rfl, rfl⟩, ?_⟩, ?_⟩
       ·replace hx := (Upd.drew _ _).trans hx
        replace hl := hl.ext hx
        have hE := Upd.refl (fun _ => False) W
        refine X_fn (vs := [.agg (ptC e.2.2).toArray, .int .i64 256]) en37 rfl (CT.mono (c_rightR e.2.2 256 _ (hpt e (List.mem_of_getElem? hei))) ?_)
        rintro _ w9 ⟨rfl, hu9⟩
        exact ⟨hu9, by rw [hs8]⟩
       refine ⟨.det (fun val => (.bool (true))), ⟨fun _ _ hv => rfl, fun _ _ _ _ _ => trivial⟩, fun val h_ W hx he => ⟨⟨33, rfl, rfl⟩, ?_⟩, ?_⟩
       ·replace hx := (Upd.drew _ _).trans hx
        replace hl := hl.ext hx
        have hE := Upd.refl (fun _ => False) W
        refine id (X_not (b := false) (r := true) rfl rfl ?_)
        exact ⟨hE, rfl⟩
       refine ⟨.det (fun val => (.bool (true))), ⟨fun _ _ hv => rfl, fun _ _ _ _ _ => trivial⟩, fun val h_ W hx he => ⟨trivial, ?_⟩, ?_⟩
       ·replace hx := (Upd.drew _ _).trans hx
        replace hl := hl.ext hx
        have hE := Upd.refl (fun _ => False) W
        refine id (X_pick (t := false) (v := (.bool (true))) rfl rfl ?_)
        exact ⟨hE, rfl⟩
       refine ⟨.det (fun val => (.bool (true))), ⟨fun _ _ hv => rfl, fun _ _ _ _ _ => trivial⟩, fun val h_ W hx he => ⟨trivial, ?_⟩, ?_⟩
       ·replace hx := (Upd.drew _ _).trans hx
        replace hl := hl.ext hx
        have hE := Upd.refl (fun _ => False) W
        refine id (X_move (v := (.bool (true))) rfl ?_)
        exact ⟨hE, rfl⟩
       refine ⟨.no, ⟨fun _ _ _ => trivial, fun _ _ _ _ _ => trivial⟩, fun val h_ W hx he => ⟨42, rfl, .inl rfl⟩, ?_⟩
       refine ⟨.no, ⟨fun _ _ _ => trivial, fun _ _ _ _ _ => trivial⟩, fun val h_ W hx he => ⟨42, rfl, .inl rfl⟩, ?_⟩
       refine ⟨.no, ⟨fun _ _ _ => trivial, fun _ _ _ _ _ => trivial⟩, fun val h_ W hx he => ⟨42, rfl, .inl rfl⟩, ?_⟩
       refine ⟨.no, ⟨fun _ _ _ => trivial, fun _ _ _ _ _ => trivial⟩, fun val h_ W hx he => ⟨42, rfl, .inl rfl⟩, ?_⟩
       refine ⟨.no, ⟨fun _ _ _ => trivial, fun _ _ _ _ _ => trivial⟩, fun val h_ W hx he => ⟨42, rfl, .inl rfl⟩, ?_⟩
       refine ⟨.no, ⟨fun _ _ _ => trivial, fun _ _ _ _ _ => trivial⟩, fun val h_ W hx he => ⟨42, rfl, .inl rfl⟩, ?_⟩
       refine ⟨.no, ⟨fun _ _ _ => trivial, fun _ _ _ _ _ => trivial⟩, fun val h_ W hx he => ⟨42, rfl, .inl rfl⟩, ?_⟩
       refine ⟨.no, ⟨fun _ _ _ => trivial, fun _ _ _ _ _ => trivial⟩, fun val h_ W hx he => ⟨42, rfl, .inl rfl⟩, ?_⟩
       refine ⟨.no, ⟨fun _ _ _ => trivial, fun _ _ _ _ _ => trivial⟩, fun val h_ W hx he => ⟨42, rfl, .inl rfl⟩, ?_⟩
       refine ⟨.no, ⟨fun _ _ _ => trivial, fun _ _ _ _ _ => trivial⟩, fun val h_ W hx he => ⟨42, rfl, .inl rfl⟩, ?_⟩
       refine ⟨.no, ⟨fun _ _ _ => trivial, fun _ _ _ _ _ => trivial⟩, fun val h_ W hx he => ⟨42, rfl, .inl rfl⟩, ?_⟩
       intro val W32 hx32 he32
       replace hx32 := (Upd.drew _ _).trans hx32
       have hz32 := hx32.size
       replace hl := hl.ext hx32
       replace hU := hU.trans (Ext.upd hx32)
       refine L_gn (dj := 42) (t := true) rfl rfl rfl rfl ?_
       refine L_op rfl (X_pick (t := true) (v := (.bool (true))) rfl rfl ?_)
       refine L_nil ?_
       refine T_n ?_
       refine W_ct rfl ?_
       refine W_seq ?_
       refine W_reg ?_
       refine L_op rfl (X_assign (v := (.bool (false))) rfl ?_)
       refine L_nil ?_
       refine T_n ?_
       refine W_ret ?_
       refine T_r ?_
       refine B_r ?_
       refine T_r ?_
       refine T_r ?_
       refine B_r ?_
       refine T_r ?_
       have hR : ¬ RightK (es.map (fun (x : KE) => x.2)) := fun h => by obtain ⟨⟨h1, h2, h3⟩, h4⟩ := hst.1 (h.2 i (by rw [List.length_map]; exact hi)); exact absurd h2 (of_decide_eq_false hs8)
       exact BQ_r (End_1 Tryd.results19 (v := .bool false) rfl ⟨by rw [decide_eq_false hR], hU.own hn0⟩)
     ·refine W_draw 28 [[], [], [0, 1], [0, 1, 2], [0, 1, 2, 3], [0, 1, 2, 3, 4], [0, 1, 2, 3, 4, 5], [0, 1, 2, 3, 4, 5, 6], [0, 1, 2, 3, 4, 5, 6, 7], [0, 1, 2, 3, 4, 5, 6, 7], [0, 1, 2, 3, 4, 5, 6, 7, 8, 9], [0, 1, 2, 3, 4, 5, 6, 7, 8, 9, 10], [0, 1, 2, 3, 4, 5, 6, 7, 8, 9, 10, 11], [0, 1, 2, 3, 4, 5, 6, 7, 8, 9, 10, 11, 12], [0, 1, 2, 3, 4, 5, 6, 7, 8, 9, 10, 11, 12, 13], [0, 1, 2, 3, 4, 5, 6, 7, 8, 9, 10, 11, 12, 13, 14], [0, 1, 2, 3, 4, 5, 6, 7, 8, 9, 10, 11, 12, 13, 14, 15], [0, 1, 2, 3, 4, 5, 6, 7, 8, 9, 10, 11, 12, 13, 14, 15, 16], [0, 1, 2, 3, 4, 5, 6, 7, 8, 9, 10, 11, 12, 13, 14, 15, 16], [0, 1, 2, 3, 4, 5, 6, 7, 8, 9, 10, 11, 12, 13, 14, 15, 16, 17, 18], [0, 1, 2, 3, 4, 5, 6, 7, 8, 9, 10, 11, 12, 13, 14, 15, 16, 17, 18, 19], [0, 1, 2, 3, 4, 5, 6, 7, 8, 9, 10, 11, 12, 13, 14, 15, 16, 17, 18, 19, 20], [0, 1, 2, 3, 4, 5, 6, 7, 8, 9, 10, 11, 12, 13, 14, 15, 16, 17, 18, 19, 20, 21], [0, 1, 2, 3, 4, 5, 6, 7, 8, 9, 10, 11, 12, 13, 14, 15, 16], [0, 1, 2, 3, 4, 5, 6, 7, 8, 9, 10, 11, 12, 13, 14, 15, 16, 23], [0, 1, 2, 3, 4, 5, 6, 7, 8, 9, 10, 11, 12, 13, 14, 15, 16, 23, 24], [0, 1, 2, 3, 4, 5, 6, 7, 8, 9, 10, 11, 12, 13, 14, 15, 16, 23, 24, 25], [0, 1, 2, 3, 4, 5, 6, 7, 8, 9, 10, 11, 12, 13, 14, 15, 16, 23, 24, 25, 26], [0, 1, 2, 3, 4, 5, 6, 7, 8, 9, 10, 11, 12, 13, 14, 15, 16, 17, 18, 19, 20, 21, 22, 23, 24, 25, 26, 27], [0, 1, 2, 3, 4, 5, 6, 7, 8, 9, 10, 11, 12, 13, 14, 15, 16, 17, 18, 19, 20, 21, 22, 23, 24, 25, 26, 27, 28]] mixed (by kernel_rfl) ?_
      refine ⟨.det (fun val => l), ⟨fun _ _ hv => rfl, fun _ _ _ _ _ => trivial⟩, fun val h_ W hx he => ⟨trivial, ?_⟩, ?_⟩
      ·replace hx := (Upd.drew _ _).trans hx
       replace hl := hl.ext hx
       have hE := Upd.refl (fun _ => False) W
       refine id (X_move (v := l) rfl ?_)
       exact ⟨hE, rfl⟩
      refine ⟨.det (fun val => (.int .i64 (((i : Nat) : Int)))), ⟨fun _ _ hv => rfl, fun _ _ _ _ _ => trivial⟩, fun val h_ W hx he => ⟨trivial, ?_⟩, ?_⟩
      ·replace hx := (Upd.drew _ _).trans hx
       replace hl := hl.ext hx
       have hE := Upd.refl (fun _ => False) W
       refine id (X_move (v := (.int .i64 (((i : Nat) : Int)))) rfl ?_)
       exact ⟨hE, rfl⟩
      refine ⟨.det (fun val => (pof l ((((i : Nat) : Int) : Int).toNat * 6))), ⟨fun _ _ hv => rfl, fun _ _ _ _ _ => trivial⟩, fun val h_ W hx he => ⟨trivial, ?_⟩, ?_⟩
      ·replace hx := (Upd.drew _ _).trans hx
       replace hl := hl.ext hx
       have hE := Upd.refl (fun _ => False) W
       refine id (X_idx (v := l) (n := es.length) (k := .i64) (i := ((i : Nat) : Int)) S22 rfl hl.sv rfl (by omega) (by omega) ?_)
       exact ⟨hE, rfl⟩
      refine ⟨.det (fun val => (pof l ((((i : Nat) : Int) : Int).toNat * 6 + 1))), ⟨fun _ _ hv => rfl, fun _ _ _ _ _ => trivial⟩, fun val h_ W hx he => ⟨trivial, ?_⟩, ?_⟩
      ·replace hx := (Upd.drew _ _).trans hx
       replace hl := hl.ext hx
       have hE := Upd.refl (fun _ => False) W
       refine id (X_fldS (v := l) (o := (((i : Nat) : Int) : Int).toNat * 6) Fd44_1 rfl hl.sv (by omega) ?_)
       exact ⟨hE, rfl⟩
      refine ⟨.det (fun val => (.agg (ptC e.2.2).toArray)), ⟨fun _ _ hv => rfl, fun _ _ _ _ _ => trivial⟩, fun val h_ W hx he => ⟨trivial, ?_⟩, ?_⟩
      ·replace hx := (Upd.drew _ _).trans hx
       replace hl := hl.ext hx
       have hE := Upd.refl (fun _ => False) W
       refine id (X_loadA (xs := ptC e.2.2) A41 rfl (kptr hl (Int.toNat_natCast _) hei) rfl ?_)
       exact ⟨hE, rfl⟩
      refine ⟨.det (fun _ => .bool false), ⟨fun _ _ _ => rfl, fun _ _ _ _ _ => trivial⟩, fun val h_ W hx he => ⟨trivial, ?_⟩, ?_⟩
      ·replace hx := (Upd.drew _ _).trans hx
       replace hl := hl.ext hx
       have hE := Upd.refl (fun _ => False) W
       refine X_fn (vs := [.agg (ptC e.2.2).toArray]) en36 rfl (CT.mono (c_metaR e.2.2 _) ?_)
       rintro _ w9 ⟨rfl, hu9⟩
       exact ⟨hu9, by rw [hs7]⟩
      refine ⟨.det (fun val => (.bool (true))), ⟨fun _ _ hv => rfl, fun _ _ _ _ _ => trivial⟩, fun val h_ W hx he => ⟨trivial, ?_⟩, ?_⟩
      ·replace hx := (Upd.drew _ _).trans hx
       replace hl := hl.ext hx
       have hE := Upd.refl (fun _ => False) W
       refine id (X_not (b := false) (r := true) rfl rfl ?_)
       exact ⟨hE, rfl⟩
      refine ⟨.det (fun val => (.bool (true))), ⟨fun _ _ hv => rfl, fun _ _ _ _ _ => trivial⟩, fun val h_ W hx he => ⟨trivial, ?_⟩, ?_⟩
      ·replace hx := (Upd.drew _ _).trans hx
       replace hl := hl.ext hx
       have hE := Upd.refl (fun _ => False) W
       refine id (X_move (v := (.bool (true))) rfl ?_)
       exact ⟨hE, rfl⟩
      refine ⟨.no, ⟨fun _ _ _ => trivial, fun _ _ _ _ _ => trivial⟩, fun val h_ W hx he => ⟨33, rfl, .inl rfl⟩, ?_⟩
      refine ⟨.no, ⟨fun _ _ _ => trivial, fun _ _ _ _ _ => trivial⟩, fun val h_ W hx he => ⟨33, rfl, .inl rfl⟩, ?_⟩
      refine ⟨.no, ⟨fun _ _ _ => trivial, fun _ _ _ _ _ => trivial⟩, fun val h_ W hx he => ⟨33, rfl, .inl rfl⟩, ?_⟩
      refine ⟨.no, ⟨fun _ _ _ => trivial, fun _ _ _ _ _ => trivial⟩, fun val h_ W hx he => ⟨33, rfl, .inl rfl⟩, ?_⟩
      refine ⟨.no, ⟨fun _ _ _ => trivial, fun _ _ _ _ _ => trivial⟩, fun val h_ W hx he => ⟨33, rfl, .inl rfl⟩, ?_⟩
      refine ⟨.no, ⟨fun _ _ _ => trivial, fun _ _ _ _ _ => trivial⟩, fun val h_ W hx he => ⟨33, rfl, .inl rfl⟩, ?_⟩
      refine ⟨.no, ⟨fun _ _ _ => trivial, fun _ _ _ _ _ => trivial⟩, fun val h_ W hx he => ⟨33, rfl, .inl rfl⟩, ?_⟩
      refine ⟨.det (fun val => (.bool (true))), ⟨fun _ _ hv => rfl, fun _ _ _ _ _ => trivial⟩, fun val h_ W hx he => ⟨trivial, ?_⟩, ?_⟩
      ·replace hx := (Upd.drew _ _).trans hx
       replace hl := hl.ext hx
       have hE := Upd.refl (fun _ => False) W
       refine id (X_pick (t := true) (v := (.bool (true))) rfl rfl ?_)
       exact ⟨hE, rfl⟩
      refine ⟨.det (fun val => (.bool (true))), ⟨fun _ _ hv => rfl, fun _ _ _ _ _ => trivial⟩, fun val h_ W hx he => ⟨trivial, ?_⟩, ?_⟩
      ·replace hx := (Upd.drew _ _).trans hx
       replace hl := hl.ext hx
       have hE := Upd.refl (fun _ => False) W
       refine id (X_move (v := (.bool (true))) rfl ?_)
       exact ⟨hE, rfl⟩
      refine ⟨.no, ⟨fun _ _ _ => trivial, fun _ _ _ _ _ => trivial⟩, fun val h_ W hx he => ⟨42, rfl, .inl rfl⟩, ?_⟩
      refine ⟨.no, ⟨fun _ _ _ => trivial, fun _ _ _ _ _ => trivial⟩, fun val h_ W hx he => ⟨42, rfl, .inl rfl⟩, ?_⟩
      refine ⟨.no, ⟨fun _ _ _ => trivial, fun _ _ _ _ _ => trivial⟩, fun val h_ W hx he => ⟨42, rfl, .inl rfl⟩, ?_⟩
      refine ⟨.no, ⟨fun _ _ _ => trivial, fun _ _ _ _ _ => trivial⟩, fun val h_ W hx he => ⟨42, rfl, .inl rfl⟩, ?_⟩
      refine ⟨.no, ⟨fun _ _ _ => trivial, fun _ _ _ _ _ => trivial⟩, fun val h_ W hx he => ⟨42, rfl, .inl rfl⟩, ?_⟩
      refine ⟨.no, ⟨fun _ _ _ => trivial, fun _ _ _ _ _ => trivial⟩, fun val h_ W hx he => ⟨42, rfl, .inl rfl⟩, ?_⟩
      refine ⟨.no, ⟨fun _ _ _ => trivial, fun _ _ _ _ _ => trivial⟩, fun val h_ W hx he => ⟨42, rfl, .inl rfl⟩, ?_⟩
      refine ⟨.no, ⟨fun _ _ _ => trivial, fun _ _ _ _ _ => trivial⟩, fun val h_ W hx he => ⟨42, rfl, .inl rfl⟩, ?_⟩
      refine ⟨.no, ⟨fun _ _ _ => trivial, fun _ _ _ _ _ => trivial⟩, fun val h_ W hx he => ⟨42, rfl, .inl rfl⟩, ?_⟩
      refine ⟨.no, ⟨fun _ _ _ => trivial, fun _ _ _ _ _ => trivial⟩, fun val h_ W hx he => ⟨42, rfl, .inl rfl⟩, ?_⟩
      refine ⟨.no, ⟨fun _ _ _ => trivial, fun _ _ _ _ _ => trivial⟩, fun val h_ W hx he => ⟨42, rfl, .inl rfl⟩, ?_⟩
      intro val W33 hx33 he33
      replace hx33 := (Upd.drew _ _).trans hx33
      have hz33 := hx33.size
      replace hl := hl.ext hx33
      replace hU := hU.trans (Ext.upd hx33)
      refine L_gn (dj := 42) (t := true) rfl rfl rfl rfl ?_
      refine L_op rfl (X_pick (t := true) (v := (.bool (true))) rfl rfl ?_)
      refine L_nil ?_
      refine T_n ?_
      refine W_ct rfl ?_
      refine W_seq ?_
      refine W_reg ?_
      refine L_op rfl (X_assign (v := (.bool (false))) rfl ?_)
      refine L_nil ?_
      refine T_n ?_
      refine W_ret ?_
      refine T_r ?_
      refine B_r ?_
      refine T_r ?_
      refine T_r ?_
      refine B_r ?_
      refine T_r ?_
      have hR : ¬ RightK (es.map (fun (x : KE) => x.2)) := fun h => by obtain ⟨⟨h1, h2, h3⟩, h4⟩ := hst.1 (h.2 i (by rw [List.length_map]; exact hi)); exact absurd h1 (of_decide_eq_false hs7)
      exact BQ_r (End_1 Tryd.results19 (v := .bool false) rfl ⟨by rw [decide_eq_false hR], hU.own hn0⟩)
    ·refine L_op rfl (X_cmp (k := .i64) (a := ((i : Nat) : Int)) (b := ((es.length : Nat) : Int)) (r := false) rfl rfl rfl (decide_eq_false (p := ((((i : Nat) : Int)) : Int) < ((((es.length : Nat) : Int)) : Int)) (by omega)) ?_)
     refine L_nil ?_
     refine T_n ?_
     refine W_cf rfl ?_
     refine W_exit ?_
     refine T_e ?_
     refine T_e ?_
     refine B_x ?_
     refine T_n ?_
     refine W_seq ?_
     refine W_reg ?_
     refine L_op rfl (X_assign (v := (.bool (true))) rfl ?_)
     refine L_nil ?_
     refine T_n ?_
     refine W_ret ?_
     have hR : RightK (es.map (fun (x : KE) => x.2)) := ⟨⟨by rw [List.length_map]; omega, by rw [List.length_map]; omega, by rw [hd0]; omega⟩, fun j hj => hz j (by rw [List.length_map] at hj; omega)⟩
     exact BQ_r (End_1 Tryd.results19 (v := .bool true) rfl ⟨by rw [decide_eq_true hR], hU.own hn0⟩)
end Go.Proofs.YtbgpegccnalkeaaDoor
