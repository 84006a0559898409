/-
  The contracts of branches: sameness, births. (Printed by wip/gen/t07e.py of this repo.)
-/
import Derived.Test.YtbgpegccnalkeaaDoorPtrC
import Derived.Test.YtbgpegccnalkeaaDoorBaseI
import Derived.Test.YtbgpegccnalkeaaDoorBaseL
namespace Go.Proofs.YtbgpegccnalkeaaDoor
open Go Go.SL Go.Proofs
set_option linter.unusedVariables false

theorem same_step {es fs : List KE} {i : Nat} {a b : KE} (ha : es[i]? = some a) (hb : fs[i]? = some b) (hz : (es.take i).map (·.2) = (fs.take i).map (·.2)) (h : a.2 = b.2) : (es.take (i + 1)).map (·.2) = (fs.take (i + 1)).map (·.2) := by
  rw [List.take_add_one, List.take_add_one, ha, hb, List.map_append, List.map_append, hz]
  simp [h]
theorem same_kid {a b : KE} (h1 : a.2.1 = b.2.1) (h2 : a.2.2 = b.2.2) : a.2 = b.2 := Prod.ext h1 h2
theorem same_no {es fs : List KE} {i : Nat} {a b : KE} (ha : es[i]? = some a) (hb : fs[i]? = some b) (h : es.map (·.2) = fs.map (·.2)) : a.2 = b.2 := by
  have h2 : (es.map (·.2))[i]? = (fs.map (·.2))[i]? := by rw [h]
  rw [List.getElem?_map, List.getElem?_map, ha, hb] at h2
  simpa using h2

theorem c_same (l m : Value) (es fs : List KE) (w : World) (lo hi lo2 hi2 : Nat) (hl : NRd LK w lo hi l es) (hm : NRd LK w lo2 hi2 m fs) : CT Tryd.prog 30 #[l, m] w fun v w' => (∃ g, v = .bool g ∧ (g = true ↔ es.map (·.2) = fs.map (·.2))) ∧ Ext w w' := by
  have hmx := hl.sv.len
  have hE := Upd.refl (fun _ => False) w
  refine CT_of Tryd.func30 rfl rfl rfl ?_
  refine W_seq ?_
  refine W_reg ?_
  refine L_op rfl (X_assign (v := (.bool (false))) rfl ?_)
  refine L_nil ?_
  refine T_n ?_
  refine W_seq ?_
  refine W_seq ?_
  refine W_reg ?_
  refine L_op rfl (X_move (v := l) rfl ?_)
  refine L_op rfl (X_len (v := l) (n := es.length) Tryd.underlying22 rfl hl.sv ?_)
  refine L_op rfl (X_move (v := m) rfl ?_)
  refine L_op rfl (X_len (v := m) (n := fs.length) Tryd.underlying22 rfl hm.sv ?_)
  by_cases hc1 : (((es.length : Nat) : Int) : Int) ≠ (((fs.length : Nat) : Int))
  · refine L_op rfl (X_cmp (k := .i64) (a := ((es.length : Nat) : Int)) (b := ((fs.length : Nat) : Int)) (r := true) rfl rfl rfl (decide_eq_true (p := ((((es.length : Nat) : Int)) : Int) ≠ ((((fs.length : Nat) : Int)) : Int)) (by omega)) ?_)
    refine L_nil ?_
    refine T_n ?_
    refine W_ct rfl ?_
    refine W_seq ?_
    refine W_reg ?_
    refine L_op rfl (X_assign (v := (.bool (false))) rfl ?_)
    refine L_nil ?_
    refine T_n ?_
    refine W_ret ?_
    refine T_r ?_
    exact BQ_r (End_1 Tryd.results30 (v := .bool false) rfl ⟨⟨false, rfl, ⟨fun h => (by cases h), fun h => (by have h1 := congrArg List.length h; rw [List.length_map, List.length_map] at h1; omega)⟩⟩, Ext.upd hE⟩)
  · refine L_op rfl (X_cmp (k := .i64) (a := ((es.length : Nat) : Int)) (b := ((fs.length : Nat) : Int)) (r := false) rfl rfl rfl (decide_eq_false (p := ((((es.length : Nat) : Int)) : Int) ≠ ((((fs.length : Nat) : Int)) : Int)) (by omega)) ?_)
    refine L_nil ?_
    refine T_n ?_
    refine W_cf rfl ?_
    refine W_skip ?_
    refine T_n ?_
    refine W_seq ?_
    refine W_seq ?_
    refine W_reg ?_
    refine L_op rfl (X_assign (v := (.int .i64 (0))) rfl ?_)
    refine L_nil ?_
    refine T_n ?_
    refine W_block ?_
    refine W_loop (α := Nat) [4, 5, 11, 12, 13, 14, 15, 16, 17, 18, 19, 20, 21, 22, 23, 24, 25, 26, 27, 28, 29, 30, 31, 32, 33, 34, 35, 36, 37, 38, 39, 40, 41, 42] (fun i => [(5, (.int .i64 (((i : Nat) : Int))))]) (fun i w_ => i ≤ es.length ∧ NRd LK w_ lo hi l es ∧ NRd LK w_ lo2 hi2 m fs ∧ Ext w w_ ∧ (es.take i).map (·.2) = (fs.take i).map (·.2)) (fun i => es.length - i) ⟨rfl, 0, ⟨Nat.zero_le _, hl, hm, hE, rfl⟩, Out.refl _ _, ⟨rfl, trivial⟩⟩ ?_
    rintro i w2 _ ⟨hil, hl, hm, hE, hz⟩
    refine W_seq ?_
    refine W_seq ?_
    refine W_reg ?_
    refine L_op rfl (X_move (v := (.int .i64 (((i : Nat) : Int)))) rfl ?_)
    refine L_op rfl (X_move (v := l) rfl ?_)
    refine L_op rfl (X_len (v := l) (n := es.length) Tryd.underlying22 rfl hl.sv ?_)
    by_cases hc3 : (((i : Nat) : Int) : Int) < (((es.length : Nat) : Int))
    · refine L_op rfl (X_cmp (k := .i64) (a := ((i : Nat) : Int)) (b := ((es.length : Nat) : Int)) (r := true) rfl rfl rfl (decide_eq_true (p := ((((i : Nat) : Int)) : Int) < ((((es.length : Nat) : Int)) : Int)) (by omega)) ?_)
      have hi : i < es.length := by omega
      obtain ⟨a, hai⟩ : ∃ a, es[i]? = some a := ⟨_, List.getElem?_eq_getElem hi⟩
      obtain ⟨b, hbi⟩ : ∃ b, fs[i]? = some b := ⟨_, List.getElem?_eq_getElem (by omega)⟩
      refine L_nil ?_
      refine T_n ?_
      refine W_ct rfl ?_
      refine W_skip ?_
      refine T_n ?_
      refine W_seq ?_
      refine W_block ?_
      refine W_seq ?_
      rcases Bool.eq_false_or_eq_true (scmp .neq (a.2.1) (b.2.1)) with hs4 | hs4
      · rcases Bool.eq_false_or_eq_true (a.2.2 == b.2.2) with hs5 | hs5
        · refine W_draw 24 [[], [], [0, 1], [0, 1, 2], [0, 1, 2, 3], [0, 1, 2, 3, 4], [], [], [6, 7], [6, 7, 8], [6, 7, 8, 9], [6, 7, 8, 9, 10], [0, 1, 2, 3, 4, 5, 6, 7, 8, 9, 10, 11], [0, 1, 2, 3, 4, 5, 6, 7, 8, 9, 10, 11, 12], [0, 1, 2, 3, 4, 5, 6, 7, 8, 9, 10, 11, 12, 13], [0, 1, 2, 3, 4, 5, 6, 7, 8, 9, 10, 11, 12, 13], [0, 1, 2, 3, 4, 5, 6, 7, 8, 9, 10, 11, 12, 13, 14, 15], [0, 1, 2, 3, 4, 5, 6, 7, 8, 9, 10, 11, 12, 13, 14, 15, 16], [0, 1, 2, 3, 4, 5, 6, 7, 8, 9, 10, 11, 12, 13, 14, 15, 16, 17], [0, 1, 2, 3, 4, 5, 6, 7, 8, 9, 10, 11, 12, 13], [0, 1, 2, 3, 4, 5, 6, 7, 8, 9, 10, 11, 12, 13], [0, 1, 2, 3, 4, 5, 6, 7, 8, 9, 10, 11, 12, 13, 19, 20], [0, 1, 2, 3, 4, 5, 6, 7, 8, 9, 10, 11, 12, 13, 19, 20, 21], [0, 1, 2, 3, 4, 5, 6, 7, 8, 9, 10, 11, 12, 13, 19, 20, 21, 22], [0, 1, 2, 3, 4, 5, 6, 7, 8, 9, 10, 11, 12, 13, 14, 15, 16, 17, 18, 19, 20, 21, 22, 23], [0, 1, 2, 3, 4, 5, 6, 7, 8, 9, 10, 11, 12, 13, 14, 15, 16, 17, 18, 19, 20, 21, 22, 23, 24]] mixed (by kernel_rfl) ?_
          refine ⟨.det (fun val => l), ⟨fun _ _ hv => rfl, fun _ _ _ _ _ => trivial⟩, fun val h_ W hx he => ⟨trivial, ?_⟩, ?_⟩
          · replace hx := (Upd.drew _ _).trans hx
            replace hl := hl.ext hx
            replace hm := hm.ext hx
            have hE := Upd.refl (fun _ => False) W
            refine id (X_move (v := l) rfl ?_)
            exact ⟨hE, rfl⟩
          refine ⟨.det (fun val => (.int .i64 (((i : Nat) : Int)))), ⟨fun _ _ hv => rfl, fun _ _ _ _ _ => trivial⟩, fun val h_ W hx he => ⟨trivial, ?_⟩, ?_⟩
          · replace hx := (Upd.drew _ _).trans hx
            replace hl := hl.ext hx
            replace hm := hm.ext hx
            have hE := Upd.refl (fun _ => False) W
            refine id (X_move (v := (.int .i64 (((i : Nat) : Int)))) rfl ?_)
            exact ⟨hE, rfl⟩
          refine ⟨.det (fun val => (pof l ((((i : Nat) : Int) : Int).toNat * 6))), ⟨fun _ _ hv => rfl, fun _ _ _ _ _ => trivial⟩, fun val h_ W hx he => ⟨trivial, ?_⟩, ?_⟩
          · replace hx := (Upd.drew _ _).trans hx
            replace hl := hl.ext hx
            replace hm := hm.ext hx
            have hE := Upd.refl (fun _ => False) W
            refine id (X_idx (v := l) (n := es.length) (k := .i64) (i := ((i : Nat) : Int)) S22 rfl hl.sv rfl (by omega) (by omega) ?_)
            exact ⟨hE, rfl⟩
          refine ⟨.det (fun val => (pof l ((((i : Nat) : Int) : Int).toNat * 6 + 0))), ⟨fun _ _ hv => rfl, fun _ _ _ _ _ => trivial⟩, fun val h_ W hx he => ⟨trivial, ?_⟩, ?_⟩
          · replace hx := (Upd.drew _ _).trans hx
            replace hl := hl.ext hx
            replace hm := hm.ext hx
            have hE := Upd.refl (fun _ => False) W
            refine id (X_fldS (v := l) (o := (((i : Nat) : Int) : Int).toNat * 6) Fd44_0 rfl hl.sv (by omega) ?_)
            exact ⟨hE, rfl⟩
          refine ⟨.det (fun val => a.1), ⟨fun _ _ hv => rfl, fun _ _ _ _ _ => trivial⟩, fun val h_ W hx he => ⟨trivial, ?_⟩, ?_⟩
          · replace hx := (Upd.drew _ _).trans hx
            replace hl := hl.ext hx
            replace hm := hm.ext hx
            have hE := Upd.refl (fun _ => False) W
            refine id (X_load (v := a.1) T42 rfl (kkey hl (Int.toNat_natCast _) hai) ?_)
            exact ⟨hE, rfl⟩
          refine ⟨.det (fun val => (strV (a.2.1))), ⟨fun _ _ hv => rfl, fun _ _ _ _ _ => trivial⟩, fun val h_ W hx he => ⟨trivial, ?_⟩, ?_⟩
          · replace hx := (Upd.drew _ _).trans hx
            replace hl := hl.ext hx
            replace hm := hm.ext hx
            have hE := Upd.refl (fun _ => False) W
            refine id (X_str (v := a.1) (l := a.2.1) Tryd.underlying42 Tryd.underlying5 Tryd.underlying9 rfl (krd hl hai) ?_)
            exact ⟨hE, rfl⟩
          refine ⟨.det (fun val => m), ⟨fun _ _ hv => rfl, fun _ _ _ _ _ => trivial⟩, fun val h_ W hx he => ⟨trivial, ?_⟩, ?_⟩
          · replace hx := (Upd.drew _ _).trans hx
            replace hl := hl.ext hx
            replace hm := hm.ext hx
            have hE := Upd.refl (fun _ => False) W
            refine id (X_move (v := m) rfl ?_)
            exact ⟨hE, rfl⟩
          refine ⟨.det (fun val => (.int .i64 (((i : Nat) : Int)))), ⟨fun _ _ hv => rfl, fun _ _ _ _ _ => trivial⟩, fun val h_ W hx he => ⟨trivial, ?_⟩, ?_⟩
          · replace hx := (Upd.drew _ _).trans hx
            replace hl := hl.ext hx
            replace hm := hm.ext hx
            have hE := Upd.refl (fun _ => False) W
            refine id (X_move (v := (.int .i64 (((i : Nat) : Int)))) rfl ?_)
            exact ⟨hE, rfl⟩
          refine ⟨.det (fun val => (pof m ((((i : Nat) : Int) : Int).toNat * 6))), ⟨fun _ _ hv => rfl, fun _ _ _ _ _ => trivial⟩, fun val h_ W hx he => ⟨trivial, ?_⟩, ?_⟩
          · replace hx := (Upd.drew _ _).trans hx
            replace hl := hl.ext hx
            replace hm := hm.ext hx
            have hE := Upd.refl (fun _ => False) W
            refine id (X_idx (v := m) (n := fs.length) (k := .i64) (i := ((i : Nat) : Int)) S22 rfl hm.sv rfl (by omega) (by omega) ?_)
            exact ⟨hE, rfl⟩
          refine ⟨.det (fun val => (pof m ((((i : Nat) : Int) : Int).toNat * 6 + 0))), ⟨fun _ _ hv => rfl, fun _ _ _ _ _ => trivial⟩, fun val h_ W hx he => ⟨trivial, ?_⟩, ?_⟩
          · replace hx := (Upd.drew _ _).trans hx
            replace hl := hl.ext hx
            replace hm := hm.ext hx
            have hE := Upd.refl (fun _ => False) W
            refine id (X_fldS (v := m) (o := (((i : Nat) : Int) : Int).toNat * 6) Fd44_0 rfl hm.sv (by omega) ?_)
            exact ⟨hE, rfl⟩
          refine ⟨.det (fun val => b.1), ⟨fun _ _ hv => rfl, fun _ _ _ _ _ => trivial⟩, fun val h_ W hx he => ⟨trivial, ?_⟩, ?_⟩
          · replace hx := (Upd.drew _ _).trans hx
            replace hl := hl.ext hx
            replace hm := hm.ext hx
            have hE := Upd.refl (fun _ => False) W
            refine id (X_load (v := b.1) T42 rfl (kkey hm (Int.toNat_natCast _) hbi) ?_)
            exact ⟨hE, rfl⟩
          refine ⟨.det (fun val => (strV (b.2.1))), ⟨fun _ _ hv => rfl, fun _ _ _ _ _ => trivial⟩, fun val h_ W hx he => ⟨trivial, ?_⟩, ?_⟩
          · replace hx := (Upd.drew _ _).trans hx
            replace hl := hl.ext hx
            replace hm := hm.ext hx
            have hE := Upd.refl (fun _ => False) W
            refine id (X_str (v := b.1) (l := b.2.1) Tryd.underlying42 Tryd.underlying5 Tryd.underlying9 rfl (krd hm hbi) ?_)
            exact ⟨hE, rfl⟩
          refine ⟨.det (fun val => (.bool (true))), ⟨fun _ _ hv => rfl, fun _ _ _ _ _ => trivial⟩, fun val h_ W hx he => ⟨trivial, ?_⟩, ?_⟩
          · replace hx := (Upd.drew _ _).trans hx
            replace hl := hl.ext hx
            replace hm := hm.ext hx
            have hE := Upd.refl (fun _ => False) W
            refine id (X_scmp (a := a.2.1) (b := b.2.1) (r := true) rfl rfl rfl hs4 ?_)
            exact ⟨hE, rfl⟩
          refine ⟨.det (fun val => (.bool (true))), ⟨fun _ _ hv => rfl, fun _ _ _ _ _ => trivial⟩, fun val h_ W hx he => ⟨trivial, ?_⟩, ?_⟩
          · replace hx := (Upd.drew _ _).trans hx
            replace hl := hl.ext hx
            replace hm := hm.ext hx
            have hE := Upd.refl (fun _ => False) W
            refine id (X_move (v := (.bool (true))) rfl ?_)
            exact ⟨hE, rfl⟩
          refine ⟨.no, ⟨fun _ _ _ => trivial, fun _ _ _ _ _ => trivial⟩, fun val h_ W hx he => ⟨30, rfl, .inl rfl⟩, ?_⟩
          refine ⟨.no, ⟨fun _ _ _ => trivial, fun _ _ _ _ _ => trivial⟩, fun val h_ W hx he => ⟨30, rfl, .inl rfl⟩, ?_⟩
          refine ⟨.no, ⟨fun _ _ _ => trivial, fun _ _ _ _ _ => trivial⟩, fun val h_ W hx he => ⟨30, rfl, .inl rfl⟩, ?_⟩
          refine ⟨.no, ⟨fun _ _ _ => trivial, fun _ _ _ _ _ => trivial⟩, fun val h_ W hx he => ⟨30, rfl, .inl rfl⟩, ?_⟩
          refine ⟨.no, ⟨fun _ _ _ => trivial, fun _ _ _ _ _ => trivial⟩, fun val h_ W hx he => ⟨30, rfl, .inl rfl⟩, ?_⟩
          refine ⟨.no, ⟨fun _ _ _ => trivial, fun _ _ _ _ _ => trivial⟩, fun val h_ W hx he => ⟨30, rfl, .inl rfl⟩, ?_⟩
          refine ⟨.no, ⟨fun _ _ _ => trivial, fun _ _ _ _ _ => trivial⟩, fun val h_ W hx he => ⟨30, rfl, .inl rfl⟩, ?_⟩
          refine ⟨.no, ⟨fun _ _ _ => trivial, fun _ _ _ _ _ => trivial⟩, fun val h_ W hx he => ⟨30, rfl, .inl rfl⟩, ?_⟩
          refine ⟨.no, ⟨fun _ _ _ => trivial, fun _ _ _ _ _ => trivial⟩, fun val h_ W hx he => ⟨30, rfl, .inl rfl⟩, ?_⟩
          refine ⟨.no, ⟨fun _ _ _ => trivial, fun _ _ _ _ _ => trivial⟩, fun val h_ W hx he => ⟨30, rfl, .inl rfl⟩, ?_⟩
          intro val W6 hx6 he6
          replace hx6 := (Upd.drew _ _).trans hx6
          have hz6 := hx6.size
          replace hl := hl.ext hx6
          replace hm := hm.ext hx6
          replace hE := hE.trans (Ext.upd hx6)
          refine L_gn (dj := 30) (t := true) rfl rfl rfl rfl ?_
          refine L_op rfl (X_pick (t := true) (v := (.bool (true))) rfl rfl ?_)
          refine L_nil ?_
          refine T_n ?_
          refine W_ct rfl ?_
          refine W_seq ?_
          refine W_reg ?_
          refine L_op rfl (X_assign (v := (.bool (false))) rfl ?_)
          refine L_nil ?_
          refine T_n ?_
          refine W_ret ?_
          refine B_r ?_
          refine T_r ?_
          refine T_r ?_
          refine B_r ?_
          refine T_r ?_
          exact BQ_r (End_1 Tryd.results30 (v := .bool false) rfl ⟨⟨false, rfl, ⟨fun h => (by cases h), fun h => (by have h1 := same_no hai hbi h; rw [Prod.ext_iff] at h1; simp_all [scmp])⟩⟩, Ext.upd hE⟩)
        · refine W_draw 24 [[], [], [0, 1], [0, 1, 2], [0, 1, 2, 3], [0, 1, 2, 3, 4], [], [], [6, 7], [6, 7, 8], [6, 7, 8, 9], [6, 7, 8, 9, 10], [0, 1, 2, 3, 4, 5, 6, 7, 8, 9, 10, 11], [0, 1, 2, 3, 4, 5, 6, 7, 8, 9, 10, 11, 12], [0, 1, 2, 3, 4, 5, 6, 7, 8, 9, 10, 11, 12, 13], [0, 1, 2, 3, 4, 5, 6, 7, 8, 9, 10, 11, 12, 13], [0, 1, 2, 3, 4, 5, 6, 7, 8, 9, 10, 11, 12, 13, 14, 15], [0, 1, 2, 3, 4, 5, 6, 7, 8, 9, 10, 11, 12, 13, 14, 15, 16], [0, 1, 2, 3, 4, 5, 6, 7, 8, 9, 10, 11, 12, 13, 14, 15, 16, 17], [0, 1, 2, 3, 4, 5, 6, 7, 8, 9, 10, 11, 12, 13], [0, 1, 2, 3, 4, 5, 6, 7, 8, 9, 10, 11, 12, 13], [0, 1, 2, 3, 4, 5, 6, 7, 8, 9, 10, 11, 12, 13, 19, 20], [0, 1, 2, 3, 4, 5, 6, 7, 8, 9, 10, 11, 12, 13, 19, 20, 21], [0, 1, 2, 3, 4, 5, 6, 7, 8, 9, 10, 11, 12, 13, 19, 20, 21, 22], [0, 1, 2, 3, 4, 5, 6, 7, 8, 9, 10, 11, 12, 13, 14, 15, 16, 17, 18, 19, 20, 21, 22, 23], [0, 1, 2, 3, 4, 5, 6, 7, 8, 9, 10, 11, 12, 13, 14, 15, 16, 17, 18, 19, 20, 21, 22, 23, 24]] mixed (by kernel_rfl) ?_
          refine ⟨.det (fun val => l), ⟨fun _ _ hv => rfl, fun _ _ _ _ _ => trivial⟩, fun val h_ W hx he => ⟨trivial, ?_⟩, ?_⟩
          · replace hx := (Upd.drew _ _).trans hx
            replace hl := hl.ext hx
            replace hm := hm.ext hx
            have hE := Upd.refl (fun _ => False) W
            refine id (X_move (v := l) rfl ?_)
            exact ⟨hE, rfl⟩
          refine ⟨.det (fun val => (.int .i64 (((i : Nat) : Int)))), ⟨fun _ _ hv => rfl, fun _ _ _ _ _ => trivial⟩, fun val h_ W hx he => ⟨trivial, ?_⟩, ?_⟩
          · replace hx := (Upd.drew _ _).trans hx
            replace hl := hl.ext hx
            replace hm := hm.ext hx
            have hE := Upd.refl (fun _ => False) W
            refine id (X_move (v := (.int .i64 (((i : Nat) : Int)))) rfl ?_)
            exact ⟨hE, rfl⟩
          refine ⟨.det (fun val => (pof l ((((i : Nat) : Int) : Int).toNat * 6))), ⟨fun _ _ hv => rfl, fun _ _ _ _ _ => trivial⟩, fun val h_ W hx he => ⟨trivial, ?_⟩, ?_⟩
          · replace hx := (Upd.drew _ _).trans hx
            replace hl := hl.ext hx
            replace hm := hm.ext hx
            have hE := Upd.refl (fun _ => False) W
            refine id (X_idx (v := l) (n := es.length) (k := .i64) (i := ((i : Nat) : Int)) S22 rfl hl.sv rfl (by omega) (by omega) ?_)
            exact ⟨hE, rfl⟩
          refine ⟨.det (fun val => (pof l ((((i : Nat) : Int) : Int).toNat * 6 + 0))), ⟨fun _ _ hv => rfl, fun _ _ _ _ _ => trivial⟩, fun val h_ W hx he => ⟨trivial, ?_⟩, ?_⟩
          · replace hx := (Upd.drew _ _).trans hx
            replace hl := hl.ext hx
            replace hm := hm.ext hx
            have hE := Upd.refl (fun _ => False) W
            refine id (X_fldS (v := l) (o := (((i : Nat) : Int) : Int).toNat * 6) Fd44_0 rfl hl.sv (by omega) ?_)
            exact ⟨hE, rfl⟩
          refine ⟨.det (fun val => a.1), ⟨fun _ _ hv => rfl, fun _ _ _ _ _ => trivial⟩, fun val h_ W hx he => ⟨trivial, ?_⟩, ?_⟩
          · replace hx := (Upd.drew _ _).trans hx
            replace hl := hl.ext hx
            replace hm := hm.ext hx
            have hE := Upd.refl (fun _ => False) W
            refine id (X_load (v := a.1) T42 rfl (kkey hl (Int.toNat_natCast _) hai) ?_)
            exact ⟨hE, rfl⟩
          refine ⟨.det (fun val => (strV (a.2.1))), ⟨fun _ _ hv => rfl, fun _ _ _ _ _ => trivial⟩, fun val h_ W hx he => ⟨trivial, ?_⟩, ?_⟩
          · replace hx := (Upd.drew _ _).trans hx
            replace hl := hl.ext hx
            replace hm := hm.ext hx
            have hE := Upd.refl (fun _ => False) W
            refine id (X_str (v := a.1) (l := a.2.1) Tryd.underlying42 Tryd.underlying5 Tryd.underlying9 rfl (krd hl hai) ?_)
            exact ⟨hE, rfl⟩
          refine ⟨.det (fun val => m), ⟨fun _ _ hv => rfl, fun _ _ _ _ _ => trivial⟩, fun val h_ W hx he => ⟨trivial, ?_⟩, ?_⟩
          · replace hx := (Upd.drew _ _).trans hx
            replace hl := hl.ext hx
            replace hm := hm.ext hx
            have hE := Upd.refl (fun _ => False) W
            refine id (X_move (v := m) rfl ?_)
            exact ⟨hE, rfl⟩
          refine ⟨.det (fun val => (.int .i64 (((i : Nat) : Int)))), ⟨fun _ _ hv => rfl, fun _ _ _ _ _ => trivial⟩, fun val h_ W hx he => ⟨trivial, ?_⟩, ?_⟩
          · replace hx := (Upd.drew _ _).trans hx
            replace hl := hl.ext hx
            replace hm := hm.ext hx
            have hE := Upd.refl (fun _ => False) W
            refine id (X_move (v := (.int .i64 (((i : Nat) : Int)))) rfl ?_)
            exact ⟨hE, rfl⟩
          refine ⟨.det (fun val => (pof m ((((i : Nat) : Int) : Int).toNat * 6))), ⟨fun _ _ hv => rfl, fun _ _ _ _ _ => trivial⟩, fun val h_ W hx he => ⟨trivial, ?_⟩, ?_⟩
          · replace hx := (Upd.drew _ _).trans hx
            replace hl := hl.ext hx
            replace hm := hm.ext hx
            have hE := Upd.refl (fun _ => False) W
            refine id (X_idx (v := m) (n := fs.length) (k := .i64) (i := ((i : Nat) : Int)) S22 rfl hm.sv rfl (by omega) (by omega) ?_)
            exact ⟨hE, rfl⟩
          refine ⟨.det (fun val => (pof m ((((i : Nat) : Int) : Int).toNat * 6 + 0))), ⟨fun _ _ hv => rfl, fun _ _ _ _ _ => trivial⟩, fun val h_ W hx he => ⟨trivial, ?_⟩, ?_⟩
          · replace hx := (Upd.drew _ _).trans hx
            replace hl := hl.ext hx
            replace hm := hm.ext hx
            have hE := Upd.refl (fun _ => False) W
            refine id (X_fldS (v := m) (o := (((i : Nat) : Int) : Int).toNat * 6) Fd44_0 rfl hm.sv (by omega) ?_)
            exact ⟨hE, rfl⟩
          refine ⟨.det (fun val => b.1), ⟨fun _ _ hv => rfl, fun _ _ _ _ _ => trivial⟩, fun val h_ W hx he => ⟨trivial, ?_⟩, ?_⟩
          · replace hx := (Upd.drew _ _).trans hx
            replace hl := hl.ext hx
            replace hm := hm.ext hx
            have hE := Upd.refl (fun _ => False) W
            refine id (X_load (v := b.1) T42 rfl (kkey hm (Int.toNat_natCast _) hbi) ?_)
            exact ⟨hE, rfl⟩
          refine ⟨.det (fun val => (strV (b.2.1))), ⟨fun _ _ hv => rfl, fun _ _ _ _ _ => trivial⟩, fun val h_ W hx he => ⟨trivial, ?_⟩, ?_⟩
          · replace hx := (Upd.drew _ _).trans hx
            replace hl := hl.ext hx
            replace hm := hm.ext hx
            have hE := Upd.refl (fun _ => False) W
            refine id (X_str (v := b.1) (l := b.2.1) Tryd.underlying42 Tryd.underlying5 Tryd.underlying9 rfl (krd hm hbi) ?_)
            exact ⟨hE, rfl⟩
          refine ⟨.det (fun val => (.bool (true))), ⟨fun _ _ hv => rfl, fun _ _ _ _ _ => trivial⟩, fun val h_ W hx he => ⟨trivial, ?_⟩, ?_⟩
          · replace hx := (Upd.drew _ _).trans hx
            replace hl := hl.ext hx
            replace hm := hm.ext hx
            have hE := Upd.refl (fun _ => False) W
            refine id (X_scmp (a := a.2.1) (b := b.2.1) (r := true) rfl rfl rfl hs4 ?_)
            exact ⟨hE, rfl⟩
          refine ⟨.det (fun val => (.bool (true))), ⟨fun _ _ hv => rfl, fun _ _ _ _ _ => trivial⟩, fun val h_ W hx he => ⟨trivial, ?_⟩, ?_⟩
          · replace hx := (Upd.drew _ _).trans hx
            replace hl := hl.ext hx
            replace hm := hm.ext hx
            have hE := Upd.refl (fun _ => False) W
            refine id (X_move (v := (.bool (true))) rfl ?_)
            exact ⟨hE, rfl⟩
          refine ⟨.no, ⟨fun _ _ _ => trivial, fun _ _ _ _ _ => trivial⟩, fun val h_ W hx he => ⟨30, rfl, .inl rfl⟩, ?_⟩
          refine ⟨.no, ⟨fun _ _ _ => trivial, fun _ _ _ _ _ => trivial⟩, fun val h_ W hx he => ⟨30, rfl, .inl rfl⟩, ?_⟩
          refine ⟨.no, ⟨fun _ _ _ => trivial, fun _ _ _ _ _ => trivial⟩, fun val h_ W hx he => ⟨30, rfl, .inl rfl⟩, ?_⟩
          refine ⟨.no, ⟨fun _ _ _ => trivial, fun _ _ _ _ _ => trivial⟩, fun val h_ W hx he => ⟨30, rfl, .inl rfl⟩, ?_⟩
          refine ⟨.no, ⟨fun _ _ _ => trivial, fun _ _ _ _ _ => trivial⟩, fun val h_ W hx he => ⟨30, rfl, .inl rfl⟩, ?_⟩
          refine ⟨.no, ⟨fun _ _ _ => trivial, fun _ _ _ _ _ => trivial⟩, fun val h_ W hx he => ⟨30, rfl, .inl rfl⟩, ?_⟩
          refine ⟨.no, ⟨fun _ _ _ => trivial, fun _ _ _ _ _ => trivial⟩, fun val h_ W hx he => ⟨30, rfl, .inl rfl⟩, ?_⟩
          refine ⟨.no, ⟨fun _ _ _ => trivial, fun _ _ _ _ _ => trivial⟩, fun val h_ W hx he => ⟨30, rfl, .inl rfl⟩, ?_⟩
          refine ⟨.no, ⟨fun _ _ _ => trivial, fun _ _ _ _ _ => trivial⟩, fun val h_ W hx he => ⟨30, rfl, .inl rfl⟩, ?_⟩
          refine ⟨.no, ⟨fun _ _ _ => trivial, fun _ _ _ _ _ => trivial⟩, fun val h_ W hx he => ⟨30, rfl, .inl rfl⟩, ?_⟩
          intro val W9 hx9 he9
          replace hx9 := (Upd.drew _ _).trans hx9
          have hz9 := hx9.size
          replace hl := hl.ext hx9
          replace hm := hm.ext hx9
          replace hE := hE.trans (Ext.upd hx9)
          refine L_gn (dj := 30) (t := true) rfl rfl rfl rfl ?_
          refine L_op rfl (X_pick (t := true) (v := (.bool (true))) rfl rfl ?_)
          refine L_nil ?_
          refine T_n ?_
          refine W_ct rfl ?_
          refine W_seq ?_
          refine W_reg ?_
          refine L_op rfl (X_assign (v := (.bool (false))) rfl ?_)
          refine L_nil ?_
          refine T_n ?_
          refine W_ret ?_
          refine B_r ?_
          refine T_r ?_
          refine T_r ?_
          refine B_r ?_
          refine T_r ?_
          exact BQ_r (End_1 Tryd.results30 (v := .bool false) rfl ⟨⟨false, rfl, ⟨fun h => (by cases h), fun h => (by have h1 := same_no hai hbi h; rw [Prod.ext_iff] at h1; simp_all [scmp])⟩⟩, Ext.upd hE⟩)
      · rcases Bool.eq_false_or_eq_true (a.2.2 == b.2.2) with hs12 | hs12
        · refine W_draw 24 [[], [], [0, 1], [0, 1, 2], [0, 1, 2, 3], [0, 1, 2, 3, 4], [], [], [6, 7], [6, 7, 8], [6, 7, 8, 9], [6, 7, 8, 9, 10], [0, 1, 2, 3, 4, 5, 6, 7, 8, 9, 10, 11], [0, 1, 2, 3, 4, 5, 6, 7, 8, 9, 10, 11, 12], [0, 1, 2, 3, 4, 5, 6, 7, 8, 9, 10, 11, 12, 13], [0, 1, 2, 3, 4, 5, 6, 7, 8, 9, 10, 11, 12, 13], [0, 1, 2, 3, 4, 5, 6, 7, 8, 9, 10, 11, 12, 13, 14, 15], [0, 1, 2, 3, 4, 5, 6, 7, 8, 9, 10, 11, 12, 13, 14, 15, 16], [0, 1, 2, 3, 4, 5, 6, 7, 8, 9, 10, 11, 12, 13, 14, 15, 16, 17], [0, 1, 2, 3, 4, 5, 6, 7, 8, 9, 10, 11, 12, 13], [0, 1, 2, 3, 4, 5, 6, 7, 8, 9, 10, 11, 12, 13], [0, 1, 2, 3, 4, 5, 6, 7, 8, 9, 10, 11, 12, 13, 19, 20], [0, 1, 2, 3, 4, 5, 6, 7, 8, 9, 10, 11, 12, 13, 19, 20, 21], [0, 1, 2, 3, 4, 5, 6, 7, 8, 9, 10, 11, 12, 13, 19, 20, 21, 22], [0, 1, 2, 3, 4, 5, 6, 7, 8, 9, 10, 11, 12, 13, 14, 15, 16, 17, 18, 19, 20, 21, 22, 23], [0, 1, 2, 3, 4, 5, 6, 7, 8, 9, 10, 11, 12, 13, 14, 15, 16, 17, 18, 19, 20, 21, 22, 23, 24]] mixed (by kernel_rfl) ?_
          refine ⟨.det (fun val => l), ⟨fun _ _ hv => rfl, fun _ _ _ _ _ => trivial⟩, fun val h_ W hx he => ⟨trivial, ?_⟩, ?_⟩
          · replace hx := (Upd.drew _ _).trans hx
            replace hl := hl.ext hx
            replace hm := hm.ext hx
            have hE := Upd.refl (fun _ => False) W
            refine id (X_move (v := l) rfl ?_)
            exact ⟨hE, rfl⟩
          refine ⟨.det (fun val => (.int .i64 (((i : Nat) : Int)))), ⟨fun _ _ hv => rfl, fun _ _ _ _ _ => trivial⟩, fun val h_ W hx he => ⟨trivial, ?_⟩, ?_⟩
          · replace hx := (Upd.drew _ _).trans hx
            replace hl := hl.ext hx
            replace hm := hm.ext hx
            have hE := Upd.refl (fun _ => False) W
            refine id (X_move (v := (.int .i64 (((i : Nat) : Int)))) rfl ?_)
            exact ⟨hE, rfl⟩
          refine ⟨.det (fun val => (pof l ((((i : Nat) : Int) : Int).toNat * 6))), ⟨fun _ _ hv => rfl, fun _ _ _ _ _ => trivial⟩, fun val h_ W hx he => ⟨trivial, ?_⟩, ?_⟩
          · replace hx := (Upd.drew _ _).trans hx
            replace hl := hl.ext hx
            replace hm := hm.ext hx
            have hE := Upd.refl (fun _ => False) W
            refine id (X_idx (v := l) (n := es.length) (k := .i64) (i := ((i : Nat) : Int)) S22 rfl hl.sv rfl (by omega) (by omega) ?_)
            exact ⟨hE, rfl⟩
          refine ⟨.det (fun val => (pof l ((((i : Nat) : Int) : Int).toNat * 6 + 0))), ⟨fun _ _ hv => rfl, fun _ _ _ _ _ => trivial⟩, fun val h_ W hx he => ⟨trivial, ?_⟩, ?_⟩
          · replace hx := (Upd.drew _ _).trans hx
            replace hl := hl.ext hx
            replace hm := hm.ext hx
            have hE := Upd.refl (fun _ => False) W
            refine id (X_fldS (v := l) (o := (((i : Nat) : Int) : Int).toNat * 6) Fd44_0 rfl hl.sv (by omega) ?_)
            exact ⟨hE, rfl⟩
          refine ⟨.det (fun val => a.1), ⟨fun _ _ hv => rfl, fun _ _ _ _ _ => trivial⟩, fun val h_ W hx he => ⟨trivial, ?_⟩, ?_⟩
          · replace hx := (Upd.drew _ _).trans hx
            replace hl := hl.ext hx
            replace hm := hm.ext hx
            have hE := Upd.refl (fun _ => False) W
            refine id (X_load (v := a.1) T42 rfl (kkey hl (Int.toNat_natCast _) hai) ?_)
            exact ⟨hE, rfl⟩
          refine ⟨.det (fun val => (strV (a.2.1))), ⟨fun _ _ hv => rfl, fun _ _ _ _ _ => trivial⟩, fun val h_ W hx he => ⟨trivial, ?_⟩, ?_⟩
          · replace hx := (Upd.drew _ _).trans hx
            replace hl := hl.ext hx
            replace hm := hm.ext hx
            have hE := Upd.refl (fun _ => False) W
            refine id (X_str (v := a.1) (l := a.2.1) Tryd.underlying42 Tryd.underlying5 Tryd.underlying9 rfl (krd hl hai) ?_)
            exact ⟨hE, rfl⟩
          refine ⟨.det (fun val => m), ⟨fun _ _ hv => rfl, fun _ _ _ _ _ => trivial⟩, fun val h_ W hx he => ⟨trivial, ?_⟩, ?_⟩
          · replace hx := (Upd.drew _ _).trans hx
            replace hl := hl.ext hx
            replace hm := hm.ext hx
            have hE := Upd.refl (fun _ => False) W
            refine id (X_move (v := m) rfl ?_)
            exact ⟨hE, rfl⟩
          refine ⟨.det (fun val => (.int .i64 (((i : Nat) : Int)))), ⟨fun _ _ hv => rfl, fun _ _ _ _ _ => trivial⟩, fun val h_ W hx he => ⟨trivial, ?_⟩, ?_⟩
          · replace hx := (Upd.drew _ _).trans hx
            replace hl := hl.ext hx
            replace hm := hm.ext hx
            have hE := Upd.refl (fun _ => False) W
            refine id (X_move (v := (.int .i64 (((i : Nat) : Int)))) rfl ?_)
            exact ⟨hE, rfl⟩
          refine ⟨.det (fun val => (pof m ((((i : Nat) : Int) : Int).toNat * 6))), ⟨fun _ _ hv => rfl, fun _ _ _ _ _ => trivial⟩, fun val h_ W hx he => ⟨trivial, ?_⟩, ?_⟩
          · replace hx := (Upd.drew _ _).trans hx
            replace hl := hl.ext hx
            replace hm := hm.ext hx
            have hE := Upd.refl (fun _ => False) W
            refine id (X_idx (v := m) (n := fs.length) (k := .i64) (i := ((i : Nat) : Int)) S22 rfl hm.sv rfl (by omega) (by omega) ?_)
            exact ⟨hE, rfl⟩
          refine ⟨.det (fun val => (pof m ((((i : Nat) : Int) : Int).toNat * 6 + 0))), ⟨fun _ _ hv => rfl, fun _ _ _ _ _ => trivial⟩, fun val h_ W hx he => ⟨trivial, ?_⟩, ?_⟩
          · replace hx := (Upd.drew _ _).trans hx
            replace hl := hl.ext hx
            replace hm := hm.ext hx
            have hE := Upd.refl (fun _ => False) W
            refine id (X_fldS (v := m) (o := (((i : Nat) : Int) : Int).toNat * 6) Fd44_0 rfl hm.sv (by omega) ?_)
            exact ⟨hE, rfl⟩
          refine ⟨.det (fun val => b.1), ⟨fun _ _ hv => rfl, fun _ _ _ _ _ => trivial⟩, fun val h_ W hx he => ⟨trivial, ?_⟩, ?_⟩
          · replace hx := (Upd.drew _ _).trans hx
            replace hl := hl.ext hx
            replace hm := hm.ext hx
            have hE := Upd.refl (fun _ => False) W
            refine id (X_load (v := b.1) T42 rfl (kkey hm (Int.toNat_natCast _) hbi) ?_)
            exact ⟨hE, rfl⟩
          refine ⟨.det (fun val => (strV (b.2.1))), ⟨fun _ _ hv => rfl, fun _ _ _ _ _ => trivial⟩, fun val h_ W hx he => ⟨trivial, ?_⟩, ?_⟩
          · replace hx := (Upd.drew _ _).trans hx
            replace hl := hl.ext hx
            replace hm := hm.ext hx
            have hE := Upd.refl (fun _ => False) W
            refine id (X_str (v := b.1) (l := b.2.1) Tryd.underlying42 Tryd.underlying5 Tryd.underlying9 rfl (krd hm hbi) ?_)
            exact ⟨hE, rfl⟩
          refine ⟨.det (fun val => (.bool (false))), ⟨fun _ _ hv => rfl, fun _ _ _ _ _ => trivial⟩, fun val h_ W hx he => ⟨trivial, ?_⟩, ?_⟩
          · replace hx := (Upd.drew _ _).trans hx
            replace hl := hl.ext hx
            replace hm := hm.ext hx
            have hE := Upd.refl (fun _ => False) W
            refine id (X_scmp (a := a.2.1) (b := b.2.1) (r := false) rfl rfl rfl hs4 ?_)
            exact ⟨hE, rfl⟩
          refine ⟨.det (fun val => (.bool (false))), ⟨fun _ _ hv => rfl, fun _ _ _ _ _ => trivial⟩, fun val h_ W hx he => ⟨trivial, ?_⟩, ?_⟩
          · replace hx := (Upd.drew _ _).trans hx
            replace hl := hl.ext hx
            replace hm := hm.ext hx
            have hE := Upd.refl (fun _ => False) W
            refine id (X_move (v := (.bool (false))) rfl ?_)
            exact ⟨hE, rfl⟩
          refine ⟨.det (fun val => l), ⟨fun _ _ hv => rfl, fun _ _ _ _ _ => trivial⟩, fun val h_ W hx he => ⟨⟨30, rfl, rfl⟩, ?_⟩, ?_⟩
          · replace hx := (Upd.drew _ _).trans hx
            replace hl := hl.ext hx
            replace hm := hm.ext hx
            have hE := Upd.refl (fun _ => False) W
            refine id (X_move (v := l) rfl ?_)
            exact ⟨hE, rfl⟩
          refine ⟨.det (fun val => (.int .i64 (((i : Nat) : Int)))), ⟨fun _ _ hv => rfl, fun _ _ _ _ _ => trivial⟩, fun val h_ W hx he => ⟨⟨30, rfl, rfl⟩, ?_⟩, ?_⟩
          · replace hx := (Upd.drew _ _).trans hx
            replace hl := hl.ext hx
            replace hm := hm.ext hx
            have hE := Upd.refl (fun _ => False) W
            refine id (X_move (v := (.int .i64 (((i : Nat) : Int)))) rfl ?_)
            exact ⟨hE, rfl⟩
          refine ⟨.det (fun val => (pof l ((((i : Nat) : Int) : Int).toNat * 6))), ⟨fun _ _ hv => rfl, fun _ _ _ _ _ => trivial⟩, fun val h_ W hx he => ⟨⟨30, rfl, rfl⟩, ?_⟩, ?_⟩
          · replace hx := (Upd.drew _ _).trans hx
            replace hl := hl.ext hx
            replace hm := hm.ext hx
            have hE := Upd.refl (fun _ => False) W
            refine id (X_idx (v := l) (n := es.length) (k := .i64) (i := ((i : Nat) : Int)) S22 rfl hl.sv rfl (by omega) (by omega) ?_)
            exact ⟨hE, rfl⟩
          refine ⟨.det (fun val => (pof l ((((i : Nat) : Int) : Int).toNat * 6 + 1))), ⟨fun _ _ hv => rfl, fun _ _ _ _ _ => trivial⟩, fun val h_ W hx he => ⟨⟨30, rfl, rfl⟩, ?_⟩, ?_⟩
          · replace hx := (Upd.drew _ _).trans hx
            replace hl := hl.ext hx
            replace hm := hm.ext hx
            have hE := Upd.refl (fun _ => False) W
            refine id (X_fldS (v := l) (o := (((i : Nat) : Int) : Int).toNat * 6) Fd44_1 rfl hl.sv (by omega) ?_)
            exact ⟨hE, rfl⟩
          refine ⟨.det (fun val => (.agg (ptC a.2.2).toArray)), ⟨fun _ _ hv => rfl, fun _ _ _ _ _ => trivial⟩, fun val h_ W hx he => ⟨⟨30, rfl, rfl⟩, ?_⟩, ?_⟩
          · replace hx := (Upd.drew _ _).trans hx
            replace hl := hl.ext hx
            replace hm := hm.ext hx
            have hE := Upd.refl (fun _ => False) W
            refine id (X_loadA (xs := ptC a.2.2) A41 rfl (kptr hl (Int.toNat_natCast _) hai) rfl ?_)
            exact ⟨hE, rfl⟩
          refine ⟨.det (fun val => m), ⟨fun _ _ hv => rfl, fun _ _ _ _ _ => trivial⟩, fun val h_ W hx he => ⟨⟨30, rfl, rfl⟩, ?_⟩, ?_⟩
          · replace hx := (Upd.drew _ _).trans hx
            replace hl := hl.ext hx
            replace hm := hm.ext hx
            have hE := Upd.refl (fun _ => False) W
            refine id (X_move (v := m) rfl ?_)
            exact ⟨hE, rfl⟩
          refine ⟨.det (fun val => (.int .i64 (((i : Nat) : Int)))), ⟨fun _ _ hv => rfl, fun _ _ _ _ _ => trivial⟩, fun val h_ W hx he => ⟨⟨30, rfl, rfl⟩, ?_⟩, ?_⟩
          · replace hx := (Upd.drew _ _).trans hx
            replace hl := hl.ext hx
            replace hm := hm.ext hx
            have hE := Upd.refl (fun _ => False) W
            refine id (X_move (v := (.int .i64 (((i : Nat) : Int)))) rfl ?_)
            exact ⟨hE, rfl⟩
          refine ⟨.det (fun val => (pof m ((((i : Nat) : Int) : Int).toNat * 6))), ⟨fun _ _ hv => rfl, fun _ _ _ _ _ => trivial⟩, fun val h_ W hx he => ⟨⟨30, rfl, rfl⟩, ?_⟩, ?_⟩
          · replace hx := (Upd.drew _ _).trans hx
            replace hl := hl.ext hx
            replace hm := hm.ext hx
            have hE := Upd.refl (fun _ => False) W
            refine id (X_idx (v := m) (n := fs.length) (k := .i64) (i := ((i : Nat) : Int)) S22 rfl hm.sv rfl (by omega) (by omega) ?_)
            exact ⟨hE, rfl⟩
          refine ⟨.det (fun val => (pof m ((((i : Nat) : Int) : Int).toNat * 6 + 1))), ⟨fun _ _ hv => rfl, fun _ _ _ _ _ => trivial⟩, fun val h_ W hx he => ⟨⟨30, rfl, rfl⟩, ?_⟩, ?_⟩
          · replace hx := (Upd.drew _ _).trans hx
            replace hl := hl.ext hx
            replace hm := hm.ext hx
            have hE := Upd.refl (fun _ => False) W
            refine id (X_fldS (v := m) (o := (((i : Nat) : Int) : Int).toNat * 6) Fd44_1 rfl hm.sv (by omega) ?_)
            exact ⟨hE, rfl⟩
          refine ⟨.det (fun val => (.agg (ptC b.2.2).toArray)), ⟨fun _ _ hv => rfl, fun _ _ _ _ _ => trivial⟩, fun val h_ W hx he => ⟨⟨30, rfl, rfl⟩, ?_⟩, ?_⟩
          · replace hx := (Upd.drew _ _).trans hx
            replace hl := hl.ext hx
            replace hm := hm.ext hx
            have hE := Upd.refl (fun _ => False) W
            refine id (X_loadA (xs := ptC b.2.2) A41 rfl (kptr hm (Int.toNat_natCast _) hbi) rfl ?_)
            exact ⟨hE, rfl⟩
          intro val W13 hx13 he13
          replace hx13 := (Upd.drew _ _).trans hx13
          have hz13 := hx13.size
          replace hl := hl.ext hx13
          replace hm := hm.ext hx13
          replace hE := hE.trans (Ext.upd hx13)
          refine L_gy (dj := 30) rfl rfl rfl (X_eqP (p := a.2.2) (q := b.2.2) (r := false) Tryd.underlying41 u28 (by kernel_rfl) (by decide) ⟨rfl, rfl, rfl, rfl⟩ Tryd.underlying5 Tryd.underlying38 (by kernel_rfl) Tryd.underlying37 (ie := _) rfl (by kernel_rfl) Tryd.underlying35 Tryd.underlying39 (by kernel_rfl) rfl rfl (.inr ⟨rfl, by rw [hs12]; rfl⟩) ?_)
          refine L_op rfl (X_pick (t := false) (v := (.bool (false))) rfl rfl ?_)
          refine L_nil ?_
          refine T_n ?_
          refine W_cf rfl ?_
          refine W_skip ?_
          refine B_n ?_
          refine T_n ?_
          refine W_reg ?_
          refine L_op rfl (X_move (v := (.int .i64 (((i : Nat) : Int)))) rfl ?_)
          refine L_op rfl (X_arith (k := .i64) (a := ((i : Nat) : Int)) (b := 1) (r := ((i + 1 : Nat) : Int)) rfl rfl rfl (iadd64 (by omega) (by omega) (by omega)) ?_)
          refine L_op rfl (X_assign (v := (.int .i64 (((i + 1 : Nat) : Int)))) rfl ?_)
          refine L_nil ?_
          refine T_n ?_
          exact ⟨rfl, i + 1, ⟨⟨hi, hl, hm, hE, same_step hai hbi hz (same_kid (by simpa [scmp] using hs4) (by simpa using hs12))⟩, (by show es.length - (i + 1) < es.length - i; omega)⟩, (Out.mk rfl), ⟨rfl, trivial⟩⟩
        · refine W_draw 24 [[], [], [0, 1], [0, 1, 2], [0, 1, 2, 3], [0, 1, 2, 3, 4], [], [], [6, 7], [6, 7, 8], [6, 7, 8, 9], [6, 7, 8, 9, 10], [0, 1, 2, 3, 4, 5, 6, 7, 8, 9, 10, 11], [0, 1, 2, 3, 4, 5, 6, 7, 8, 9, 10, 11, 12], [0, 1, 2, 3, 4, 5, 6, 7, 8, 9, 10, 11, 12, 13], [0, 1, 2, 3, 4, 5, 6, 7, 8, 9, 10, 11, 12, 13], [0, 1, 2, 3, 4, 5, 6, 7, 8, 9, 10, 11, 12, 13, 14, 15], [0, 1, 2, 3, 4, 5, 6, 7, 8, 9, 10, 11, 12, 13, 14, 15, 16], [0, 1, 2, 3, 4, 5, 6, 7, 8, 9, 10, 11, 12, 13, 14, 15, 16, 17], [0, 1, 2, 3, 4, 5, 6, 7, 8, 9, 10, 11, 12, 13], [0, 1, 2, 3, 4, 5, 6, 7, 8, 9, 10, 11, 12, 13], [0, 1, 2, 3, 4, 5, 6, 7, 8, 9, 10, 11, 12, 13, 19, 20], [0, 1, 2, 3, 4, 5, 6, 7, 8, 9, 10, 11, 12, 13, 19, 20, 21], [0, 1, 2, 3, 4, 5, 6, 7, 8, 9, 10, 11, 12, 13, 19, 20, 21, 22], [0, 1, 2, 3, 4, 5, 6, 7, 8, 9, 10, 11, 12, 13, 14, 15, 16, 17, 18, 19, 20, 21, 22, 23], [0, 1, 2, 3, 4, 5, 6, 7, 8, 9, 10, 11, 12, 13, 14, 15, 16, 17, 18, 19, 20, 21, 22, 23, 24]] mixed (by kernel_rfl) ?_
          refine ⟨.det (fun val => l), ⟨fun _ _ hv => rfl, fun _ _ _ _ _ => trivial⟩, fun val h_ W hx he => ⟨trivial, ?_⟩, ?_⟩
          · replace hx := (Upd.drew _ _).trans hx
            replace hl := hl.ext hx
            replace hm := hm.ext hx
            have hE := Upd.refl (fun _ => False) W
            refine id (X_move (v := l) rfl ?_)
            exact ⟨hE, rfl⟩
          refine ⟨.det (fun val => (.int .i64 (((i : Nat) : Int)))), ⟨fun _ _ hv => rfl, fun _ _ _ _ _ => trivial⟩, fun val h_ W hx he => ⟨trivial, ?_⟩, ?_⟩
          · replace hx := (Upd.drew _ _).trans hx
            replace hl := hl.ext hx
            replace hm := hm.ext hx
            have hE := Upd.refl (fun _ => False) W
            refine id (X_move (v := (.int .i64 (((i : Nat) : Int)))) rfl ?_)
            exact ⟨hE, rfl⟩
          refine ⟨.det (fun val => (pof l ((((i : Nat) : Int) : Int).toNat * 6))), ⟨fun _ _ hv => rfl, fun _ _ _ _ _ => trivial⟩, fun val h_ W hx he => ⟨trivial, ?_⟩, ?_⟩
          · replace hx := (Upd.drew _ _).trans hx
            replace hl := hl.ext hx
            replace hm := hm.ext hx
            have hE := Upd.refl (fun _ => False) W
            refine id (X_idx (v := l) (n := es.length) (k := .i64) (i := ((i : Nat) : Int)) S22 rfl hl.sv rfl (by omega) (by omega) ?_)
            exact ⟨hE, rfl⟩
          refine ⟨.det (fun val => (pof l ((((i : Nat) : Int) : Int).toNat * 6 + 0))), ⟨fun _ _ hv => rfl, fun _ _ _ _ _ => trivial⟩, fun val h_ W hx he => ⟨trivial, ?_⟩, ?_⟩
          · replace hx := (Upd.drew _ _).trans hx
            replace hl := hl.ext hx
            replace hm := hm.ext hx
            have hE := Upd.refl (fun _ => False) W
            refine id (X_fldS (v := l) (o := (((i : Nat) : Int) : Int).toNat * 6) Fd44_0 rfl hl.sv (by omega) ?_)
            exact ⟨hE, rfl⟩
          refine ⟨.det (fun val => a.1), ⟨fun _ _ hv => rfl, fun _ _ _ _ _ => trivial⟩, fun val h_ W hx he => ⟨trivial, ?_⟩, ?_⟩
          · replace hx := (Upd.drew _ _).trans hx
            replace hl := hl.ext hx
            replace hm := hm.ext hx
            have hE := Upd.refl (fun _ => False) W
            refine id (X_load (v := a.1) T42 rfl (kkey hl (Int.toNat_natCast _) hai) ?_)
            exact ⟨hE, rfl⟩
          refine ⟨.det (fun val => (strV (a.2.1))), ⟨fun _ _ hv => rfl, fun _ _ _ _ _ => trivial⟩, fun val h_ W hx he => ⟨trivial, ?_⟩, ?_⟩
          · replace hx := (Upd.drew _ _).trans hx
            replace hl := hl.ext hx
            replace hm := hm.ext hx
            have hE := Upd.refl (fun _ => False) W
            refine id (X_str (v := a.1) (l := a.2.1) Tryd.underlying42 Tryd.underlying5 Tryd.underlying9 rfl (krd hl hai) ?_)
            exact ⟨hE, rfl⟩
          refine ⟨.det (fun val => m), ⟨fun _ _ hv => rfl, fun _ _ _ _ _ => trivial⟩, fun val h_ W hx he => ⟨trivial, ?_⟩, ?_⟩
          · replace hx := (Upd.drew _ _).trans hx
            replace hl := hl.ext hx
            replace hm := hm.ext hx
            have hE := Upd.refl (fun _ => False) W
            refine id (X_move (v := m) rfl ?_)
            exact ⟨hE, rfl⟩
          refine ⟨.det (fun val => (.int .i64 (((i : Nat) : Int)))), ⟨fun _ _ hv => rfl, fun _ _ _ _ _ => trivial⟩, fun val h_ W hx he => ⟨trivial, ?_⟩, ?_⟩
          · replace hx := (Upd.drew _ _).trans hx
            replace hl := hl.ext hx
            replace hm := hm.ext hx
            have hE := Upd.refl (fun _ => False) W
            refine id (X_move (v := (.int .i64 (((i : Nat) : Int)))) rfl ?_)
            exact ⟨hE, rfl⟩
          refine ⟨.det (fun val => (pof m ((((i : Nat) : Int) : Int).toNat * 6))), ⟨fun _ _ hv => rfl, fun _ _ _ _ _ => trivial⟩, fun val h_ W hx he => ⟨trivial, ?_⟩, ?_⟩
          · replace hx := (Upd.drew _ _).trans hx
            replace hl := hl.ext hx
            replace hm := hm.ext hx
            have hE := Upd.refl (fun _ => False) W
            refine id (X_idx (v := m) (n := fs.length) (k := .i64) (i := ((i : Nat) : Int)) S22 rfl hm.sv rfl (by omega) (by omega) ?_)
            exact ⟨hE, rfl⟩
          refine ⟨.det (fun val => (pof m ((((i : Nat) : Int) : Int).toNat * 6 + 0))), ⟨fun _ _ hv => rfl, fun _ _ _ _ _ => trivial⟩, fun val h_ W hx he => ⟨trivial, ?_⟩, ?_⟩
          · replace hx := (Upd.drew _ _).trans hx
            replace hl := hl.ext hx
            replace hm := hm.ext hx
            have hE := Upd.refl (fun _ => False) W
            refine id (X_fldS (v := m) (o := (((i : Nat) : Int) : Int).toNat * 6) Fd44_0 rfl hm.sv (by omega) ?_)
            exact ⟨hE, rfl⟩
          refine ⟨.det (fun val => b.1), ⟨fun _ _ hv => rfl, fun _ _ _ _ _ => trivial⟩, fun val h_ W hx he => ⟨trivial, ?_⟩, ?_⟩
          · replace hx := (Upd.drew _ _).trans hx
            replace hl := hl.ext hx
            replace hm := hm.ext hx
            have hE := Upd.refl (fun _ => False) W
            refine id (X_load (v := b.1) T42 rfl (kkey hm (Int.toNat_natCast _) hbi) ?_)
            exact ⟨hE, rfl⟩
          refine ⟨.det (fun val => (strV (b.2.1))), ⟨fun _ _ hv => rfl, fun _ _ _ _ _ => trivial⟩, fun val h_ W hx he => ⟨trivial, ?_⟩, ?_⟩
          · replace hx := (Upd.drew _ _).trans hx
            replace hl := hl.ext hx
            replace hm := hm.ext hx
            have hE := Upd.refl (fun _ => False) W
            refine id (X_str (v := b.1) (l := b.2.1) Tryd.underlying42 Tryd.underlying5 Tryd.underlying9 rfl (krd hm hbi) ?_)
            exact ⟨hE, rfl⟩
          refine ⟨.det (fun val => (.bool (false))), ⟨fun _ _ hv => rfl, fun _ _ _ _ _ => trivial⟩, fun val h_ W hx he => ⟨trivial, ?_⟩, ?_⟩
          · replace hx := (Upd.drew _ _).trans hx
            replace hl := hl.ext hx
            replace hm := hm.ext hx
            have hE := Upd.refl (fun _ => False) W
            refine id (X_scmp (a := a.2.1) (b := b.2.1) (r := false) rfl rfl rfl hs4 ?_)
            exact ⟨hE, rfl⟩
          refine ⟨.det (fun val => (.bool (false))), ⟨fun _ _ hv => rfl, fun _ _ _ _ _ => trivial⟩, fun val h_ W hx he => ⟨trivial, ?_⟩, ?_⟩
          · replace hx := (Upd.drew _ _).trans hx
            replace hl := hl.ext hx
            replace hm := hm.ext hx
            have hE := Upd.refl (fun _ => False) W
            refine id (X_move (v := (.bool (false))) rfl ?_)
            exact ⟨hE, rfl⟩
          refine ⟨.det (fun val => l), ⟨fun _ _ hv => rfl, fun _ _ _ _ _ => trivial⟩, fun val h_ W hx he => ⟨⟨30, rfl, rfl⟩, ?_⟩, ?_⟩
          · replace hx := (Upd.drew _ _).trans hx
            replace hl := hl.ext hx
            replace hm := hm.ext hx
            have hE := Upd.refl (fun _ => False) W
            refine id (X_move (v := l) rfl ?_)
            exact ⟨hE, rfl⟩
          refine ⟨.det (fun val => (.int .i64 (((i : Nat) : Int)))), ⟨fun _ _ hv => rfl, fun _ _ _ _ _ => trivial⟩, fun val h_ W hx he => ⟨⟨30, rfl, rfl⟩, ?_⟩, ?_⟩
          · replace hx := (Upd.drew _ _).trans hx
            replace hl := hl.ext hx
            replace hm := hm.ext hx
            have hE := Upd.refl (fun _ => False) W
            refine id (X_move (v := (.int .i64 (((i : Nat) : Int)))) rfl ?_)
            exact ⟨hE, rfl⟩
          refine ⟨.det (fun val => (pof l ((((i : Nat) : Int) : Int).toNat * 6))), ⟨fun _ _ hv => rfl, fun _ _ _ _ _ => trivial⟩, fun val h_ W hx he => ⟨⟨30, rfl, rfl⟩, ?_⟩, ?_⟩
          · replace hx := (Upd.drew _ _).trans hx
            replace hl := hl.ext hx
            replace hm := hm.ext hx
            have hE := Upd.refl (fun _ => False) W
            refine id (X_idx (v := l) (n := es.length) (k := .i64) (i := ((i : Nat) : Int)) S22 rfl hl.sv rfl (by omega) (by omega) ?_)
            exact ⟨hE, rfl⟩
          refine ⟨.det (fun val => (pof l ((((i : Nat) : Int) : Int).toNat * 6 + 1))), ⟨fun _ _ hv => rfl, fun _ _ _ _ _ => trivial⟩, fun val h_ W hx he => ⟨⟨30, rfl, rfl⟩, ?_⟩, ?_⟩
          · replace hx := (Upd.drew _ _).trans hx
            replace hl := hl.ext hx
            replace hm := hm.ext hx
            have hE := Upd.refl (fun _ => False) W
            refine id (X_fldS (v := l) (o := (((i : Nat) : Int) : Int).toNat * 6) Fd44_1 rfl hl.sv (by omega) ?_)
            exact ⟨hE, rfl⟩
          refine ⟨.det (fun val => (.agg (ptC a.2.2).toArray)), ⟨fun _ _ hv => rfl, fun _ _ _ _ _ => trivial⟩, fun val h_ W hx he => ⟨⟨30, rfl, rfl⟩, ?_⟩, ?_⟩
          · replace hx := (Upd.drew _ _).trans hx
            replace hl := hl.ext hx
            replace hm := hm.ext hx
            have hE := Upd.refl (fun _ => False) W
            refine id (X_loadA (xs := ptC a.2.2) A41 rfl (kptr hl (Int.toNat_natCast _) hai) rfl ?_)
            exact ⟨hE, rfl⟩
          refine ⟨.det (fun val => m), ⟨fun _ _ hv => rfl, fun _ _ _ _ _ => trivial⟩, fun val h_ W hx he => ⟨⟨30, rfl, rfl⟩, ?_⟩, ?_⟩
          · replace hx := (Upd.drew _ _).trans hx
            replace hl := hl.ext hx
            replace hm := hm.ext hx
            have hE := Upd.refl (fun _ => False) W
            refine id (X_move (v := m) rfl ?_)
            exact ⟨hE, rfl⟩
          refine ⟨.det (fun val => (.int .i64 (((i : Nat) : Int)))), ⟨fun _ _ hv => rfl, fun _ _ _ _ _ => trivial⟩, fun val h_ W hx he => ⟨⟨30, rfl, rfl⟩, ?_⟩, ?_⟩
          · replace hx := (Upd.drew _ _).trans hx
            replace hl := hl.ext hx
            replace hm := hm.ext hx
            have hE := Upd.refl (fun _ => False) W
            refine id (X_move (v := (.int .i64 (((i : Nat) : Int)))) rfl ?_)
            exact ⟨hE, rfl⟩
          refine ⟨.det (fun val => (pof m ((((i : Nat) : Int) : Int).toNat * 6))), ⟨fun _ _ hv => rfl, fun _ _ _ _ _ => trivial⟩, fun val h_ W hx he => ⟨⟨30, rfl, rfl⟩, ?_⟩, ?_⟩
          · replace hx := (Upd.drew _ _).trans hx
            replace hl := hl.ext hx
            replace hm := hm.ext hx
            have hE := Upd.refl (fun _ => False) W
            refine id (X_idx (v := m) (n := fs.length) (k := .i64) (i := ((i : Nat) : Int)) S22 rfl hm.sv rfl (by omega) (by omega) ?_)
            exact ⟨hE, rfl⟩
          refine ⟨.det (fun val => (pof m ((((i : Nat) : Int) : Int).toNat * 6 + 1))), ⟨fun _ _ hv => rfl, fun _ _ _ _ _ => trivial⟩, fun val h_ W hx he => ⟨⟨30, rfl, rfl⟩, ?_⟩, ?_⟩
          · replace hx := (Upd.drew _ _).trans hx
            replace hl := hl.ext hx
            replace hm := hm.ext hx
            have hE := Upd.refl (fun _ => False) W
            refine id (X_fldS (v := m) (o := (((i : Nat) : Int) : Int).toNat * 6) Fd44_1 rfl hm.sv (by omega) ?_)
            exact ⟨hE, rfl⟩
          refine ⟨.det (fun val => (.agg (ptC b.2.2).toArray)), ⟨fun _ _ hv => rfl, fun _ _ _ _ _ => trivial⟩, fun val h_ W hx he => ⟨⟨30, rfl, rfl⟩, ?_⟩, ?_⟩
          · replace hx := (Upd.drew _ _).trans hx
            replace hl := hl.ext hx
            replace hm := hm.ext hx
            have hE := Upd.refl (fun _ => False) W
            refine id (X_loadA (xs := ptC b.2.2) A41 rfl (kptr hm (Int.toNat_natCast _) hbi) rfl ?_)
            exact ⟨hE, rfl⟩
          intro val W16 hx16 he16
          replace hx16 := (Upd.drew _ _).trans hx16
          have hz16 := hx16.size
          replace hl := hl.ext hx16
          replace hm := hm.ext hx16
          replace hE := hE.trans (Ext.upd hx16)
          refine L_gy (dj := 30) rfl rfl rfl (X_eqP (p := a.2.2) (q := b.2.2) (r := true) Tryd.underlying41 u28 (by kernel_rfl) (by decide) ⟨rfl, rfl, rfl, rfl⟩ Tryd.underlying5 Tryd.underlying38 (by kernel_rfl) Tryd.underlying37 (ie := _) rfl (by kernel_rfl) Tryd.underlying35 Tryd.underlying39 (by kernel_rfl) rfl rfl (.inr ⟨rfl, by rw [hs12]; rfl⟩) ?_)
          refine L_op rfl (X_pick (t := false) (v := (.bool (true))) rfl rfl ?_)
          refine L_nil ?_
          refine T_n ?_
          refine W_ct rfl ?_
          refine W_seq ?_
          refine W_reg ?_
          refine L_op rfl (X_assign (v := (.bool (false))) rfl ?_)
          refine L_nil ?_
          refine T_n ?_
          refine W_ret ?_
          refine B_r ?_
          refine T_r ?_
          refine T_r ?_
          refine B_r ?_
          refine T_r ?_
          exact BQ_r (End_1 Tryd.results30 (v := .bool false) rfl ⟨⟨false, rfl, ⟨fun h => (by cases h), fun h => (by have h1 := same_no hai hbi h; rw [Prod.ext_iff] at h1; simp_all [scmp])⟩⟩, Ext.upd hE⟩)
    · refine L_op rfl (X_cmp (k := .i64) (a := ((i : Nat) : Int)) (b := ((es.length : Nat) : Int)) (r := false) rfl rfl rfl (decide_eq_false (p := ((((i : Nat) : Int)) : Int) < ((((es.length : Nat) : Int)) : Int)) (by omega)) ?_)
      refine L_nil ?_
      refine T_n ?_
      refine W_cf rfl ?_
      refine W_exit ?_
      refine T_e ?_
      refine T_e ?_
      refine B_x ?_
      refine T_n ?_
      refine W_seq ?_
      refine W_reg ?_
      refine L_op rfl (X_assign (v := (.bool (true))) rfl ?_)
      refine L_nil ?_
      refine T_n ?_
      refine W_ret ?_
      exact BQ_r (End_1 Tryd.results30 (v := .bool true) rfl ⟨⟨true, rfl, ⟨fun _ => by have h1 := hz; rwa [List.take_of_length_le (by omega), List.take_of_length_le (by omega)] at h1, fun _ => rfl⟩⟩, Ext.upd hE⟩)

theorem built41z : Tryd.prog.built 41 [] = some (ptC ptZ).toArray := by kernel_rfl
theorem built26z : Tryd.prog.built 26 [] = some ((List.replicate 256 (0 : UInt8)).map byteV).toArray := by
  rw [List.map_replicate]; kernel_rfl
theorem kid_ptr {w : World} {b : Nat} {v : Value} {p : Pt} {t : TypeId} (h : Blk w b (v :: ptC p).toArray t) : At w (ptr b 1) (ptC p) := h.at_ 1 (ptC p) fun j u hj => by
  rw [List.getElem?_toArray, Nat.add_comm]; exact hj
theorem kid_all {w : World} {b : Nat} {v : Value} {p : Pt} {t : TypeId} (h : Blk w b (v :: ptC p).toArray t) : At w (ptr b 0) (v :: ptC p) := h.atAll

theorem c_great (l : Value) (es : List KE) (w : World) (lo hi : Nat) (hl : NRd LK w lo hi l es) : CT Tryd.prog 8 #[l] w fun v w' => (∃ g, v = .bool g ∧ (g = false → es.length ≤ 20 ∧ ∀ (j : Nat) (e : KE), es[j]? = some e → e.2.1.length ≤ 40)) ∧ w = w' := by
  have hmx := hl.sv.len
  refine CT_of Tryd.func8 rfl rfl rfl ?_
  refine W_seq ?_
  refine W_reg ?_
  refine L_op rfl (X_assign (v := (.bool (false))) rfl ?_)
  refine L_nil ?_
  refine T_n ?_
  refine W_seq ?_
  refine W_seq ?_
  refine W_reg ?_
  refine L_op rfl (X_assign (v := (.int .i64 (0))) rfl ?_)
  refine L_nil ?_
  refine T_n ?_
  refine W_block ?_
  refine W_loop (α := Nat) [2, 3, 4, 5, 6, 7, 8, 9, 10, 11, 12, 13, 14, 15, 16, 17, 18, 19, 20] (fun i => [(3, (.int .i64 (((i : Nat) : Int))))]) (fun i w_ => w = w_ ∧ i ≤ es.length ∧ ∀ (j : Nat) (e : KE), j < i → es[j]? = some e → e.2.1.length ≤ 40) (fun i => es.length - i) ⟨rfl, 0, ⟨rfl, Nat.zero_le _, fun j e h => absurd h (Nat.not_lt_zero j)⟩, Out.refl _ _, ⟨rfl, trivial⟩⟩ ?_
  rintro i w1 _ ⟨rfl, hil, hz⟩
  refine W_seq ?_
  refine W_seq ?_
  refine W_reg ?_
  refine L_op rfl (X_move (v := (.int .i64 (((i : Nat) : Int)))) rfl ?_)
  refine L_op rfl (X_move (v := l) rfl ?_)
  refine L_op rfl (X_len (v := l) (n := es.length) Tryd.underlying22 rfl hl.sv ?_)
  by_cases hc2 : (((i : Nat) : Int) : Int) < (((es.length : Nat) : Int))
  · refine L_op rfl (X_cmp (k := .i64) (a := ((i : Nat) : Int)) (b := ((es.length : Nat) : Int)) (r := true) rfl rfl rfl (decide_eq_true (p := ((((i : Nat) : Int)) : Int) < ((((es.length : Nat) : Int)) : Int)) (by omega)) ?_)
    have hi : i < es.length := by omega
    refine L_op rfl (X_move (v := (.bool (true))) rfl ?_)
    refine L_gy (dj := 8) rfl rfl rfl (X_move (v := (.int .i64 (((i : Nat) : Int)))) rfl ?_)
    by_cases hc3 : (((i : Nat) : Int) : Int) ≤ (20)
    · refine L_gy (dj := 8) rfl rfl rfl (X_cmp (k := .i64) (a := ((i : Nat) : Int)) (b := 20) (r := true) rfl rfl rfl (decide_eq_true (p := ((((i : Nat) : Int)) : Int) ≤ ((20) : Int)) (by omega)) ?_)
      obtain ⟨e, he⟩ : ∃ e, es[i]? = some e := ⟨_, List.getElem?_eq_getElem hi⟩
      have hkl := (krd hl he).len
      refine L_op rfl (X_pick (t := true) (v := (.bool (true))) rfl rfl ?_)
      refine L_nil ?_
      refine T_n ?_
      refine W_ct rfl ?_
      refine W_skip ?_
      refine T_n ?_
      refine W_seq ?_
      refine W_block ?_
      refine W_seq ?_
      refine W_reg ?_
      refine L_op rfl (X_move (v := l) rfl ?_)
      refine L_op rfl (X_move (v := (.int .i64 (((i : Nat) : Int)))) rfl ?_)
      refine L_op rfl (X_idx (v := l) (n := es.length) (k := .i64) (i := ((i : Nat) : Int)) S22 rfl hl.sv rfl (by omega) (by omega) ?_)
      refine L_op rfl (X_fldS (v := l) (o := (((i : Nat) : Int) : Int).toNat * 6) Fd44_0 rfl hl.sv (by omega) ?_)
      refine L_op rfl (X_load (v := e.1) T42 rfl (kkey hl (Int.toNat_natCast _) he) ?_)
      refine L_op rfl (X_len (v := e.1) (n := e.2.1.length) Tryd.underlying42 rfl (krd hl he).sv ?_)
      by_cases hc5 : (((e.2.1.length : Nat) : Int) : Int) > (40)
      · refine L_op rfl (X_cmp (k := .i64) (a := ((e.2.1.length : Nat) : Int)) (b := 40) (r := true) rfl rfl rfl (decide_eq_true (p := ((40) : Int) < ((((e.2.1.length : Nat) : Int)) : Int)) (by omega)) ?_)
        refine L_nil ?_
        refine T_n ?_
        refine W_ct rfl ?_
        refine W_seq ?_
        refine W_reg ?_
        refine L_op rfl (X_assign (v := (.bool (true))) rfl ?_)
        refine L_nil ?_
        refine T_n ?_
        refine W_ret ?_
        refine B_r ?_
        refine T_r ?_
        refine T_r ?_
        refine B_r ?_
        refine T_r ?_
        exact BQ_r (End_1 Tryd.results8 (v := .bool (true)) rfl ⟨⟨_, rfl, fun h => by cases h⟩, rfl⟩)
      · refine L_op rfl (X_cmp (k := .i64) (a := ((e.2.1.length : Nat) : Int)) (b := 40) (r := false) rfl rfl rfl (decide_eq_false (p := ((40) : Int) < ((((e.2.1.length : Nat) : Int)) : Int)) (by omega)) ?_)
        refine L_nil ?_
        refine T_n ?_
        refine W_cf rfl ?_
        refine W_skip ?_
        refine B_n ?_
        refine T_n ?_
        refine W_reg ?_
        refine L_op rfl (X_move (v := (.int .i64 (((i : Nat) : Int)))) rfl ?_)
        refine L_op rfl (X_arith (k := .i64) (a := ((i : Nat) : Int)) (b := 1) (r := ((i + 1 : Nat) : Int)) rfl rfl rfl (iadd64 (by omega) (by omega) (by omega)) ?_)
        refine L_op rfl (X_assign (v := (.int .i64 (((i + 1 : Nat) : Int)))) rfl ?_)
        refine L_nil ?_
        refine T_n ?_
        exact ⟨rfl, i + 1, ⟨⟨rfl, hi, fun j e_ hj hje => (Nat.lt_or_ge j i).elim (fun h1 => hz j e_ h1 hje) fun h1 => by obtain rfl : j = i := by { omega }; rw [he] at hje; cases hje; omega⟩, (by show es.length - (i + 1) < es.length - i; omega)⟩, (Out.mk rfl), ⟨rfl, trivial⟩⟩
    · refine L_gy (dj := 8) rfl rfl rfl (X_cmp (k := .i64) (a := ((i : Nat) : Int)) (b := 20) (r := false) rfl rfl rfl (decide_eq_false (p := ((((i : Nat) : Int)) : Int) ≤ ((20) : Int)) (by omega)) ?_)
      refine L_op rfl (X_pick (t := true) (v := (.bool (false))) rfl rfl ?_)
      refine L_nil ?_
      refine T_n ?_
      refine W_cf rfl ?_
      refine W_exit ?_
      refine T_e ?_
      refine T_e ?_
      refine B_x ?_
      refine T_n ?_
      refine W_seq ?_
      refine W_reg ?_
      refine L_op rfl (X_move (v := l) rfl ?_)
      refine L_op rfl (X_len (v := l) (n := es.length) Tryd.underlying22 rfl hl.sv ?_)
      refine L_op rfl (X_cmp (k := .i64) (a := ((es.length : Nat) : Int)) (b := 20) (r := decide (20 < es.length)) rfl rfl rfl (by show decide ((20 : Int) < ((es.length : Nat) : Int)) = _; congr 1; exact propext (by omega)) ?_)
      refine L_op rfl (X_assign (v := (.bool (decide (20 < es.length)))) rfl ?_)
      refine L_nil ?_
      refine T_n ?_
      refine W_ret ?_
      exact BQ_r (End_1 Tryd.results8 (v := .bool (decide (20 < es.length))) rfl ⟨⟨_, rfl, fun h => ⟨by have := of_decide_eq_false h; omega, fun j e hj => hz j e (by have := of_decide_eq_false h; have := (List.getElem?_eq_some_iff.1 hj).1; omega) hj⟩⟩, rfl⟩)
  · refine L_op rfl (X_cmp (k := .i64) (a := ((i : Nat) : Int)) (b := ((es.length : Nat) : Int)) (r := false) rfl rfl rfl (decide_eq_false (p := ((((i : Nat) : Int)) : Int) < ((((es.length : Nat) : Int)) : Int)) (by omega)) ?_)
    refine L_op rfl (X_move (v := (.bool (false))) rfl ?_)
    refine L_gn (dj := 8) (t := false) rfl rfl rfl rfl ?_
    refine L_gn (dj := 8) (t := false) rfl rfl rfl rfl ?_
    refine L_op rfl (X_pick (t := false) (v := (.bool (false))) rfl rfl ?_)
    refine L_nil ?_
    refine T_n ?_
    refine W_cf rfl ?_
    refine W_exit ?_
    refine T_e ?_
    refine T_e ?_
    refine B_x ?_
    refine T_n ?_
    refine W_seq ?_
    refine W_reg ?_
    refine L_op rfl (X_move (v := l) rfl ?_)
    refine L_op rfl (X_len (v := l) (n := es.length) Tryd.underlying22 rfl hl.sv ?_)
    refine L_op rfl (X_cmp (k := .i64) (a := ((es.length : Nat) : Int)) (b := 20) (r := decide (20 < es.length)) rfl rfl rfl (by show decide ((20 : Int) < ((es.length : Nat) : Int)) = _; congr 1; exact propext (by omega)) ?_)
    refine L_op rfl (X_assign (v := (.bool (decide (20 < es.length)))) rfl ?_)
    refine L_nil ?_
    refine T_n ?_
    refine W_ret ?_
    exact BQ_r (End_1 Tryd.results8 (v := .bool (decide (20 < es.length))) rfl ⟨⟨_, rfl, fun h => ⟨by have := of_decide_eq_false h; omega, fun j e hj => hz j e (by have := of_decide_eq_false h; have := (List.getElem?_eq_some_iff.1 hj).1; omega) hj⟩⟩, rfl⟩)

theorem c_sameL (l m : Value) (es fs : List KE) (w : World) (lo hi lo2 hi2 : Nat) (hl : NRd LK w lo hi l es) (hm : NRd LK w lo2 hi2 m fs) : CT Tryd.prog 13 #[l, m] w fun v w' => (∃ g, v = .bool g ∧ (g = true ↔ es.map (·.2) = fs.map (·.2))) ∧ Ext w w' := by
  refine CT_of Tryd.func13 rfl rfl rfl ?_
  refine W_seq ?_
  refine W_reg ?_
  refine L_op rfl (X_assign (v := (.bool (false))) rfl ?_)
  refine L_nil ?_
  refine T_n ?_
  refine W_seq ?_
  refine W_reg ?_
  refine L_op rfl (X_move (v := l) rfl ?_)
  refine L_op rfl (X_move (v := m) rfl ?_)
  refine L_op rfl (X_fn (vs := [l, m]) en30 rfl (CT.mono (c_same l m es fs _ lo hi lo2 hi2 hl hm) ?_))
  rintro _ w1 ⟨⟨g, rfl, hg⟩, hu1⟩
  refine L_op rfl (X_assign (v := (.bool (g))) rfl ?_)
  refine L_nil ?_
  refine T_n ?_
  refine W_ret ?_
  exact BQ_r (End_1 Tryd.results13 (v := .bool g) rfl ⟨⟨g, rfl, hg⟩, hu1⟩)

abbrev KD := List UInt8 × Pt
/-- the greatest birth -/
def birthK (ks : List KD) : Int := ks.foldl (fun a d => max a d.2.2.2.2.1) 0
theorem birth_step {es : List KE} {i : Nat} {e : KE} (he : es[i]? = some e) : birthK ((es.take (i + 1)).map (·.2)) = max (birthK ((es.take i).map (·.2))) e.2.2.2.2.2.1 := by
  unfold birthK
  rw [List.take_add_one, he, List.map_append, List.foldl_append]; rfl

theorem c_birth (l : Value) (es : List KE) (w : World) (lo up : Nat) (hup : up ≤ w.heap.size) (hl : NRd LK w lo up l es) : CT Tryd.prog 14 #[l] w fun v w' => v = .int .u32 (birthK (es.map (·.2))) ∧ Ext w w' := by
  obtain ⟨n0, hn0⟩ : ∃ n, n = w.heap.size := ⟨_, rfl⟩
  have hU : Upd (fun i => n0 ≤ i) w w := Upd.refl _ _
  have hmx := hl.sv.len
  rw [← hn0] at hup
  refine CT_of Tryd.func14 rfl rfl rfl ?_
  refine W_seq ?_
  refine W_reg ?_
  refine L_op rfl (X_assign (v := (.int .u32 (0))) rfl ?_)
  refine L_nil ?_
  refine T_n ?_
  refine W_seq ?_
  refine W_seq ?_
  refine W_reg ?_
  refine L_op rfl (X_move (v := l) rfl ?_)
  refine L_op rfl (X_len (v := l) (n := es.length) Tryd.underlying22 rfl hl.sv ?_)
  refine L_op rfl (X_move (v := (.int .i64 (0))) rfl ?_)
  refine L_nil ?_
  refine T_n ?_
  refine W_block ?_
  refine W_loop (α := Nat) [2, 4, 7, 8, 9, 10, 11, 12, 13, 14, 15, 16] (fun i => [(7, (.int .i64 (((i : Nat) : Int)))), (2, (.int .u32 (birthK ((es.take i).map (fun (x : KE) => x.2)))))]) (fun i w_ => i ≤ es.length ∧ NRd LK w_ lo up l es ∧ Upd (fun i => n0 ≤ i) w w_) (fun i => es.length - i) ⟨rfl, 0, ⟨Nat.zero_le _, hl, hU⟩, Out.refl _ _, ⟨rfl, rfl, trivial⟩⟩ ?_
  rintro i w1 _ ⟨hil, hl, hU⟩
  have hsz_ := hU.size
  refine W_seq ?_
  refine W_reg ?_
  by_cases hc2 : (((i : Nat) : Int) : Int) < (((es.length : Nat) : Int))
  · refine L_op rfl (X_cmp (k := .i64) (a := ((i : Nat) : Int)) (b := ((es.length : Nat) : Int)) (r := true) rfl rfl rfl (decide_eq_true (p := ((((i : Nat) : Int)) : Int) < ((((es.length : Nat) : Int)) : Int)) (by omega)) ?_)
    have hi : i < es.length := by omega
    obtain ⟨e, hei⟩ : ∃ e, es[i]? = some e := ⟨_, List.getElem?_eq_getElem hi⟩
    refine L_nil ?_
    refine T_n ?_
    refine W_seq ?_
    refine W_ct rfl ?_
    refine W_skip ?_
    refine T_n ?_
    refine W_seq ?_
    refine W_block ?_
    refine W_seq ?_
    refine W_reg ?_
    refine L_op rfl (X_idx (v := l) (n := es.length) (k := .i64) (i := ((i : Nat) : Int)) S22 rfl hl.sv rfl (by omega) (by omega) ?_)
    refine L_op rfl (X_loadA (xs := e.1 :: ptC e.2.2) A44 rfl (kall hl (Int.toNat_natCast _) hei) rfl ?_)
    refine L_op rfl (X_alloc (z := (.agg #[(.slice none 0 0), (.int .u8 (0)), (.int .u16 (0)), (.int .u16 (0)), (.int .u32 (0)), (.int .u64 (0))])) (c := #[(.slice none 0 0), (.int .u8 (0)), (.int .u16 (0)), (.int .u16 (0)), (.int .u32 (0)), (.int .u64 (0))]) Zv44 rfl ?_)
    intro b3 w3 hn3
    have hbn3 := hn3.num; have hbs3 := hn3.size
    replace hl := hl.ext hn3.ext
    replace hU := hU.trans (Ext.upd hn3.ext)
    have hB3 := hn3.blk
    refine L_op0 (X_storeW (b := b3) (ys := e.1 :: ptC e.2.2) A44 rfl rfl (kone hl hei) rfl hB3 rfl ?_)
    intro w4 hu4 hb4
    have hz4 := hu4.size
    replace hl := hl.upd hu4 fun i h1 h2 h => by have h : i = b3 := h; omega
    replace hU := hU.trans (hu4.mono fun i _ h => by have h : i = b3 := h; show n0 ≤ i; omega)
    replace hB3 := hb4
    refine L_nil ?_
    refine T_n ?_
    refine W_reg ?_
    refine L_op rfl (X_move (v := (.int .u32 (birthK ((es.take i).map (fun (x : KE) => x.2))))) rfl ?_)
    refine L_op rfl (X_fldP (b := b3) (o := 0) (r := 1) Fd44_1 rfl rfl ?_)
    refine L_op rfl (X_fldP (b := b3) (o := 1) (r := 4) Fd41_2 rfl rfl ?_)
    refine L_op rfl (X_load (p := (ptr b3 (4))) (v := (.int .u32 (e.2.2.2.2.2.1))) T35 rfl (hB3.at1 rfl) ?_)
    refine L_op rfl (X_max (k := .u32) (a := birthK ((es.take i).map (fun (x : KE) => x.2))) (b := e.2.2.2.2.2.1) (r := max (birthK ((es.take i).map (fun (x : KE) => x.2))) e.2.2.2.2.2.1) rfl rfl (by omega) ?_)
    refine L_op rfl (X_assign (v := (.int .u32 (max (birthK ((es.take i).map (fun (x : KE) => x.2))) e.2.2.2.2.2.1))) rfl ?_)
    refine L_nil ?_
    refine B_n ?_
    refine T_n ?_
    refine W_reg ?_
    refine L_op rfl (X_arith (k := .i64) (a := ((i : Nat) : Int)) (b := 1) (r := ((i + 1 : Nat) : Int)) rfl rfl rfl (iadd64 (by omega) (by omega) (by omega)) ?_)
    refine L_op rfl (X_move (v := (.int .i64 (((i + 1 : Nat) : Int)))) rfl ?_)
    refine L_nil ?_
    refine T_n ?_
    exact ⟨rfl, i + 1, ⟨⟨hi, hl, hU⟩, (by show es.length - (i + 1) < es.length - i; omega)⟩, (Out.mk rfl), ⟨rfl, by rw [birth_step hei]; rfl, trivial⟩⟩
  · refine L_op rfl (X_cmp (k := .i64) (a := ((i : Nat) : Int)) (b := ((es.length : Nat) : Int)) (r := false) rfl rfl rfl (decide_eq_false (p := ((((i : Nat) : Int)) : Int) < ((((es.length : Nat) : Int)) : Int)) (by omega)) ?_)
    have hie : i = es.length := by omega
    refine L_nil ?_
    refine T_n ?_
    refine W_seq ?_
    refine W_cf rfl ?_
    refine W_exit ?_
    refine T_e ?_
    refine T_e ?_
    refine B_x ?_
    refine T_n ?_
    refine W_seq ?_
    refine W_reg ?_
    refine L_op rfl (X_move (v := (.int .u32 (birthK ((es.take i).map (fun (x : KE) => x.2))))) rfl ?_)
    refine L_op rfl (X_assign (v := (.int .u32 (birthK ((es.take i).map (fun (x : KE) => x.2))))) rfl ?_)
    refine L_nil ?_
    refine T_n ?_
    refine W_ret ?_
    exact BQ_r (End_1 Tryd.results14 (v := .int .u32 (birthK ((es.take i).map (fun (x : KE) => x.2)))) rfl ⟨by rw [hie, List.take_length], hU.own hn0⟩)
end Go.Proofs.YtbgpegccnalkeaaDoor
