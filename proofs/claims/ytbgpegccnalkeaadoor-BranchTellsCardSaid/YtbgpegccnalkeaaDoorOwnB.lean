/-
  The contracts of branches: copies. (Printed by wip/gen/t07o.py of this repo.)
-/
import Derived.Test.YtbgpegccnalkeaaDoorBack
namespace Go.Proofs.YtbgpegccnalkeaaDoor
open Go Go.SL Go.Proofs
set_option linter.unusedVariables false

def KeyOK (es : List KE) : Prop := ∀ (j : Nat) (e : KE), es[j]? = some e → e.2.1.length ≤ 140737488355328

theorem c_ownR (l : Value) (es : List KE) (w : World) (lo up : Nat) (hup : up ≤ w.heap.size) (hl : NRd LK w lo up l es) (hkl : KeyOK es) (hlen : es.length ≤ 1099511627776) : CT Tryd.prog 15 #[l] w fun v w' => ∃ fs, NOwn LK w' 44 5 w.heap.size w'.heap.size v fs ∧ Dist fs ∧ fs.map (·.2) = es.map (·.2) ∧ Ext w w' := by
  obtain ⟨n0, hn0⟩ : ∃ n, n = w.heap.size := ⟨_, rfl⟩
  have hU : Upd (fun i => n0 ≤ i) w w := Upd.refl _ _
  rw [← hn0] at hup
  refine CT_of Tryd.func15 rfl rfl rfl ?_
  refine W_seq ?_
  refine W_reg ?_
  refine L_op rfl (X_assign (v := (.slice none 0 0)) rfl ?_)
  refine L_nil ?_
  refine T_n ?_
  refine W_seq ?_
  refine W_reg ?_
  refine L_op rfl (X_assign (v := (.slice none 0 0)) rfl ?_)
  refine L_nil ?_
  refine T_n ?_
  refine W_seq ?_
  refine W_seq ?_
  refine W_reg ?_
  refine L_op rfl (X_assign (v := (.int .i64 (0))) rfl ?_)
  refine L_nil ?_
  refine T_n ?_
  refine W_block ?_
  refine W_loop (α := Nat × Value × List KE) [3, 4, 5, 6, 7, 8, 9, 10, 11, 12, 13, 14, 15, 16, 17, 18, 19, 20, 21, 22, 23, 24, 25, 26] (fun ⟨i, u, fs⟩ => [(3, u), (4, (.int .i64 (((i : Nat) : Int))))]) (fun ⟨i, u, fs⟩ w_ => i ≤ es.length ∧ NOwn LK w_ 44 5 n0 w_.heap.size u fs ∧ Dist fs ∧ fs.map (·.2) = (es.map (·.2)).take i ∧ NRd LK w_ lo up l es ∧ Upd (fun i => n0 ≤ i) w w_) (fun ⟨i, u, fs⟩ => es.length - i) ⟨rfl, (0, .slice none 0 0, []), ⟨Nat.zero_le _, NOwn.nil _ _ _ _ _, List.Pairwise.nil, rfl, hl, hU⟩, Out.refl _ _, ⟨rfl, rfl, trivial⟩⟩ ?_
  rintro ⟨i, u, fs⟩ w1 _ ⟨hil, hN, hdi, hfs, hl, hU⟩
  have hsz_ := hU.size
  have hfl : fs.length = i := by have h := congrArg List.length hfs; rw [List.length_map, List.length_take, List.length_map] at h; omega
  obtain ⟨s0, hs0⟩ : ∃ n, n = w1.heap.size := ⟨_, rfl⟩
  rw [← hs0] at hN
  refine W_seq ?_
  refine W_seq ?_
  refine W_reg ?_
  refine L_op rfl (X_move (v := (.int .i64 (((i : Nat) : Int)))) rfl ?_)
  refine L_op rfl (X_move (v := l) rfl ?_)
  refine L_op rfl (X_len (v := l) (n := es.length) Tryd.underlying22 rfl hl.sv ?_)
  by_cases hc2 : (((i : Nat) : Int) : Int) < (((es.length : Nat) : Int))
  · refine L_op rfl (X_cmp (k := .i64) (a := ((i : Nat) : Int)) (b := ((es.length : Nat) : Int)) (r := true) rfl rfl rfl (decide_eq_true (p := ((((i : Nat) : Int)) : Int) < ((((es.length : Nat) : Int)) : Int)) (by omega)) ?_)
    have hi : i < es.length := by omega
    obtain ⟨e, hei⟩ : ∃ e, es[i]? = some e := ⟨_, List.getElem?_eq_getElem hi⟩
    have hke := hkl i e hei
    refine L_nil ?_
    refine T_n ?_
    refine W_ct rfl ?_
    refine W_skip ?_
    refine T_n ?_
    refine W_seq ?_
    refine W_block ?_
    refine W_draw 15 [[], [], [], [], [2, 3], [2, 3, 4], [2, 3, 4, 5], [1, 2, 3, 4, 5, 6], [], [], [8, 9], [8, 9, 10], [8, 9, 10, 11], [1, 2, 3, 4, 5, 6, 7, 8, 9, 10, 11, 12], [1, 2, 3, 4, 5, 6, 7, 8, 9, 10, 11, 12, 13], [0, 1, 2, 3, 4, 5, 6, 7, 8, 9, 10, 11, 12, 13, 14], [0, 1, 2, 3, 4, 5, 6, 7, 8, 9, 10, 11, 12, 13, 14, 15]] mixed (by kernel_rfl) ?_
    refine ⟨.det (fun val => u), ⟨fun _ _ hv => rfl, fun _ _ _ _ _ => trivial⟩, fun val h_ W hx he => ⟨trivial, ?_⟩, ?_⟩
    · replace hx := (Upd.drew _ _).trans hx
      replace hl := hl.ext hx
      replace hN := hN.ext hx
      have hE := Upd.refl (fun _ => False) W
      refine id (X_move (v := u) rfl ?_)
      exact ⟨hE, rfl⟩
    refine ⟨.abs (fun _ x_ _ => ∃ b, x_ = .slice (some ⟨b, 0, none⟩) 0 0), ⟨fun _ _ _ => rfl, fun _ _ _ _ _ h => h⟩, fun val h_ W hx he => ⟨trivial, ?_⟩, ?_⟩
    · replace hx := (Upd.drew _ _).trans hx
      replace hl := hl.ext hx
      replace hN := hN.ext hx
      have hE := Upd.refl (fun _ => False) W
      refine X_buildSlice1 (vs := []) S42 (by decide) rfl rfl (fun _ h => by cases h) ?_
      intro b w2 hn
      exact ⟨hn.ext, b, rfl⟩
    refine ⟨.det (fun val => l), ⟨fun _ _ hv => rfl, fun _ _ _ _ _ => trivial⟩, fun val h_ W hx he => ⟨trivial, ?_⟩, ?_⟩
    · replace hx := (Upd.drew _ _).trans hx
      replace hl := hl.ext hx
      replace hN := hN.ext hx
      have hE := Upd.refl (fun _ => False) W
      refine id (X_move (v := l) rfl ?_)
      exact ⟨hE, rfl⟩
    refine ⟨.det (fun val => (.int .i64 (((i : Nat) : Int)))), ⟨fun _ _ hv => rfl, fun _ _ _ _ _ => trivial⟩, fun val h_ W hx he => ⟨trivial, ?_⟩, ?_⟩
    · replace hx := (Upd.drew _ _).trans hx
      replace hl := hl.ext hx
      replace hN := hN.ext hx
      have hE := Upd.refl (fun _ => False) W
      refine id (X_move (v := (.int .i64 (((i : Nat) : Int)))) rfl ?_)
      exact ⟨hE, rfl⟩
    refine ⟨.det (fun val => (pof l ((((i : Nat) : Int) : Int).toNat * 6))), ⟨fun _ _ hv => rfl, fun _ _ _ _ _ => trivial⟩, fun val h_ W hx he => ⟨trivial, ?_⟩, ?_⟩
    · replace hx := (Upd.drew _ _).trans hx
      replace hl := hl.ext hx
      replace hN := hN.ext hx
      have hE := Upd.refl (fun _ => False) W
      refine id (X_idx (v := l) (n := es.length) (k := .i64) (i := ((i : Nat) : Int)) S22 rfl hl.sv rfl (by omega) (by omega) ?_)
      exact ⟨hE, rfl⟩
    refine ⟨.det (fun val => (pof l ((((i : Nat) : Int) : Int).toNat * 6 + 0))), ⟨fun _ _ hv => rfl, fun _ _ _ _ _ => trivial⟩, fun val h_ W hx he => ⟨trivial, ?_⟩, ?_⟩
    · replace hx := (Upd.drew _ _).trans hx
      replace hl := hl.ext hx
      replace hN := hN.ext hx
      have hE := Upd.refl (fun _ => False) W
      refine id (X_fldS (v := l) (o := (((i : Nat) : Int) : Int).toNat * 6) Fd44_0 rfl hl.sv (by omega) ?_)
      exact ⟨hE, rfl⟩
    refine ⟨.det (fun val => e.1), ⟨fun _ _ hv => rfl, fun _ _ _ _ _ => trivial⟩, fun val h_ W hx he => ⟨trivial, ?_⟩, ?_⟩
    · replace hx := (Upd.drew _ _).trans hx
      replace hl := hl.ext hx
      replace hN := hN.ext hx
      have hE := Upd.refl (fun _ => False) W
      refine id (X_load (v := e.1) T42 rfl (kkey hl (Int.toNat_natCast _) hei) ?_)
      exact ⟨hE, rfl⟩
    refine ⟨.abs (fun _ x_ W => Own W s0 5 1 x_ e.2.1.length (e.2.1.map byteV)), ⟨fun _ _ _ => rfl, fun _ _ _ _ hu h => h.ext hu⟩, fun val h_ W hx he => ⟨trivial, ?_⟩, ?_⟩
    · replace hx := (Upd.drew _ _).trans hx
      replace hl := hl.ext hx
      replace hN := hN.ext hx
      have hE := Upd.refl (fun _ => False) W
      obtain ⟨⟨bz, hbz⟩, he_⟩ := he
      refine X_append (B := s0) (s := val 1) (x := e.1) S42 ⟨_, Tryd.underlying42⟩ rfl rfl (n := 0) (xs := []) (by rw [hbz]; exact Own.zero _ _ _ _ _) (krd hl hei) (byteV_one _) (by unfold maxLen; omega) (by omega) (by have := hx.size; omega) ?_
      intro v5 w5 hO5 hu5 _
      rw [hbz] at hu5
      exact ⟨hu5.nobk, hO5.eq (Nat.zero_add _) (List.nil_append _)⟩
    refine ⟨.det (fun val => l), ⟨fun _ _ hv => rfl, fun _ _ _ _ _ => trivial⟩, fun val h_ W hx he => ⟨trivial, ?_⟩, ?_⟩
    · replace hx := (Upd.drew _ _).trans hx
      replace hl := hl.ext hx
      replace hN := hN.ext hx
      have hE := Upd.refl (fun _ => False) W
      refine id (X_move (v := l) rfl ?_)
      exact ⟨hE, rfl⟩
    refine ⟨.det (fun val => (.int .i64 (((i : Nat) : Int)))), ⟨fun _ _ hv => rfl, fun _ _ _ _ _ => trivial⟩, fun val h_ W hx he => ⟨trivial, ?_⟩, ?_⟩
    · replace hx := (Upd.drew _ _).trans hx
      replace hl := hl.ext hx
      replace hN := hN.ext hx
      have hE := Upd.refl (fun _ => False) W
      refine id (X_move (v := (.int .i64 (((i : Nat) : Int)))) rfl ?_)
      exact ⟨hE, rfl⟩
    refine ⟨.det (fun val => (pof l ((((i : Nat) : Int) : Int).toNat * 6))), ⟨fun _ _ hv => rfl, fun _ _ _ _ _ => trivial⟩, fun val h_ W hx he => ⟨trivial, ?_⟩, ?_⟩
    · replace hx := (Upd.drew _ _).trans hx
      replace hl := hl.ext hx
      replace hN := hN.ext hx
      have hE := Upd.refl (fun _ => False) W
      refine id (X_idx (v := l) (n := es.length) (k := .i64) (i := ((i : Nat) : Int)) S22 rfl hl.sv rfl (by omega) (by omega) ?_)
      exact ⟨hE, rfl⟩
    refine ⟨.det (fun val => (pof l ((((i : Nat) : Int) : Int).toNat * 6 + 1))), ⟨fun _ _ hv => rfl, fun _ _ _ _ _ => trivial⟩, fun val h_ W hx he => ⟨trivial, ?_⟩, ?_⟩
    · replace hx := (Upd.drew _ _).trans hx
      replace hl := hl.ext hx
      replace hN := hN.ext hx
      have hE := Upd.refl (fun _ => False) W
      refine id (X_fldS (v := l) (o := (((i : Nat) : Int) : Int).toNat * 6) Fd44_1 rfl hl.sv (by omega) ?_)
      exact ⟨hE, rfl⟩
    refine ⟨.det (fun val => (.agg (ptC e.2.2).toArray)), ⟨fun _ _ hv => rfl, fun _ _ _ _ _ => trivial⟩, fun val h_ W hx he => ⟨trivial, ?_⟩, ?_⟩
    · replace hx := (Upd.drew _ _).trans hx
      replace hl := hl.ext hx
      replace hN := hN.ext hx
      have hE := Upd.refl (fun _ => False) W
      refine id (X_loadA (xs := ptC e.2.2) A41 rfl (kptr hl (Int.toNat_natCast _) hei) rfl ?_)
      exact ⟨hE, rfl⟩
    refine ⟨.det (fun val => (.agg ((val 7) :: ptC e.2.2).toArray)), ⟨fun _ _ hv => (by simp only [hv 7 rfl]), fun _ _ _ _ _ => trivial⟩, fun val h_ W hx he => ⟨trivial, ?_⟩, ?_⟩
    · replace hx := (Upd.drew _ _).trans hx
      replace hl := hl.ext hx
      replace hN := hN.ext hx
      have hE := Upd.refl (fun _ => False) W
      obtain ⟨hV7, he⟩ := he
      obtain ⟨⟨bz, hbz⟩, he⟩ := he
      refine id (X_build (built44' hV7.sv e.2.2) ?_)
      exact ⟨hE, rfl⟩
    refine ⟨.abs (fun val x_ W => ∃ b, x_ = .slice (some ⟨b, 0, none⟩) 1 1 ∧ Blk W b (val 7 :: ptC e.2.2).toArray 44), ⟨fun _ _ hv => (by simp only [hv 7 rfl]), fun _ _ _ _ hu h => (by obtain ⟨b, e1, e2⟩ := h; exact ⟨b, e1, e2.ext hu⟩)⟩, fun val h_ W hx he => ⟨trivial, ?_⟩, ?_⟩
    · replace hx := (Upd.drew _ _).trans hx
      replace hl := hl.ext hx
      replace hN := hN.ext hx
      have hE := Upd.refl (fun _ => False) W
      refine X_buildSliceL (vs := [.agg (val 7 :: ptC e.2.2).toArray]) (c := val 7 :: ptC e.2.2) S22 (by decide) rfl rfl (List.forall_mem_cons.2 ⟨rfl, fun _ h => by cases h⟩) rfl ?_
      intro b w2 hn
      exact ⟨hn.ext, b, rfl, hn.blk⟩
    intro val W3 hx3 he3
    replace hx3 := (Upd.drew _ _).trans hx3
    have hz3 := hx3.size
    replace hU := hU.trans (Ext.upd hx3)
    replace hl := hl.ext hx3
    replace hN := hN.ext hx3
    obtain ⟨⟨bl, hbl, hBl⟩, he3⟩ := he3
    obtain ⟨hV7, he3⟩ := he3
    obtain ⟨⟨bz, hbz⟩, he3⟩ := he3
    have hzW := hU.size
    refine L_op rfl (X_append (B := n0) (n := fs.length) (s := u) (x := .slice (some ⟨bl, 0, none⟩) 1 1) S22 ⟨_, Tryd.underlying22⟩ rfl hbl hN.1 (m := 1) (ys := val 7 :: ptC e.2.2) (hBl.rd (o := 0) (n := 1) (c := 1) (sz := 6) (by decide) (by decide) rfl (fun j u hj => by rw [Nat.zero_add]; simpa using hj)) (hV7.sv.kone _) (by unfold maxLen; omega) (by omega) (by omega) ?_)
    intro v5 w5 hO5 hu5 ho5
    have hz5 := hu5.size
    have hN5 := NOwn.push (L := LK) (e := (val 7, e.2)) (hi' := W3.heap.size) (by decide) hN hO5 hu5 (fun s hs => by have h1 : s = (val 7, e.2.1) := by { simpa [LK] using hs }; subst h1; exact ⟨hV7.more (by omega), fun b hb => (hV7.lt hb).2⟩) (by omega) (by omega)
    have hdi5 : Dist (fs ++ [(val 7, e.2)]) := hdi.push (m := s0) (fun a ha k hk => by have := (hN.2.2 a ha (a.1, a.2.1) (by simp [LK])).2 k hk; omega) fun k hk => (hV7.lt hk).1
    replace hl := hl.upd hu5 fun i h1 h2 h => by have := (hN.1.lt h).1; omega
    replace hU := hU.trans (hu5.mono fun i _ h => by have := (hN.1.lt h).1; show n0 ≤ i; omega)
    refine L_op rfl (X_assign (v := v5) rfl ?_)
    refine L_nil ?_
    refine B_n ?_
    refine T_n ?_
    refine W_reg ?_
    refine L_op rfl (X_move (v := (.int .i64 (((i : Nat) : Int)))) rfl ?_)
    refine L_op rfl (X_arith (k := .i64) (a := ((i : Nat) : Int)) (b := 1) (r := ((i + 1 : Nat) : Int)) rfl rfl rfl (iadd64 (by omega) (by omega) (by omega)) ?_)
    refine L_op rfl (X_assign (v := (.int .i64 (((i + 1 : Nat) : Int)))) rfl ?_)
    refine L_nil ?_
    refine T_n ?_
    exact ⟨rfl, (i + 1, v5, fs ++ [(val 7, e.2)]), ⟨⟨hi, hN5, hdi5, by rw [List.map_append, hfs, List.take_add_one, List.getElem?_map, hei]; rfl, hl, hU⟩, (by show es.length - (i + 1) < es.length - i; omega)⟩, (Out.mk rfl), ⟨rfl, rfl, trivial⟩⟩
  · refine L_op rfl (X_cmp (k := .i64) (a := ((i : Nat) : Int)) (b := ((es.length : Nat) : Int)) (r := false) rfl rfl rfl (decide_eq_false (p := ((((i : Nat) : Int)) : Int) < ((((es.length : Nat) : Int)) : Int)) (by omega)) ?_)
    obtain rfl : i = es.length := by omega
    refine L_nil ?_
    refine T_n ?_
    refine W_cf rfl ?_
    refine W_exit ?_
    refine T_e ?_
    refine T_e ?_
    refine B_x ?_
    refine T_n ?_
    refine W_seq ?_
    refine W_reg ?_
    refine L_op rfl (X_move (v := u) rfl ?_)
    refine L_op rfl (X_assign (v := u) rfl ?_)
    refine L_nil ?_
    refine T_n ?_
    refine W_ret ?_
    exact BQ_r (End_1 Tryd.results15 (v := u) rfl ⟨fs, hN.mono (by omega) (by omega), hdi, by rw [hfs, List.take_of_length_le (by rw [List.length_map]; exact Nat.le_refl _)], hU.own hn0⟩)

theorem c_ownB (l : Value) (es : List KE) (w : World) (lo up : Nat) (hup : up ≤ w.heap.size) (hl : NRd LK w lo up l es) (hkl : KeyOK es) (hlen : es.length ≤ 1099511627776) : CT Tryd.prog 16 #[l] w fun v w' => ∃ fs, NOwn LK w' 44 5 w.heap.size w'.heap.size v fs ∧ Dist fs ∧ fs.map (·.2) = es.map (·.2) ∧ Ext w w' := by
  obtain ⟨n0, hn0⟩ : ∃ n, n = w.heap.size := ⟨_, rfl⟩
  have hU : Upd (fun i => n0 ≤ i) w w := Upd.refl _ _
  rw [← hn0] at hup
  refine CT_of Tryd.func16 rfl rfl rfl ?_
  refine W_seq ?_
  refine W_reg ?_
  refine L_op rfl (X_assign (v := (.slice none 0 0)) rfl ?_)
  refine L_nil ?_
  refine T_n ?_
  refine W_seq ?_
  refine W_seq ?_
  refine W_reg ?_
  refine L_op rfl (X_move (v := l) rfl ?_)
  refine L_op rfl (X_len (v := l) (n := es.length) Tryd.underlying22 rfl hl.sv ?_)
  refine L_op rfl (X_move (v := (.int .i64 (0))) rfl ?_)
  refine L_nil ?_
  refine T_n ?_
  refine W_block ?_
  refine W_loop (α := Nat × Value × List KE) [2, 4, 7, 8, 9, 10, 11, 12, 13, 14, 15, 16, 17, 18, 19, 20, 21] (fun ⟨i, u, fs⟩ => [(2, u), (7, (.int .i64 (((i : Nat) : Int))))]) (fun ⟨i, u, fs⟩ w_ => i ≤ es.length ∧ NOwn LK w_ 44 5 n0 w_.heap.size u fs ∧ Dist fs ∧ fs.map (·.2) = (es.map (·.2)).take i ∧ NRd LK w_ lo up l es ∧ Upd (fun i => n0 ≤ i) w w_) (fun ⟨i, u, fs⟩ => es.length - i) ⟨rfl, (0, .slice none 0 0, []), ⟨Nat.zero_le _, NOwn.nil _ _ _ _ _, List.Pairwise.nil, rfl, hl, hU⟩, Out.refl _ _, ⟨rfl, rfl, trivial⟩⟩ ?_
  rintro ⟨i, u, fs⟩ w1 _ ⟨hil, hN, hdi, hfs, hl, hU⟩
  have hsz_ := hU.size
  have hfl : fs.length = i := by have h := congrArg List.length hfs; rw [List.length_map, List.length_take, List.length_map] at h; omega
  obtain ⟨s0, hs0⟩ : ∃ n, n = w1.heap.size := ⟨_, rfl⟩
  rw [← hs0] at hN
  refine W_seq ?_
  refine W_reg ?_
  by_cases hc2 : (((i : Nat) : Int) : Int) < (((es.length : Nat) : Int))
  · refine L_op rfl (X_cmp (k := .i64) (a := ((i : Nat) : Int)) (b := ((es.length : Nat) : Int)) (r := true) rfl rfl rfl (decide_eq_true (p := ((((i : Nat) : Int)) : Int) < ((((es.length : Nat) : Int)) : Int)) (by omega)) ?_)
    have hi : i < es.length := by omega
    obtain ⟨e, hei⟩ : ∃ e, es[i]? = some e := ⟨_, List.getElem?_eq_getElem hi⟩
    have hke := hkl i e hei
    refine L_nil ?_
    refine T_n ?_
    refine W_seq ?_
    refine W_ct rfl ?_
    refine W_skip ?_
    refine T_n ?_
    refine W_seq ?_
    refine W_block ?_
    refine W_seq ?_
    refine W_reg ?_
    refine L_op rfl (X_idx (v := l) (n := es.length) (k := .i64) (i := ((i : Nat) : Int)) S22 rfl hl.sv rfl (by omega) (by omega) ?_)
    refine L_op rfl (X_loadA (xs := e.1 :: ptC e.2.2) A44 rfl (kall hl (Int.toNat_natCast _) hei) rfl ?_)
    refine L_op rfl (X_alloc (z := (.agg #[(.slice none 0 0), (.int .u8 (0)), (.int .u16 (0)), (.int .u16 (0)), (.int .u32 (0)), (.int .u64 (0))])) (c := #[(.slice none 0 0), (.int .u8 (0)), (.int .u16 (0)), (.int .u16 (0)), (.int .u32 (0)), (.int .u64 (0))]) Zv44 rfl ?_)
    intro b3 w3 hn3
    have hbn3 := hn3.num; have hbs3 := hn3.size
    replace hU := hU.trans (Ext.upd hn3.ext)
    replace hl := hl.ext hn3.ext
    replace hN := hN.ext hn3.ext
    have hB3 := hn3.blk
    refine L_op0 (X_storeW (b := b3) (ys := e.1 :: ptC e.2.2) A44 rfl rfl (kone hl hei) rfl hB3 rfl ?_)
    intro w4 hu4 hb4
    have hz4 := hu4.size
    replace hU := hU.trans (hu4.mono fun i _ h => by have h : i = b3 := h; show n0 ≤ i; omega)
    replace hl := hl.upd hu4 fun i h1 h2 h => by have h : i = b3 := h; omega
    replace hN := hN.upd hu4 fun i h1 h2 h => by have h : i = b3 := h; omega
    replace hB3 := hb4
    refine L_nil ?_
    refine T_n ?_
    refine W_draw 9 [[], [], [], [2], [1, 2, 3], [], [5], [1, 2, 3, 4, 5, 6], [1, 2, 3, 4, 5, 6, 7], [0, 1, 2, 3, 4, 5, 6, 7, 8], [0, 1, 2, 3, 4, 5, 6, 7, 8, 9]] mixed (by kernel_rfl) ?_
    refine ⟨.det (fun val => u), ⟨fun _ _ hv => rfl, fun _ _ _ _ _ => trivial⟩, fun val h_ W hx he => ⟨trivial, ?_⟩, ?_⟩
    · replace hx := (Upd.drew _ _).trans hx
      replace hl := hl.ext hx
      replace hN := hN.ext hx
      replace hB3 := hB3.ext hx
      have hE := Upd.refl (fun _ => False) W
      refine id (X_move (v := u) rfl ?_)
      exact ⟨hE, rfl⟩
    refine ⟨.abs (fun _ x_ _ => ∃ b, x_ = .slice (some ⟨b, 0, none⟩) 0 0), ⟨fun _ _ _ => rfl, fun _ _ _ _ _ h => h⟩, fun val h_ W hx he => ⟨trivial, ?_⟩, ?_⟩
    · replace hx := (Upd.drew _ _).trans hx
      replace hl := hl.ext hx
      replace hN := hN.ext hx
      replace hB3 := hB3.ext hx
      have hE := Upd.refl (fun _ => False) W
      refine X_buildSlice1 (vs := []) S42 (by decide) rfl rfl (fun _ h => by cases h) ?_
      intro b w2 hn
      exact ⟨hn.ext, b, rfl⟩
    refine ⟨.det (fun val => (ptr b3 (0))), ⟨fun _ _ hv => rfl, fun _ _ _ _ _ => trivial⟩, fun val h_ W hx he => ⟨trivial, ?_⟩, ?_⟩
    · replace hx := (Upd.drew _ _).trans hx
      replace hl := hl.ext hx
      replace hN := hN.ext hx
      replace hB3 := hB3.ext hx
      have hE := Upd.refl (fun _ => False) W
      refine id (X_fldP (b := b3) (o := 0) (r := 0) Fd44_0 rfl rfl ?_)
      exact ⟨hE, rfl⟩
    refine ⟨.det (fun val => e.1), ⟨fun _ _ hv => rfl, fun _ _ _ _ _ => trivial⟩, fun val h_ W hx he => ⟨trivial, ?_⟩, ?_⟩
    · replace hx := (Upd.drew _ _).trans hx
      replace hl := hl.ext hx
      replace hN := hN.ext hx
      replace hB3 := hB3.ext hx
      have hE := Upd.refl (fun _ => False) W
      refine id (X_load (p := (ptr b3 (0))) (v := e.1) T42 rfl (hB3.at1 rfl) ?_)
      exact ⟨hE, rfl⟩
    refine ⟨.abs (fun _ x_ W => Own W s0 5 1 x_ e.2.1.length (e.2.1.map byteV)), ⟨fun _ _ _ => rfl, fun _ _ _ _ hu h => h.ext hu⟩, fun val h_ W hx he => ⟨trivial, ?_⟩, ?_⟩
    · replace hx := (Upd.drew _ _).trans hx
      replace hl := hl.ext hx
      replace hN := hN.ext hx
      replace hB3 := hB3.ext hx
      have hE := Upd.refl (fun _ => False) W
      obtain ⟨⟨bz, hbz⟩, he_⟩ := he
      refine X_append (B := s0) (s := val 1) (x := e.1) S42 ⟨_, Tryd.underlying42⟩ rfl rfl (n := 0) (xs := []) (by rw [hbz]; exact Own.zero _ _ _ _ _) (krd hl hei) (byteV_one _) (by unfold maxLen; omega) (by omega) (by have := hx.size; omega) ?_
      intro v5 w5 hO5 hu5 _
      rw [hbz] at hu5
      exact ⟨hu5.nobk, hO5.eq (Nat.zero_add _) (List.nil_append _)⟩
    refine ⟨.det (fun val => (ptr b3 (1))), ⟨fun _ _ hv => rfl, fun _ _ _ _ _ => trivial⟩, fun val h_ W hx he => ⟨trivial, ?_⟩, ?_⟩
    · replace hx := (Upd.drew _ _).trans hx
      replace hl := hl.ext hx
      replace hN := hN.ext hx
      replace hB3 := hB3.ext hx
      have hE := Upd.refl (fun _ => False) W
      refine id (X_fldP (b := b3) (o := 0) (r := 1) Fd44_1 rfl rfl ?_)
      exact ⟨hE, rfl⟩
    refine ⟨.det (fun val => (.agg (ptC e.2.2).toArray)), ⟨fun _ _ hv => rfl, fun _ _ _ _ _ => trivial⟩, fun val h_ W hx he => ⟨trivial, ?_⟩, ?_⟩
    · replace hx := (Upd.drew _ _).trans hx
      replace hl := hl.ext hx
      replace hN := hN.ext hx
      replace hB3 := hB3.ext hx
      have hE := Upd.refl (fun _ => False) W
      refine id (X_loadA (p := (ptr b3 (1))) (xs := ptC e.2.2) A41 rfl (kid_ptr hB3) rfl ?_)
      exact ⟨hE, rfl⟩
    refine ⟨.det (fun val => (.agg ((val 4) :: ptC e.2.2).toArray)), ⟨fun _ _ hv => (by simp only [hv 4 rfl]), fun _ _ _ _ _ => trivial⟩, fun val h_ W hx he => ⟨trivial, ?_⟩, ?_⟩
    · replace hx := (Upd.drew _ _).trans hx
      replace hl := hl.ext hx
      replace hN := hN.ext hx
      replace hB3 := hB3.ext hx
      have hE := Upd.refl (fun _ => False) W
      obtain ⟨hV4, he⟩ := he
      obtain ⟨⟨bz, hbz⟩, he⟩ := he
      refine id (X_build (built44' hV4.sv e.2.2) ?_)
      exact ⟨hE, rfl⟩
    refine ⟨.abs (fun val x_ W => ∃ b, x_ = .slice (some ⟨b, 0, none⟩) 1 1 ∧ Blk W b (val 4 :: ptC e.2.2).toArray 44), ⟨fun _ _ hv => (by simp only [hv 4 rfl]), fun _ _ _ _ hu h => (by obtain ⟨b, e1, e2⟩ := h; exact ⟨b, e1, e2.ext hu⟩)⟩, fun val h_ W hx he => ⟨trivial, ?_⟩, ?_⟩
    · replace hx := (Upd.drew _ _).trans hx
      replace hl := hl.ext hx
      replace hN := hN.ext hx
      replace hB3 := hB3.ext hx
      have hE := Upd.refl (fun _ => False) W
      refine X_buildSliceL (vs := [.agg (val 4 :: ptC e.2.2).toArray]) (c := val 4 :: ptC e.2.2) S22 (by decide) rfl rfl (List.forall_mem_cons.2 ⟨rfl, fun _ h => by cases h⟩) rfl ?_
      intro b w2 hn
      exact ⟨hn.ext, b, rfl, hn.blk⟩
    intro val W5 hx5 he5
    replace hx5 := (Upd.drew _ _).trans hx5
    have hz5 := hx5.size
    replace hU := hU.trans (Ext.upd hx5)
    replace hl := hl.ext hx5
    replace hN := hN.ext hx5
    replace hB3 := hB3.ext hx5
    obtain ⟨⟨bl, hbl, hBl⟩, he5⟩ := he5
    obtain ⟨hV4, he5⟩ := he5
    obtain ⟨⟨bz, hbz⟩, he5⟩ := he5
    have hzW := hU.size
    refine L_op rfl (X_append (B := n0) (n := fs.length) (s := u) (x := .slice (some ⟨bl, 0, none⟩) 1 1) S22 ⟨_, Tryd.underlying22⟩ rfl hbl hN.1 (m := 1) (ys := val 4 :: ptC e.2.2) (hBl.rd (o := 0) (n := 1) (c := 1) (sz := 6) (by decide) (by decide) rfl (fun j u hj => by rw [Nat.zero_add]; simpa using hj)) (hV4.sv.kone _) (by unfold maxLen; omega) (by omega) (by omega) ?_)
    intro v5 w5 hO5 hu5 ho5
    have hz5 := hu5.size
    have hN5 := NOwn.push (L := LK) (e := (val 4, e.2)) (hi' := W5.heap.size) (by decide) hN hO5 hu5 (fun s hs => by have h1 : s = (val 4, e.2.1) := by { simpa [LK] using hs }; subst h1; exact ⟨hV4.more (by omega), fun b hb => (hV4.lt hb).2⟩) (by omega) (by omega)
    have hdi5 : Dist (fs ++ [(val 4, e.2)]) := hdi.push (m := s0) (fun a ha k hk => by have := (hN.2.2 a ha (a.1, a.2.1) (by simp [LK])).2 k hk; omega) fun k hk => (hV4.lt hk).1
    replace hl := hl.upd hu5 fun i h1 h2 h => by have := (hN.1.lt h).1; omega
    replace hU := hU.trans (hu5.mono fun i _ h => by have := (hN.1.lt h).1; show n0 ≤ i; omega)
    refine L_op rfl (X_assign (v := v5) rfl ?_)
    refine L_nil ?_
    refine B_n ?_
    refine T_n ?_
    refine W_reg ?_
    refine L_op rfl (X_arith (k := .i64) (a := ((i : Nat) : Int)) (b := 1) (r := ((i + 1 : Nat) : Int)) rfl rfl rfl (iadd64 (by omega) (by omega) (by omega)) ?_)
    refine L_op rfl (X_move (v := (.int .i64 (((i + 1 : Nat) : Int)))) rfl ?_)
    refine L_nil ?_
    refine T_n ?_
    exact ⟨rfl, (i + 1, v5, fs ++ [(val 4, e.2)]), ⟨⟨hi, hN5, hdi5, by rw [List.map_append, hfs, List.take_add_one, List.getElem?_map, hei]; rfl, hl, hU⟩, (by show es.length - (i + 1) < es.length - i; omega)⟩, (Out.mk rfl), ⟨rfl, rfl, trivial⟩⟩
  · refine L_op rfl (X_cmp (k := .i64) (a := ((i : Nat) : Int)) (b := ((es.length : Nat) : Int)) (r := false) rfl rfl rfl (decide_eq_false (p := ((((i : Nat) : Int)) : Int) < ((((es.length : Nat) : Int)) : Int)) (by omega)) ?_)
    have hie : i = es.length := by omega
    refine L_nil ?_
    refine T_n ?_
    refine W_seq ?_
    refine W_cf rfl ?_
    refine W_exit ?_
    refine T_e ?_
    refine T_e ?_
    refine B_x ?_
    refine T_n ?_
    refine W_seq ?_
    refine W_reg ?_
    refine L_op rfl (X_move (v := u) rfl ?_)
    refine L_op rfl (X_assign (v := u) rfl ?_)
    refine L_nil ?_
    refine T_n ?_
    refine W_ret ?_
    exact BQ_r (End_1 Tryd.results16 (v := u) rfl ⟨fs, hN.mono (by omega) (by omega), hdi, by rw [hfs, List.take_of_length_le (by rw [List.length_map]; omega)], hU.own hn0⟩)
end Go.Proofs.YtbgpegccnalkeaaDoor
