/-
  The walk of LeafRight. (Printed by wip/gen/t06p.py of this repo.)
-/
import Derived.Test.YtmddmghgkkjbiaaDoorSame
namespace Go.Proofs.YtmddmghgkkjbiaaDoor
open Go Go.SL Go.Proofs
set_option linter.unusedVariables false

theorem built43ab (a a2 : Option Addr) (n n2 c c2 : Nat) : Tryd.prog.built 43 [(0, .slice a n c), (1, .slice a2 n2 c2)] = some (itC (.slice a n c, .slice a2 n2 c2, [], [], ptZ, 0)).toArray := by kernel_rfl
theorem built43ab' {v u : Value} {n m : Nat} (h : SV v n) (h2 : SV u m) (k l : List UInt8) : Tryd.prog.built 43 [(0, v), (1, u)] = some (itC (v, u, k, l, ptZ, 0)).toArray := by
  obtain ⟨a, c, rfl, _⟩ := h
  obtain ⟨a2, c2, rfl, _⟩ := h2
  exact built43ab a a2 n m c c2
theorem built43s (a : Option Addr) (n c : Nat) : Tryd.prog.built 43 [(0, .slice a n c), (3, .int .u16 3)] = some (itC (.slice a n c, .slice none 0 0, [], [], ptZ, 3)).toArray := by kernel_rfl
theorem built43s' {v : Value} {n : Nat} (h : SV v n) (k : List UInt8) : Tryd.prog.built 43 [(0, v), (3, .int .u16 3)] = some (itC (v, .slice none 0 0, k, [], ptZ, 3)).toArray := by
  obtain ⟨a, c, rfl, _⟩ := h
  exact built43s a n c
def IWS : List ID := [([107], [], ptZ, 3)]
theorem IWS_not : ¬ RightI IWS := by decide +kernel
abbrev ds2 (a b v : List UInt8) : List ID := [(a, v, ptZ, 0), (b, [], ptZ, 0)]
theorem right2 {a b v : List UInt8} : RightI (ds2 a b v) ↔ ((1 ≤ a.length ∧ a.length ≤ 8) ∧ v.length ≤ 16) ∧ (1 ≤ b.length ∧ b.length ≤ 8) ∧ Op.bytesLess a b = true := by
  constructor
  · intro h
    have h0 := (h.2 0 (by show 0 < 2; decide)).1
    have h1 := h.2 1 (by show 1 < 2; decide)
    obtain ⟨ha, h0⟩ := h0
    obtain ⟨⟨hb, _⟩, hl⟩ := h1
    refine ⟨⟨ha, ?_⟩, hb, hl (by decide)⟩
    rcases h0 with h0 | h0
    · exact h0.2.1
    · exact absurd (show (ptZ.1 : Int) = 3 from h0.1) (by decide)
  · intro ⟨⟨ha, hv⟩, hb, hl⟩
    refine ⟨by show 2 ≤ 6; decide, fun j hj => ?_⟩
    have hj2 : j < 2 := hj
    match j, hj2 with
    | 0, _ => exact ⟨⟨ha, .inl ⟨rfl, hv, rfl, rfl⟩⟩, fun h => absurd h (by decide)⟩
    | 1, _ => exact ⟨⟨hb, .inl ⟨rfl, Nat.zero_le _, rfl, rfl⟩⟩, fun _ => hl⟩
theorem right2_T {a b v : List UInt8} (h : ((1 ≤ a.length ∧ a.length ≤ 8) ∧ v.length ≤ 16) ∧ (1 ≤ b.length ∧ b.length ≤ 8)) : decide (RightI (ds2 a b v)) = Op.bytesLess a b := by
  rw [Bool.eq_iff_iff, decide_eq_true_iff]
  exact right2.trans ⟨fun h => h.2.2, fun hl => ⟨h.1, h.2, hl⟩⟩
/-- items of one byte each -/
def dsN (n : Nat) : List ID := (List.range n).map fun i => ([UInt8.ofNat (i + 1)], [], ptZ, 0)
theorem dsN_step (n : Nat) : dsN (n + 1) = dsN n ++ [([UInt8.ofNat (n + 1)], [], ptZ, 0)] := by unfold dsN; rw [List.range_succ, List.map_append]; rfl
theorem dsN_right : ∀ n, n < 7 → RightI (dsN n) := by decide +kernel
theorem dsN_dec (n : Nat) : decide (RightI (dsN n)) = decide (n ≤ 6) := by
  rw [Bool.eq_iff_iff, decide_eq_true_iff, decide_eq_true_iff]
  exact ⟨fun h => by have := h.1; unfold dsN at this; rwa [List.length_map, List.length_range] at this, fun h => dsN_right n (by omega)⟩
theorem two_row {w : World} {b up : Nat} {e f : IE} (hB : Blk w b ([e, f].flatMap LT.cel).toArray 43) (hb : b < up) (hk : BRd w 0 up (e.1, e.2.2.1)) (hv : BRd w 0 up (e.2.1, e.2.2.2.1)) (hk2 : BRd w 0 up (f.1, f.2.2.1)) (hv2 : BRd w 0 up (f.2.1, f.2.2.2.1)) : NRd LT w 0 up (.slice (some ⟨b, 0, none⟩) 2 2) [e, f] := by
  refine ⟨?_, fun b' hb' => ?_, fun e' he s hs => ?_⟩
  · exact hB.rd (o := 0) (n := 2) (c := 2) (sz := 8) (by decide) (by decide) rfl (fun j u hj => by rw [Nat.zero_add]; simpa using hj)
  · have h : b = b' := Option.some.inj hb'
    omega
  · have h1 : s = (e'.1, e'.2.2.1) ∨ s = (e'.2.1, e'.2.2.2.1) := by simpa [LT] using hs
    have he : e' = e ∨ e' = f := by simpa using he
    rcases he with rfl | rfl <;> rcases h1 with rfl | rfl
    · exact hk
    · exact hv
    · exact hk2
    · exact hv2

theorem ItZ2 (k v : List UInt8) : ItOk (k, v, ptZ, 0) := ⟨ptZ_ok, (Int.le_refl 0 : (0 : Int) ≤ 0), (by decide : (0 : Int) < 65536)⟩
theorem ItS : ItOk ([107], [], ptZ, 3) := ⟨ptZ_ok, (by decide : (0 : Int) ≤ 3), (by decide : (3 : Int) < 65536)⟩
theorem dsN_ok (n : Nat) : ∀ d ∈ dsN n, ItOk d := fun d hd => by obtain ⟨i, _, rfl⟩ := List.mem_map.1 hd; exact ItZ2 _ _

set_option maxRecDepth 10000 in
set_option maxHeartbeats 2000000 in
theorem c_leafRight (va vb vv : Value) (la lb lv : List UInt8) (n : Int) (w : World) (ha : Rd w 1 va la.length (la.map byteV)) (hb : Rd w 1 vb lb.length (lb.map byteV)) (hv : Rd w 1 vv lv.length (lv.map byteV)) (hT : TabR w) : CT Tryd.prog 5 #[va, vb, vv, (.int .i64 (n))] w fun v w' => v = .bool true ∧ Ext w w' := by
  obtain ⟨n0, hn0⟩ : ∃ n, n = w.heap.size := ⟨_, rfl⟩
  have hU : Upd (fun i => n0 ≤ i) w w := Upd.refl _ _
  have ha_b : ∀ i, rbk va = some i → i < n0 := by rw [hn0]; exact fun i hi => ha.bound (by decide) hi
  have hb_b : ∀ i, rbk vb = some i → i < n0 := by rw [hn0]; exact fun i hi => hb.bound (by decide) hi
  have hv_b : ∀ i, rbk vv = some i → i < n0 := by rw [hn0]; exact fun i hi => hv.bound (by decide) hi
  have hn1 := tab_pos hT
  refine CT_of Tryd.func5 rfl rfl rfl ?_
  refine W_seq ?_
  refine W_reg ?_
  refine L_op rfl (X_assign (v := (.bool (false))) rfl ?_)
  refine L_nil ?_
  refine T_n ?_
  refine W_seq ?_
  refine W_seq ?_
  refine W_reg ?_
  refine L_op rfl (X_move (v := va) rfl ?_)
  refine L_op rfl (X_len (v := va) (n := la.length) Tryd.underlying35 rfl ha.sv ?_)
  by_cases hc1 : (((la.length : Nat) : Int) : Int) > (40)
  · refine L_op rfl (X_cmp (k := .i64) (a := ((la.length : Nat) : Int)) (b := 40) (r := true) rfl rfl rfl (decide_eq_true (p := ((40) : Int) < ((((la.length : Nat) : Int)) : Int)) (by omega)) ?_)
    refine L_op rfl (X_move (v := (.bool (true))) rfl ?_)
    refine L_gn (dj := 16) (t := true) rfl rfl rfl rfl ?_
    refine L_gn (dj := 16) (t := true) rfl rfl rfl rfl ?_
    refine L_gn (dj := 16) (t := true) rfl rfl rfl rfl ?_
    refine L_op rfl (X_pick (t := true) (v := (.bool (true))) rfl rfl ?_)
    refine L_op rfl (X_move (v := (.bool (true))) rfl ?_)
    refine L_gn (dj := 21) (t := true) rfl rfl rfl rfl ?_
    refine L_gn (dj := 21) (t := true) rfl rfl rfl rfl ?_
    refine L_gn (dj := 21) (t := true) rfl rfl rfl rfl ?_
    refine L_op rfl (X_pick (t := true) (v := (.bool (true))) rfl rfl ?_)
    refine L_op rfl (X_move (v := (.bool (true))) rfl ?_)
    refine L_gn (dj := 26) (t := true) rfl rfl rfl rfl ?_
    refine L_gn (dj := 26) (t := true) rfl rfl rfl rfl ?_
    refine L_op rfl (X_pick (t := true) (v := (.bool (true))) rfl rfl ?_)
    refine L_op rfl (X_move (v := (.bool (true))) rfl ?_)
    refine L_gn (dj := 30) (t := true) rfl rfl rfl rfl ?_
    refine L_gn (dj := 30) (t := true) rfl rfl rfl rfl ?_
    refine L_op rfl (X_pick (t := true) (v := (.bool (true))) rfl rfl ?_)
    refine L_nil ?_
    refine T_n ?_
    refine W_ct rfl ?_
    refine W_seq ?_
    refine W_reg ?_
    refine L_op rfl (X_fn (vs := []) en9 rfl (CT.mono (c_wakes _ hT) ?_))
    rintro vb2 w2 ⟨hvb2, hu2⟩
    have hz2 := hu2.size
    replace ha := ha.ext hu2
    replace hb := hb.ext hu2
    replace hv := hv.ext hu2
    replace hU := hU.trans (Ext.upd hu2)
    replace hT := hT.ext hu2
    subst hvb2
    refine L_op rfl (X_assign (v := (.bool (true))) rfl ?_)
    refine L_nil ?_
    refine T_n ?_
    refine W_ret ?_
    refine T_r ?_
    exact BQ_r (End_1 Tryd.results5 (v := .bool true) rfl ⟨rfl, hU.own hn0⟩)
  · refine L_op rfl (X_cmp (k := .i64) (a := ((la.length : Nat) : Int)) (b := 40) (r := false) rfl rfl rfl (decide_eq_false (p := ((40) : Int) < ((((la.length : Nat) : Int)) : Int)) (by omega)) ?_)
    refine L_op rfl (X_move (v := (.bool (false))) rfl ?_)
    refine L_gy (dj := 16) rfl rfl rfl (X_move (v := vb) rfl ?_)
    refine L_gy (dj := 16) rfl rfl rfl (X_len (v := vb) (n := lb.length) Tryd.underlying35 rfl hb.sv ?_)
    by_cases hc3 : (((lb.length : Nat) : Int) : Int) > (40)
    · refine L_gy (dj := 16) rfl rfl rfl (X_cmp (k := .i64) (a := ((lb.length : Nat) : Int)) (b := 40) (r := true) rfl rfl rfl (decide_eq_true (p := ((40) : Int) < ((((lb.length : Nat) : Int)) : Int)) (by omega)) ?_)
      refine L_op rfl (X_pick (t := false) (v := (.bool (true))) rfl rfl ?_)
      refine L_op rfl (X_move (v := (.bool (true))) rfl ?_)
      refine L_gn (dj := 21) (t := true) rfl rfl rfl rfl ?_
      refine L_gn (dj := 21) (t := true) rfl rfl rfl rfl ?_
      refine L_gn (dj := 21) (t := true) rfl rfl rfl rfl ?_
      refine L_op rfl (X_pick (t := true) (v := (.bool (true))) rfl rfl ?_)
      refine L_op rfl (X_move (v := (.bool (true))) rfl ?_)
      refine L_gn (dj := 26) (t := true) rfl rfl rfl rfl ?_
      refine L_gn (dj := 26) (t := true) rfl rfl rfl rfl ?_
      refine L_op rfl (X_pick (t := true) (v := (.bool (true))) rfl rfl ?_)
      refine L_op rfl (X_move (v := (.bool (true))) rfl ?_)
      refine L_gn (dj := 30) (t := true) rfl rfl rfl rfl ?_
      refine L_gn (dj := 30) (t := true) rfl rfl rfl rfl ?_
      refine L_op rfl (X_pick (t := true) (v := (.bool (true))) rfl rfl ?_)
      refine L_nil ?_
      refine T_n ?_
      refine W_ct rfl ?_
      refine W_seq ?_
      refine W_reg ?_
      refine L_op rfl (X_fn (vs := []) en9 rfl (CT.mono (c_wakes _ hT) ?_))
      rintro vb4 w4 ⟨hvb4, hu4⟩
      have hz4 := hu4.size
      replace ha := ha.ext hu4
      replace hb := hb.ext hu4
      replace hv := hv.ext hu4
      replace hU := hU.trans (Ext.upd hu4)
      replace hT := hT.ext hu4
      subst hvb4
      refine L_op rfl (X_assign (v := (.bool (true))) rfl ?_)
      refine L_nil ?_
      refine T_n ?_
      refine W_ret ?_
      refine T_r ?_
      exact BQ_r (End_1 Tryd.results5 (v := .bool true) rfl ⟨rfl, hU.own hn0⟩)
    · refine L_gy (dj := 16) rfl rfl rfl (X_cmp (k := .i64) (a := ((lb.length : Nat) : Int)) (b := 40) (r := false) rfl rfl rfl (decide_eq_false (p := ((40) : Int) < ((((lb.length : Nat) : Int)) : Int)) (by omega)) ?_)
      refine L_op rfl (X_pick (t := false) (v := (.bool (false))) rfl rfl ?_)
      refine L_op rfl (X_move (v := (.bool (false))) rfl ?_)
      refine L_gy (dj := 21) rfl rfl rfl (X_move (v := vv) rfl ?_)
      refine L_gy (dj := 21) rfl rfl rfl (X_len (v := vv) (n := lv.length) Tryd.underlying35 rfl hv.sv ?_)
      by_cases hc5 : (((lv.length : Nat) : Int) : Int) > (40)
      · refine L_gy (dj := 21) rfl rfl rfl (X_cmp (k := .i64) (a := ((lv.length : Nat) : Int)) (b := 40) (r := true) rfl rfl rfl (decide_eq_true (p := ((40) : Int) < ((((lv.length : Nat) : Int)) : Int)) (by omega)) ?_)
        refine L_op rfl (X_pick (t := false) (v := (.bool (true))) rfl rfl ?_)
        refine L_op rfl (X_move (v := (.bool (true))) rfl ?_)
        refine L_gn (dj := 26) (t := true) rfl rfl rfl rfl ?_
        refine L_gn (dj := 26) (t := true) rfl rfl rfl rfl ?_
        refine L_op rfl (X_pick (t := true) (v := (.bool (true))) rfl rfl ?_)
        refine L_op rfl (X_move (v := (.bool (true))) rfl ?_)
        refine L_gn (dj := 30) (t := true) rfl rfl rfl rfl ?_
        refine L_gn (dj := 30) (t := true) rfl rfl rfl rfl ?_
        refine L_op rfl (X_pick (t := true) (v := (.bool (true))) rfl rfl ?_)
        refine L_nil ?_
        refine T_n ?_
        refine W_ct rfl ?_
        refine W_seq ?_
        refine W_reg ?_
        refine L_op rfl (X_fn (vs := []) en9 rfl (CT.mono (c_wakes _ hT) ?_))
        rintro vb6 w6 ⟨hvb6, hu6⟩
        have hz6 := hu6.size
        replace ha := ha.ext hu6
        replace hb := hb.ext hu6
        replace hv := hv.ext hu6
        replace hU := hU.trans (Ext.upd hu6)
        replace hT := hT.ext hu6
        subst hvb6
        refine L_op rfl (X_assign (v := (.bool (true))) rfl ?_)
        refine L_nil ?_
        refine T_n ?_
        refine W_ret ?_
        refine T_r ?_
        exact BQ_r (End_1 Tryd.results5 (v := .bool true) rfl ⟨rfl, hU.own hn0⟩)
      · refine L_gy (dj := 21) rfl rfl rfl (X_cmp (k := .i64) (a := ((lv.length : Nat) : Int)) (b := 40) (r := false) rfl rfl rfl (decide_eq_false (p := ((40) : Int) < ((((lv.length : Nat) : Int)) : Int)) (by omega)) ?_)
        refine L_op rfl (X_pick (t := false) (v := (.bool (false))) rfl rfl ?_)
        refine L_op rfl (X_move (v := (.bool (false))) rfl ?_)
        refine L_gy (dj := 26) rfl rfl rfl (X_move (v := (.int .i64 (n))) rfl ?_)
        by_cases hc7 : (n : Int) < (0)
        · refine L_gy (dj := 26) rfl rfl rfl (X_cmp (k := .i64) (a := n) (b := 0) (r := true) rfl rfl rfl (decide_eq_true (p := ((n) : Int) < ((0) : Int)) (by omega)) ?_)
          refine L_op rfl (X_pick (t := false) (v := (.bool (true))) rfl rfl ?_)
          refine L_op rfl (X_move (v := (.bool (true))) rfl ?_)
          refine L_gn (dj := 30) (t := true) rfl rfl rfl rfl ?_
          refine L_gn (dj := 30) (t := true) rfl rfl rfl rfl ?_
          refine L_op rfl (X_pick (t := true) (v := (.bool (true))) rfl rfl ?_)
          refine L_nil ?_
          refine T_n ?_
          refine W_ct rfl ?_
          refine W_seq ?_
          refine W_reg ?_
          refine L_op rfl (X_fn (vs := []) en9 rfl (CT.mono (c_wakes _ hT) ?_))
          rintro vb8 w8 ⟨hvb8, hu8⟩
          have hz8 := hu8.size
          replace ha := ha.ext hu8
          replace hb := hb.ext hu8
          replace hv := hv.ext hu8
          replace hU := hU.trans (Ext.upd hu8)
          replace hT := hT.ext hu8
          subst hvb8
          refine L_op rfl (X_assign (v := (.bool (true))) rfl ?_)
          refine L_nil ?_
          refine T_n ?_
          refine W_ret ?_
          refine T_r ?_
          exact BQ_r (End_1 Tryd.results5 (v := .bool true) rfl ⟨rfl, hU.own hn0⟩)
        · refine L_gy (dj := 26) rfl rfl rfl (X_cmp (k := .i64) (a := n) (b := 0) (r := false) rfl rfl rfl (decide_eq_false (p := ((n) : Int) < ((0) : Int)) (by omega)) ?_)
          refine L_op rfl (X_pick (t := false) (v := (.bool (false))) rfl rfl ?_)
          refine L_op rfl (X_move (v := (.bool (false))) rfl ?_)
          refine L_gy (dj := 30) rfl rfl rfl (X_move (v := (.int .i64 (n))) rfl ?_)
          by_cases hc9 : (n : Int) > (20)
          · refine L_gy (dj := 30) rfl rfl rfl (X_cmp (k := .i64) (a := n) (b := 20) (r := true) rfl rfl rfl (decide_eq_true (p := ((20) : Int) < ((n) : Int)) (by omega)) ?_)
            refine L_op rfl (X_pick (t := false) (v := (.bool (true))) rfl rfl ?_)
            refine L_nil ?_
            refine T_n ?_
            refine W_ct rfl ?_
            refine W_seq ?_
            refine W_reg ?_
            refine L_op rfl (X_fn (vs := []) en9 rfl (CT.mono (c_wakes _ hT) ?_))
            rintro vb10 w10 ⟨hvb10, hu10⟩
            have hz10 := hu10.size
            replace ha := ha.ext hu10
            replace hb := hb.ext hu10
            replace hv := hv.ext hu10
            replace hU := hU.trans (Ext.upd hu10)
            replace hT := hT.ext hu10
            subst hvb10
            refine L_op rfl (X_assign (v := (.bool (true))) rfl ?_)
            refine L_nil ?_
            refine T_n ?_
            refine W_ret ?_
            refine T_r ?_
            exact BQ_r (End_1 Tryd.results5 (v := .bool true) rfl ⟨rfl, hU.own hn0⟩)
          · refine L_gy (dj := 30) rfl rfl rfl (X_cmp (k := .i64) (a := n) (b := 20) (r := false) rfl rfl rfl (decide_eq_false (p := ((20) : Int) < ((n) : Int)) (by omega)) ?_)
            refine L_op rfl (X_pick (t := false) (v := (.bool (false))) rfl rfl ?_)
            refine L_nil ?_
            refine T_n ?_
            refine W_cf rfl ?_
            refine W_skip ?_
            refine T_n ?_
            refine W_seq ?_
            refine W_reg ?_
            refine L_op rfl (X_move (v := va) rfl ?_)
            refine L_op rfl (X_len (v := va) (n := la.length) Tryd.underlying35 rfl ha.sv ?_)
            by_cases hc11 : (((la.length : Nat) : Int) : Int) ≥ (1)
            · refine L_op rfl (X_cmp (k := .i64) (a := ((la.length : Nat) : Int)) (b := 1) (r := true) rfl rfl rfl (decide_eq_true (p := ((1) : Int) ≤ ((((la.length : Nat) : Int)) : Int)) (by omega)) ?_)
              refine L_op rfl (X_move (v := (.bool (true))) rfl ?_)
              refine L_gy (dj := 38) rfl rfl rfl (X_move (v := va) rfl ?_)
              refine L_gy (dj := 38) rfl rfl rfl (X_len (v := va) (n := la.length) Tryd.underlying35 rfl ha.sv ?_)
              by_cases hc12 : (((la.length : Nat) : Int) : Int) ≤ (8)
              · refine L_gy (dj := 38) rfl rfl rfl (X_cmp (k := .i64) (a := ((la.length : Nat) : Int)) (b := 8) (r := true) rfl rfl rfl (decide_eq_true (p := ((((la.length : Nat) : Int)) : Int) ≤ ((8) : Int)) (by omega)) ?_)
                refine L_op rfl (X_pick (t := true) (v := (.bool (true))) rfl rfl ?_)
                refine L_op rfl (X_move (v := (.bool (true))) rfl ?_)
                refine L_gy (dj := 43) rfl rfl rfl (X_move (v := vb) rfl ?_)
                refine L_gy (dj := 43) rfl rfl rfl (X_len (v := vb) (n := lb.length) Tryd.underlying35 rfl hb.sv ?_)
                by_cases hc13 : (((lb.length : Nat) : Int) : Int) ≥ (1)
                · refine L_gy (dj := 43) rfl rfl rfl (X_cmp (k := .i64) (a := ((lb.length : Nat) : Int)) (b := 1) (r := true) rfl rfl rfl (decide_eq_true (p := ((1) : Int) ≤ ((((lb.length : Nat) : Int)) : Int)) (by omega)) ?_)
                  refine L_op rfl (X_pick (t := true) (v := (.bool (true))) rfl rfl ?_)
                  refine L_op rfl (X_move (v := (.bool (true))) rfl ?_)
                  refine L_gy (dj := 48) rfl rfl rfl (X_move (v := vb) rfl ?_)
                  refine L_gy (dj := 48) rfl rfl rfl (X_len (v := vb) (n := lb.length) Tryd.underlying35 rfl hb.sv ?_)
                  by_cases hc14 : (((lb.length : Nat) : Int) : Int) ≤ (8)
                  · refine L_gy (dj := 48) rfl rfl rfl (X_cmp (k := .i64) (a := ((lb.length : Nat) : Int)) (b := 8) (r := true) rfl rfl rfl (decide_eq_true (p := ((((lb.length : Nat) : Int)) : Int) ≤ ((8) : Int)) (by omega)) ?_)
                    refine L_op rfl (X_pick (t := true) (v := (.bool (true))) rfl rfl ?_)
                    refine L_op rfl (X_move (v := (.bool (true))) rfl ?_)
                    refine L_gy (dj := 53) rfl rfl rfl (X_move (v := vv) rfl ?_)
                    refine L_gy (dj := 53) rfl rfl rfl (X_len (v := vv) (n := lv.length) Tryd.underlying35 rfl hv.sv ?_)
                    by_cases hc15 : (((lv.length : Nat) : Int) : Int) ≤ (16)
                    · refine L_gy (dj := 53) rfl rfl rfl (X_cmp (k := .i64) (a := ((lv.length : Nat) : Int)) (b := 16) (r := true) rfl rfl rfl (decide_eq_true (p := ((((lv.length : Nat) : Int)) : Int) ≤ ((16) : Int)) (by omega)) ?_)
                      refine L_op rfl (X_pick (t := true) (v := (.bool (true))) rfl rfl ?_)
                      refine L_op rfl (X_assign (v := (.bool (true))) rfl ?_)
                      refine L_nil ?_
                      refine T_n ?_
                      refine W_seq ?_
                      refine W_seq ?_
                      refine W_reg ?_
                      refine L_op rfl (X_move (v := va) rfl ?_)
                      refine L_op rfl (X_move (v := vv) rfl ?_)
                      refine L_op rfl (X_build (built43ab' ha.sv hv.sv la lv) ?_)
                      refine L_op rfl (X_move (v := vb) rfl ?_)
                      refine L_op rfl (X_build (built43' hb.sv lb) ?_)
                      refine L_op rfl (X_buildSliceL (vs := [.agg (itC ((va, vv, la, lv, ptZ, 0) : IE)).toArray, .agg (itC ((vb, .slice none 0 0, lb, [], ptZ, 0) : IE)).toArray]) (c := [((va, vv, la, lv, ptZ, 0) : IE), ((vb, .slice none 0 0, lb, [], ptZ, 0) : IE)].flatMap LT.cel) S22 (by decide) rfl rfl (List.forall_mem_cons.2 ⟨rfl, List.forall_mem_cons.2 ⟨rfl, fun _ h => by cases h⟩⟩) rfl ?_)
                      intro b2 w2 hn2
                      have hbn2 := hn2.num; have hbs2 := hn2.size
                      replace ha := ha.ext hn2.ext
                      replace hb := hb.ext hn2.ext
                      replace hv := hv.ext hn2.ext
                      replace hU := hU.trans (Ext.upd hn2.ext)
                      replace hT := hT.ext hn2.ext
                      have hB2 := hn2.blk
                      obtain ⟨u2, hu2_⟩ : ∃ n, n = w2.heap.size := ⟨_, rfl⟩
                      have hl2 := two_row (e := ((va, vv, la, lv, ptZ, 0) : IE)) (f := ((vb, .slice none 0 0, lb, [], ptZ, 0) : IE)) (up := u2) hB2 (by omega) ⟨ha, fun b hb_ => ⟨Nat.zero_le _, by have := ha_b b hb_; omega⟩⟩ ⟨hv, fun b hb_ => ⟨Nat.zero_le _, by have := hv_b b hb_; omega⟩⟩ ⟨hb, fun b hb_ => ⟨Nat.zero_le _, by have := hb_b b hb_; omega⟩⟩ (BRd.nil _ _ _)
                      refine L_op rfl (X_fn (vs := [(.slice (some ⟨b2, 0, none⟩) 2 2)]) en14 rfl (CT.mono (c_rightI _ [((va, vv, la, lv, ptZ, 0) : IE), ((vb, .slice none 0 0, lb, [], ptZ, 0) : IE)] _ 0 u2 (by omega) hl2 (fun e he => by have h : e = ((va, vv, la, lv, ptZ, 0) : IE) ∨ e = ((vb, .slice none 0 0, lb, [], ptZ, 0) : IE) := (by simpa using he); rcases h with rfl | rfl; (· exact ItZ2 _ _); (· exact ItZ _))) ?_))
                      rintro _ w16 ⟨rfl, hu16⟩
                      have hz16 := hu16.size
                      replace ha := ha.ext hu16
                      replace hb := hb.ext hu16
                      replace hv := hv.ext hu16
                      replace hU := hU.trans (Ext.upd hu16)
                      replace hT := hT.ext hu16
                      rw [show decide (RightI (dsI [((va, vv, la, lv, ptZ, 0) : IE), ((vb, .slice none 0 0, lb, [], ptZ, 0) : IE)])) = Op.bytesLess la lb from right2_T ⟨⟨⟨by omega, by omega⟩, by omega⟩, by omega, by omega⟩]
                      rcases Bool.eq_false_or_eq_true (Op.bytesLess la lb) with hc17 | hc17
                      · rw [hc17]
                        refine L_op rfl (X_move (v := (.bool (true))) rfl ?_)
                        refine L_op rfl (X_move (v := (.bool (true))) rfl ?_)
                        refine L_gy (dj := 66) rfl rfl rfl (X_move (v := va) rfl ?_)
                        refine L_gy (dj := 66) rfl rfl rfl (X_str (v := va) (l := la) Tryd.underlying35 Tryd.underlying5 Tryd.underlying9 rfl ha ?_)
                        refine L_gy (dj := 66) rfl rfl rfl (X_move (v := vb) rfl ?_)
                        refine L_gy (dj := 66) rfl rfl rfl (X_str (v := vb) (l := lb) Tryd.underlying35 Tryd.underlying5 Tryd.underlying9 rfl hb ?_)
                        refine L_gy (dj := 66) rfl rfl rfl (X_scmp (a := la) (b := lb) (r := true) rfl rfl rfl hc17 ?_)
                        refine L_op rfl (X_pick (t := true) (v := (.bool (true))) rfl rfl ?_)
                        refine L_op rfl (X_cmpBool (a := true) (b := true) (r := false) Tryd.underlying4 rfl rfl (.inr ⟨rfl, rfl⟩) ?_)
                        refine L_nil ?_
                        refine T_n ?_
                        refine W_cf rfl ?_
                        refine W_skip ?_
                        refine T_n ?_
                        refine W_seq ?_
                        refine W_reg ?_
                        refine L_op rfl (X_assign (v := (.slice none 0 0)) rfl ?_)
                        refine L_nil ?_
                        refine T_n ?_
                        refine W_seq ?_
                        refine W_seq ?_
                        refine W_reg ?_
                        refine L_op rfl (X_assign (v := (.int .i64 (0))) rfl ?_)
                        refine L_nil ?_
                        refine T_n ?_
                        refine W_block ?_
                        refine W_loop (α := Nat × Value × List IE) [10, 11, 74, 75, 76, 77, 78, 79, 80, 81, 82, 83, 84, 85, 86] (fun ⟨i, u, fs⟩ => [(11, (.int .i64 (((i : Nat) : Int)))), (10, u)]) (fun ⟨i, u, fs⟩ w_ => ((i : Nat) : Int) ≤ n ∧ NOwn LT w_ 43 5 n0 w_.heap.size u fs ∧ dsI fs = dsN i ∧ TabR w_ ∧ Upd (fun i => n0 ≤ i) w w_) (fun ⟨i, u, fs⟩ => n.toNat - i) ⟨rfl, (0, .slice none 0 0, []), ⟨by omega, NOwn.nil _ _ _ _ _, rfl, hT, hU⟩, Out.refl _ _, ⟨rfl, rfl, trivial⟩⟩ ?_
                        rintro ⟨i, u, fs⟩ w18 _ ⟨hin_, hN, hfs, hT, hU⟩
                        have hsz_ := hU.size
                        obtain ⟨s0, hs0⟩ : ∃ n, n = w18.heap.size := ⟨_, rfl⟩
                        rw [← hs0] at hN
                        have hfl : fs.length = i := by have h := congrArg List.length hfs; unfold dsN at h; rw [dsI_len, List.length_map, List.length_range] at h; exact h
                        refine W_seq ?_
                        refine W_seq ?_
                        refine W_reg ?_
                        refine L_op rfl (X_move (v := (.int .i64 (((i : Nat) : Int)))) rfl ?_)
                        refine L_op rfl (X_move (v := (.int .i64 (n))) rfl ?_)
                        by_cases hc19 : (((i : Nat) : Int) : Int) < (n)
                        · refine L_op rfl (X_cmp (k := .i64) (a := ((i : Nat) : Int)) (b := n) (r := true) rfl rfl rfl (decide_eq_true (p := ((((i : Nat) : Int)) : Int) < ((n) : Int)) (by omega)) ?_)
                          refine L_nil ?_
                          refine T_n ?_
                          refine W_ct rfl ?_
                          refine W_skip ?_
                          refine T_n ?_
                          refine W_seq ?_
                          refine W_block ?_
                          refine W_reg ?_
                          refine L_op rfl (X_move (v := u) rfl ?_)
                          refine L_op rfl (X_move (v := (.int .i64 (((i : Nat) : Int)))) rfl ?_)
                          refine L_op rfl (X_arith (k := .i64) (a := ((i : Nat) : Int)) (b := 1) (r := ((i + 1 : Nat) : Int)) rfl rfl rfl (iadd64 (by omega) (by omega) (by omega)) ?_)
                          refine L_op rfl (X_convInt (k := .i64) (a := ((i + 1 : Nat) : Int)) (r := ((UInt8.ofNat (i + 1)).toNat : Int)) (by rw [Tryd.underlying3]; rfl) Tryd.underlying5 rfl (u8_wrap _) ?_)
                          refine L_op rfl (X_buildSlice1 (vs := [(.int .u8 (((UInt8.ofNat (i + 1)).toNat : Int)))]) S35 (by decide) rfl rfl (List.forall_mem_cons.2 ⟨rfl, (fun _ h => by cases h)⟩) ?_)
                          intro b20 w20 hn20
                          have hbn20 := hn20.num; have hbs20 := hn20.size
                          replace hN := hN.ext hn20.ext
                          replace hT := hT.ext hn20.ext
                          replace hU := hU.trans (Ext.upd hn20.ext)
                          have hB20 := hn20.blk
                          obtain ⟨bk, hbk⟩ : ∃ n, n = b20 := ⟨_, rfl⟩
                          rw [← hbk] at hB20 ⊢
                          have hKo : Own w20 s0 5 1 (.slice (some ⟨bk, 0, none⟩) 1 1) ([UInt8.ofNat (i + 1)] : List UInt8).length (([UInt8.ofNat (i + 1)] : List UInt8).map byteV) := hB20.own (by omega) (Nat.le_refl _) (by decide) (Nat.le_refl _)
                          have hKb : ∀ b, obk (.slice (some ⟨bk, 0, none⟩) 1 1) = some b → b = bk := fun b hb => (Option.some.inj hb).symm
                          refine L_op rfl (X_build (built43' hKo.sv [UInt8.ofNat (i + 1)]) ?_)
                          refine L_op rfl (X_buildSliceL (vs := [.agg (itC ((.slice (some ⟨bk, 0, none⟩) 1 1, .slice none 0 0, [UInt8.ofNat (i + 1)], [], ptZ, 0) : IE)).toArray]) (c := itC ((.slice (some ⟨bk, 0, none⟩) 1 1, .slice none 0 0, [UInt8.ofNat (i + 1)], [], ptZ, 0) : IE)) S22 (by decide) rfl rfl (List.forall_mem_cons.2 ⟨rfl, fun _ h => by cases h⟩) rfl ?_)
                          intro bq wq hnq
                          have hbnq := hnq.num; have hbsq := hnq.size
                          replace hN := hN.ext hnq.ext
                          replace hT := hT.ext hnq.ext
                          replace hU := hU.trans (Ext.upd hnq.ext)
                          replace hKo := hKo.ext hnq.ext
                          have hBq := hnq.blk
                          refine L_op rfl (X_append (B := n0) (n := fs.length) (s := u) (x := (.slice (some ⟨bq, 0, none⟩) 1 1)) S22 ⟨_, Tryd.underlying22⟩ rfl rfl hN.1 (m := 1) (ys := itC ((.slice (some ⟨bk, 0, none⟩) 1 1, .slice none 0 0, [UInt8.ofNat (i + 1)], [], ptZ, 0) : IE)) (hBq.rd (o := 0) (n := 1) (c := 1) (sz := 8) (by decide) (by decide) rfl (fun j u hj => by rw [Nat.zero_add]; simpa using hj)) (itC_one hKo.sv.one rfl) (by unfold maxLen; omega) (by omega) (by omega) ?_)
                          intro v5 w5 hO5 hu5 ho5
                          have hz5 := hu5.size
                          have hN5 := NOwn.push (L := LT) (e := ((.slice (some ⟨bk, 0, none⟩) 1 1, .slice none 0 0, [UInt8.ofNat (i + 1)], [], ptZ, 0) : IE)) (hi' := wq.heap.size) (by decide) hN hO5 hu5 (fun s hs => by have h1 : s = (Value.slice (some ⟨bk, 0, none⟩) 1 1, [UInt8.ofNat (i + 1)]) ∨ s = (Value.slice none 0 0, []) := by { simpa [LT] using hs }; rcases h1 with rfl | rfl; (· exact ⟨hKo.more (by omega), fun b hb => (hKo.lt hb).2⟩); (· exact BOwn.nil _ _ _ _)) (by omega) (by omega)
                          replace hT := hT.upd hu5 fun i h1 h2 h => by have := (hN.1.lt h).1; omega
                          replace hU := hU.trans (hu5.mono fun i _ h => by have := (hN.1.lt h).1; show n0 ≤ i; omega)
                          refine L_op rfl (X_assign (v := v5) rfl ?_)
                          refine L_nil ?_
                          refine B_n ?_
                          refine T_n ?_
                          refine W_reg ?_
                          refine L_op rfl (X_move (v := (.int .i64 (((i : Nat) : Int)))) rfl ?_)
                          refine L_op rfl (X_arith (k := .i64) (a := ((i : Nat) : Int)) (b := 1) (r := ((i + 1 : Nat) : Int)) rfl rfl rfl (iadd64 (by omega) (by omega) (by omega)) ?_)
                          refine L_op rfl (X_assign (v := (.int .i64 (((i + 1 : Nat) : Int)))) rfl ?_)
                          refine L_nil ?_
                          refine T_n ?_
                          exact ⟨rfl, (i + 1, v5, fs ++ [((.slice (some ⟨bk, 0, none⟩) 1 1, .slice none 0 0, [UInt8.ofNat (i + 1)], [], ptZ, 0) : IE)]), ⟨⟨by omega, hN5, by unfold dsI at hfs ⊢; rw [List.map_append, hfs, dsN_step]; rfl, hT, hU⟩, (by show n.toNat - (i + 1) < n.toNat - i; omega)⟩, (Out.mk rfl), ⟨rfl, rfl, trivial⟩⟩
                        · refine L_op rfl (X_cmp (k := .i64) (a := ((i : Nat) : Int)) (b := n) (r := false) rfl rfl rfl (decide_eq_false (p := ((((i : Nat) : Int)) : Int) < ((n) : Int)) (by omega)) ?_)
                          have hin : ((i : Nat) : Int) = n := by omega
                          have hptN := pts_of hfs (dsN_ok i)
                          refine L_nil ?_
                          refine T_n ?_
                          refine W_cf rfl ?_
                          refine W_exit ?_
                          refine T_e ?_
                          refine T_e ?_
                          refine B_x ?_
                          refine T_n ?_
                          refine W_seq ?_
                          refine W_reg ?_
                          refine L_op rfl (X_buildSlice1 (vs := [(.int .u8 (107))]) S35 (by decide) rfl rfl (List.forall_mem_cons.2 ⟨rfl, (fun _ h => by cases h)⟩) ?_)
                          intro b21 w21 hn21
                          have hbn21 := hn21.num; have hbs21 := hn21.size
                          replace hN := hN.ext hn21.ext
                          replace hT := hT.ext hn21.ext
                          replace hU := hU.trans (Ext.upd hn21.ext)
                          have hB21 := hn21.blk
                          refine L_op rfl (X_convMark (l := [(107 : UInt8)]) Tryd.underlying35 Tryd.underlying5 rfl hB21 (fun j u hj => by simpa [byteV] using hj) rfl (by decide) ?_)
                          intro w22 hu22 hc22
                          have hz22 := hu22.size
                          replace hN := hN.upd hu22 fun i h1 h2 h => by have h : i = b21 := h; omega
                          replace hT := hT.upd hu22 fun i h1 h2 h => by have h : i = b21 := h; omega
                          replace hU := hU.trans (hu22.mono fun i _ h => by have h : i = b21 := h; show n0 ≤ i; omega)
                          have hc22_b : ∀ i, rbk (.slice (some ⟨b21, 0, none⟩) 1 1) = some i → i < w22.heap.size := fun i hi => hc22.bound (by decide) hi
                          refine L_op rfl (X_build (built43s' hc22.sv [107]) ?_)
                          obtain ⟨ka, hka⟩ : ∃ x : Value, x = (.slice (some ⟨b21, 0, none⟩) 1 1) := ⟨_, rfl⟩
                          have hkr := hc22; rw [← hka] at hkr; rw [← hka]
                          have hkr_b : ∀ b, rbk ka = some b → b < w22.heap.size := fun b hb => hkr.bound (by decide) hb
                          refine L_op rfl (X_alloc (z := (.agg #[(.slice none 0 0), (.slice none 0 0), (.int .u8 (0)), (.int .u16 (0)), (.int .u16 (0)), (.int .u32 (0)), (.int .u64 (0)), (.int .u16 (0))])) (c := #[(.slice none 0 0), (.slice none 0 0), (.int .u8 (0)), (.int .u16 (0)), (.int .u16 (0)), (.int .u32 (0)), (.int .u64 (0)), (.int .u16 (0))]) Zv43 rfl ?_)
                          intro b23 w23 hn23
                          have hbn23 := hn23.num; have hbs23 := hn23.size
                          replace hN := hN.ext hn23.ext
                          replace hT := hT.ext hn23.ext
                          replace hU := hU.trans (Ext.upd hn23.ext)
                          replace hkr := hkr.ext hn23.ext
                          have hB23 := hn23.blk
                          refine L_op0 (X_storeW (b := b23) (ys := itC ((ka, .slice none 0 0, [107], [], ptZ, 3) : IE)) A43 rfl rfl (itC_one hkr.sv.one rfl) rfl hB23 rfl ?_)
                          intro w24 hu24 hb24
                          have hz24 := hu24.size
                          replace hN := hN.upd hu24 fun i h1 h2 h => by have h : i = b23 := h; omega
                          replace hT := hT.upd hu24 fun i h1 h2 h => by have h : i = b23 := h; omega
                          replace hU := hU.trans (hu24.mono fun i _ h => by have h : i = b23 := h; show n0 ≤ i; omega)
                          replace hkr := hkr.upd hu24 fun i hi h => by have hi := hkr_b _ hi; have h : i = b23 := h; omega
                          replace hB23 := hb24
                          refine L_nil ?_
                          refine T_n ?_
                          refine W_seq ?_
                          refine W_reg ?_
                          refine L_op rfl (X_move (v := u) rfl ?_)
                          refine L_op rfl (X_fn (vs := [u]) en14 rfl (CT.mono (c_rightI u fs _ n0 s0 (by omega) hN.rd hptN) ?_))
                          rintro _ w25 ⟨rfl, hu25⟩
                          have hz25 := hu25.size
                          replace hN := hN.ext hu25
                          replace hT := hT.ext hu25
                          replace hU := hU.trans (Ext.upd hu25)
                          replace hkr := hkr.ext hu25
                          replace hB23 := hB23.ext hu25
                          rw [hfs, dsN_dec]
                          rcases Bool.eq_false_or_eq_true (decide (i ≤ 6)) with hc26 | hc26
                          · rw [hc26]
                            refine L_op rfl (X_move (v := (.int .i64 (n))) rfl ?_)
                            have h6 := of_decide_eq_true hc26
                            refine L_op rfl (X_cmp (k := .i64) (a := n) (b := 6) (r := true) rfl rfl rfl (decide_eq_true (p := ((n) : Int) ≤ ((6) : Int)) (by omega)) ?_)
                            refine L_op rfl (X_cmpBool (a := true) (b := true) (r := true) Tryd.underlying4 rfl rfl (.inl ⟨rfl, rfl⟩) ?_)
                            refine L_op rfl (X_move (v := (.bool (true))) rfl ?_)
                            refine L_gy (dj := 95) rfl rfl rfl (X_loadA (p := (ptr b23 (0))) (xs := itC ((ka, .slice none 0 0, [107], [], ptZ, 3) : IE)) A43 rfl hB23.atAll rfl ?_)
                            refine L_gy (dj := 95) rfl rfl rfl (X_buildSliceL (vs := [.agg (itC ((ka, .slice none 0 0, [107], [], ptZ, 3))).toArray]) (c := itC ((ka, .slice none 0 0, [107], [], ptZ, 3))) S22 (by decide) rfl rfl (List.forall_mem_cons.2 ⟨rfl, fun _ h => by cases h⟩) rfl ?_)
                            intro bk wk hnk
                            have hbnk := hnk.num; have hbsk := hnk.size
                            replace hN := hN.ext hnk.ext
                            replace hT := hT.ext hnk.ext
                            replace hU := hU.trans (Ext.upd hnk.ext)
                            replace hkr := hkr.ext hnk.ext
                            replace hB23 := hB23.ext hnk.ext
                            have hBk := hnk.blk
                            obtain ⟨uk, huk_⟩ : ∃ n, n = wk.heap.size := ⟨_, rfl⟩
                            have hlk := one_row (e := ((ka, .slice none 0 0, [107], [], ptZ, 3))) (up := uk) hBk (by omega) ⟨hkr, fun b hb => ⟨Nat.zero_le _, by have := hkr_b b hb; omega⟩⟩ (BRd.nil _ _ _)
                            refine L_gy (dj := 95) rfl rfl rfl (X_fn (vs := [(.slice (some ⟨bk, 0, none⟩) 1 1)]) en14 rfl (CT.mono (c_rightI _ [((ka, .slice none 0 0, [107], [], ptZ, 3) : IE)] _ 0 uk (by omega) hlk (fun e he => by have h : e = ((ka, .slice none 0 0, [107], [], ptZ, 3) : IE) := (by simpa using he); subst h; exact ItS)) ?_))
                            rintro _ w27 ⟨rfl, hu27⟩
                            have hz27 := hu27.size
                            replace hN := hN.ext hu27
                            replace hT := hT.ext hu27
                            replace hU := hU.trans (Ext.upd hu27)
                            replace hkr := hkr.ext hu27
                            replace hB23 := hB23.ext hu27
                            replace hlk := hlk.ext hu27
                            rw [show decide (RightI (dsI [((ka, .slice none 0 0, [107], [], ptZ, 3) : IE)])) = false from decide_eq_false IWS_not]
                            refine L_gy (dj := 95) rfl rfl rfl (X_not (b := false) (r := true) rfl rfl ?_)
                            refine L_op rfl (X_pick (t := true) (v := (.bool (true))) rfl rfl ?_)
                            refine L_op rfl (X_move (v := (.bool (true))) rfl ?_)
                            refine L_gy (dj := 101) rfl rfl rfl (X_fn (vs := [(.slice none 0 0)]) en14 rfl (CT.mono (c_rightI _ [] _ 0 0 (Nat.zero_le _) (NRd.nil _ _ _) (fun e he => by cases he)) ?_))
                            rintro _ w28 ⟨rfl, hu28⟩
                            have hz28 := hu28.size
                            replace hN := hN.ext hu28
                            replace hT := hT.ext hu28
                            replace hU := hU.trans (Ext.upd hu28)
                            replace hkr := hkr.ext hu28
                            replace hB23 := hB23.ext hu28
                            replace hlk := hlk.ext hu28
                            rw [show decide (RightI (dsI [])) = true from decide_eq_true IW0_right]
                            refine L_op rfl (X_pick (t := true) (v := (.bool (true))) rfl rfl ?_)
                            refine L_op rfl (X_move (v := (.bool (true))) rfl ?_)
                            refine L_gy (dj := 104) rfl rfl rfl (X_move (v := u) rfl ?_)
                            refine L_gy (dj := 104) rfl rfl rfl (X_move (v := u) rfl ?_)
                            refine L_gy (dj := 104) rfl rfl rfl (X_fn (vs := [u, u]) en15 rfl (CT.mono (c_sameI u u fs fs _ n0 s0 n0 s0 (by omega) (by omega) hN.rd hN.rd) ?_))
                            rintro _ w29 ⟨⟨g29, rfl, hg29⟩, hu29⟩
                            have hz29 := hu29.size
                            replace hN := hN.ext hu29
                            replace hT := hT.ext hu29
                            replace hU := hU.trans (Ext.upd hu29)
                            replace hkr := hkr.ext hu29
                            replace hB23 := hB23.ext hu29
                            replace hlk := hlk.ext hu29
                            obtain rfl : g29 = true := hg29.2 rfl
                            refine L_op rfl (X_pick (t := true) (v := (.bool (true))) rfl rfl ?_)
                            refine L_op rfl (X_move (v := (.bool (true))) rfl ?_)
                            refine L_gy (dj := 109) rfl rfl rfl (X_fn (vs := []) en9 rfl (CT.mono (c_wakes _ hT) ?_))
                            rintro vb30 w30 ⟨hvb30, hu30⟩
                            have hz30 := hu30.size
                            replace hN := hN.ext hu30
                            replace hT := hT.ext hu30
                            replace hU := hU.trans (Ext.upd hu30)
                            replace hkr := hkr.ext hu30
                            replace hB23 := hB23.ext hu30
                            replace hlk := hlk.ext hu30
                            subst hvb30
                            refine L_op rfl (X_pick (t := true) (v := (.bool (true))) rfl rfl ?_)
                            refine L_op rfl (X_assign (v := (.bool (true))) rfl ?_)
                            refine L_nil ?_
                            refine T_n ?_
                            refine W_ret ?_
                            exact BQ_r (End_1 Tryd.results5 (v := .bool true) rfl ⟨rfl, hU.own hn0⟩)
                          · rw [hc26]
                            refine L_op rfl (X_move (v := (.int .i64 (n))) rfl ?_)
                            have h6 := of_decide_eq_false hc26
                            refine L_op rfl (X_cmp (k := .i64) (a := n) (b := 6) (r := false) rfl rfl rfl (decide_eq_false (p := ((n) : Int) ≤ ((6) : Int)) (by omega)) ?_)
                            refine L_op rfl (X_cmpBool (a := false) (b := false) (r := true) Tryd.underlying4 rfl rfl (.inl ⟨rfl, rfl⟩) ?_)
                            refine L_op rfl (X_move (v := (.bool (true))) rfl ?_)
                            refine L_gy (dj := 95) rfl rfl rfl (X_loadA (p := (ptr b23 (0))) (xs := itC ((ka, .slice none 0 0, [107], [], ptZ, 3) : IE)) A43 rfl hB23.atAll rfl ?_)
                            refine L_gy (dj := 95) rfl rfl rfl (X_buildSliceL (vs := [.agg (itC ((ka, .slice none 0 0, [107], [], ptZ, 3))).toArray]) (c := itC ((ka, .slice none 0 0, [107], [], ptZ, 3))) S22 (by decide) rfl rfl (List.forall_mem_cons.2 ⟨rfl, fun _ h => by cases h⟩) rfl ?_)
                            intro bk wk hnk
                            have hbnk := hnk.num; have hbsk := hnk.size
                            replace hN := hN.ext hnk.ext
                            replace hT := hT.ext hnk.ext
                            replace hU := hU.trans (Ext.upd hnk.ext)
                            replace hkr := hkr.ext hnk.ext
                            replace hB23 := hB23.ext hnk.ext
                            have hBk := hnk.blk
                            obtain ⟨uk, huk_⟩ : ∃ n, n = wk.heap.size := ⟨_, rfl⟩
                            have hlk := one_row (e := ((ka, .slice none 0 0, [107], [], ptZ, 3))) (up := uk) hBk (by omega) ⟨hkr, fun b hb => ⟨Nat.zero_le _, by have := hkr_b b hb; omega⟩⟩ (BRd.nil _ _ _)
                            refine L_gy (dj := 95) rfl rfl rfl (X_fn (vs := [(.slice (some ⟨bk, 0, none⟩) 1 1)]) en14 rfl (CT.mono (c_rightI _ [((ka, .slice none 0 0, [107], [], ptZ, 3) : IE)] _ 0 uk (by omega) hlk (fun e he => by have h : e = ((ka, .slice none 0 0, [107], [], ptZ, 3) : IE) := (by simpa using he); subst h; exact ItS)) ?_))
                            rintro _ w31 ⟨rfl, hu31⟩
                            have hz31 := hu31.size
                            replace hN := hN.ext hu31
                            replace hT := hT.ext hu31
                            replace hU := hU.trans (Ext.upd hu31)
                            replace hkr := hkr.ext hu31
                            replace hB23 := hB23.ext hu31
                            replace hlk := hlk.ext hu31
                            rw [show decide (RightI (dsI [((ka, .slice none 0 0, [107], [], ptZ, 3) : IE)])) = false from decide_eq_false IWS_not]
                            refine L_gy (dj := 95) rfl rfl rfl (X_not (b := false) (r := true) rfl rfl ?_)
                            refine L_op rfl (X_pick (t := true) (v := (.bool (true))) rfl rfl ?_)
                            refine L_op rfl (X_move (v := (.bool (true))) rfl ?_)
                            refine L_gy (dj := 101) rfl rfl rfl (X_fn (vs := [(.slice none 0 0)]) en14 rfl (CT.mono (c_rightI _ [] _ 0 0 (Nat.zero_le _) (NRd.nil _ _ _) (fun e he => by cases he)) ?_))
                            rintro _ w32 ⟨rfl, hu32⟩
                            have hz32 := hu32.size
                            replace hN := hN.ext hu32
                            replace hT := hT.ext hu32
                            replace hU := hU.trans (Ext.upd hu32)
                            replace hkr := hkr.ext hu32
                            replace hB23 := hB23.ext hu32
                            replace hlk := hlk.ext hu32
                            rw [show decide (RightI (dsI [])) = true from decide_eq_true IW0_right]
                            refine L_op rfl (X_pick (t := true) (v := (.bool (true))) rfl rfl ?_)
                            refine L_op rfl (X_move (v := (.bool (true))) rfl ?_)
                            refine L_gy (dj := 104) rfl rfl rfl (X_move (v := u) rfl ?_)
                            refine L_gy (dj := 104) rfl rfl rfl (X_move (v := u) rfl ?_)
                            refine L_gy (dj := 104) rfl rfl rfl (X_fn (vs := [u, u]) en15 rfl (CT.mono (c_sameI u u fs fs _ n0 s0 n0 s0 (by omega) (by omega) hN.rd hN.rd) ?_))
                            rintro _ w33 ⟨⟨g33, rfl, hg33⟩, hu33⟩
                            have hz33 := hu33.size
                            replace hN := hN.ext hu33
                            replace hT := hT.ext hu33
                            replace hU := hU.trans (Ext.upd hu33)
                            replace hkr := hkr.ext hu33
                            replace hB23 := hB23.ext hu33
                            replace hlk := hlk.ext hu33
                            obtain rfl : g33 = true := hg33.2 rfl
                            refine L_op rfl (X_pick (t := true) (v := (.bool (true))) rfl rfl ?_)
                            refine L_op rfl (X_move (v := (.bool (true))) rfl ?_)
                            refine L_gy (dj := 109) rfl rfl rfl (X_fn (vs := []) en9 rfl (CT.mono (c_wakes _ hT) ?_))
                            rintro vb34 w34 ⟨hvb34, hu34⟩
                            have hz34 := hu34.size
                            replace hN := hN.ext hu34
                            replace hT := hT.ext hu34
                            replace hU := hU.trans (Ext.upd hu34)
                            replace hkr := hkr.ext hu34
                            replace hB23 := hB23.ext hu34
                            replace hlk := hlk.ext hu34
                            subst hvb34
                            refine L_op rfl (X_pick (t := true) (v := (.bool (true))) rfl rfl ?_)
                            refine L_op rfl (X_assign (v := (.bool (true))) rfl ?_)
                            refine L_nil ?_
                            refine T_n ?_
                            refine W_ret ?_
                            exact BQ_r (End_1 Tryd.results5 (v := .bool true) rfl ⟨rfl, hU.own hn0⟩)
                      · rw [hc17]
                        refine L_op rfl (X_move (v := (.bool (true))) rfl ?_)
                        refine L_op rfl (X_move (v := (.bool (true))) rfl ?_)
                        refine L_gy (dj := 66) rfl rfl rfl (X_move (v := va) rfl ?_)
                        refine L_gy (dj := 66) rfl rfl rfl (X_str (v := va) (l := la) Tryd.underlying35 Tryd.underlying5 Tryd.underlying9 rfl ha ?_)
                        refine L_gy (dj := 66) rfl rfl rfl (X_move (v := vb) rfl ?_)
                        refine L_gy (dj := 66) rfl rfl rfl (X_str (v := vb) (l := lb) Tryd.underlying35 Tryd.underlying5 Tryd.underlying9 rfl hb ?_)
                        refine L_gy (dj := 66) rfl rfl rfl (X_scmp (a := la) (b := lb) (r := false) rfl rfl rfl hc17 ?_)
                        refine L_op rfl (X_pick (t := true) (v := (.bool (false))) rfl rfl ?_)
                        refine L_op rfl (X_cmpBool (a := false) (b := false) (r := false) Tryd.underlying4 rfl rfl (.inr ⟨rfl, rfl⟩) ?_)
                        refine L_nil ?_
                        refine T_n ?_
                        refine W_cf rfl ?_
                        refine W_skip ?_
                        refine T_n ?_
                        refine W_seq ?_
                        refine W_reg ?_
                        refine L_op rfl (X_assign (v := (.slice none 0 0)) rfl ?_)
                        refine L_nil ?_
                        refine T_n ?_
                        refine W_seq ?_
                        refine W_seq ?_
                        refine W_reg ?_
                        refine L_op rfl (X_assign (v := (.int .i64 (0))) rfl ?_)
                        refine L_nil ?_
                        refine T_n ?_
                        refine W_block ?_
                        refine W_loop (α := Nat × Value × List IE) [10, 11, 74, 75, 76, 77, 78, 79, 80, 81, 82, 83, 84, 85, 86] (fun ⟨i, u, fs⟩ => [(11, (.int .i64 (((i : Nat) : Int)))), (10, u)]) (fun ⟨i, u, fs⟩ w_ => ((i : Nat) : Int) ≤ n ∧ NOwn LT w_ 43 5 n0 w_.heap.size u fs ∧ dsI fs = dsN i ∧ TabR w_ ∧ Upd (fun i => n0 ≤ i) w w_) (fun ⟨i, u, fs⟩ => n.toNat - i) ⟨rfl, (0, .slice none 0 0, []), ⟨by omega, NOwn.nil _ _ _ _ _, rfl, hT, hU⟩, Out.refl _ _, ⟨rfl, rfl, trivial⟩⟩ ?_
                        rintro ⟨i, u, fs⟩ w35 _ ⟨hin_, hN, hfs, hT, hU⟩
                        have hsz_ := hU.size
                        obtain ⟨s0, hs0⟩ : ∃ n, n = w35.heap.size := ⟨_, rfl⟩
                        rw [← hs0] at hN
                        have hfl : fs.length = i := by have h := congrArg List.length hfs; unfold dsN at h; rw [dsI_len, List.length_map, List.length_range] at h; exact h
                        refine W_seq ?_
                        refine W_seq ?_
                        refine W_reg ?_
                        refine L_op rfl (X_move (v := (.int .i64 (((i : Nat) : Int)))) rfl ?_)
                        refine L_op rfl (X_move (v := (.int .i64 (n))) rfl ?_)
                        by_cases hc36 : (((i : Nat) : Int) : Int) < (n)
                        · refine L_op rfl (X_cmp (k := .i64) (a := ((i : Nat) : Int)) (b := n) (r := true) rfl rfl rfl (decide_eq_true (p := ((((i : Nat) : Int)) : Int) < ((n) : Int)) (by omega)) ?_)
                          refine L_nil ?_
                          refine T_n ?_
                          refine W_ct rfl ?_
                          refine W_skip ?_
                          refine T_n ?_
                          refine W_seq ?_
                          refine W_block ?_
                          refine W_reg ?_
                          refine L_op rfl (X_move (v := u) rfl ?_)
                          refine L_op rfl (X_move (v := (.int .i64 (((i : Nat) : Int)))) rfl ?_)
                          refine L_op rfl (X_arith (k := .i64) (a := ((i : Nat) : Int)) (b := 1) (r := ((i + 1 : Nat) : Int)) rfl rfl rfl (iadd64 (by omega) (by omega) (by omega)) ?_)
                          refine L_op rfl (X_convInt (k := .i64) (a := ((i + 1 : Nat) : Int)) (r := ((UInt8.ofNat (i + 1)).toNat : Int)) (by rw [Tryd.underlying3]; rfl) Tryd.underlying5 rfl (u8_wrap _) ?_)
                          refine L_op rfl (X_buildSlice1 (vs := [(.int .u8 (((UInt8.ofNat (i + 1)).toNat : Int)))]) S35 (by decide) rfl rfl (List.forall_mem_cons.2 ⟨rfl, (fun _ h => by cases h)⟩) ?_)
                          intro b37 w37 hn37
                          have hbn37 := hn37.num; have hbs37 := hn37.size
                          replace hN := hN.ext hn37.ext
                          replace hT := hT.ext hn37.ext
                          replace hU := hU.trans (Ext.upd hn37.ext)
                          have hB37 := hn37.blk
                          obtain ⟨bk, hbk⟩ : ∃ n, n = b37 := ⟨_, rfl⟩
                          rw [← hbk] at hB37 ⊢
                          have hKo : Own w37 s0 5 1 (.slice (some ⟨bk, 0, none⟩) 1 1) ([UInt8.ofNat (i + 1)] : List UInt8).length (([UInt8.ofNat (i + 1)] : List UInt8).map byteV) := hB37.own (by omega) (Nat.le_refl _) (by decide) (Nat.le_refl _)
                          have hKb : ∀ b, obk (.slice (some ⟨bk, 0, none⟩) 1 1) = some b → b = bk := fun b hb => (Option.some.inj hb).symm
                          refine L_op rfl (X_build (built43' hKo.sv [UInt8.ofNat (i + 1)]) ?_)
                          refine L_op rfl (X_buildSliceL (vs := [.agg (itC ((.slice (some ⟨bk, 0, none⟩) 1 1, .slice none 0 0, [UInt8.ofNat (i + 1)], [], ptZ, 0) : IE)).toArray]) (c := itC ((.slice (some ⟨bk, 0, none⟩) 1 1, .slice none 0 0, [UInt8.ofNat (i + 1)], [], ptZ, 0) : IE)) S22 (by decide) rfl rfl (List.forall_mem_cons.2 ⟨rfl, fun _ h => by cases h⟩) rfl ?_)
                          intro bq wq hnq
                          have hbnq := hnq.num; have hbsq := hnq.size
                          replace hN := hN.ext hnq.ext
                          replace hT := hT.ext hnq.ext
                          replace hU := hU.trans (Ext.upd hnq.ext)
                          replace hKo := hKo.ext hnq.ext
                          have hBq := hnq.blk
                          refine L_op rfl (X_append (B := n0) (n := fs.length) (s := u) (x := (.slice (some ⟨bq, 0, none⟩) 1 1)) S22 ⟨_, Tryd.underlying22⟩ rfl rfl hN.1 (m := 1) (ys := itC ((.slice (some ⟨bk, 0, none⟩) 1 1, .slice none 0 0, [UInt8.ofNat (i + 1)], [], ptZ, 0) : IE)) (hBq.rd (o := 0) (n := 1) (c := 1) (sz := 8) (by decide) (by decide) rfl (fun j u hj => by rw [Nat.zero_add]; simpa using hj)) (itC_one hKo.sv.one rfl) (by unfold maxLen; omega) (by omega) (by omega) ?_)
                          intro v5 w5 hO5 hu5 ho5
                          have hz5 := hu5.size
                          have hN5 := NOwn.push (L := LT) (e := ((.slice (some ⟨bk, 0, none⟩) 1 1, .slice none 0 0, [UInt8.ofNat (i + 1)], [], ptZ, 0) : IE)) (hi' := wq.heap.size) (by decide) hN hO5 hu5 (fun s hs => by have h1 : s = (Value.slice (some ⟨bk, 0, none⟩) 1 1, [UInt8.ofNat (i + 1)]) ∨ s = (Value.slice none 0 0, []) := by { simpa [LT] using hs }; rcases h1 with rfl | rfl; (· exact ⟨hKo.more (by omega), fun b hb => (hKo.lt hb).2⟩); (· exact BOwn.nil _ _ _ _)) (by omega) (by omega)
                          replace hT := hT.upd hu5 fun i h1 h2 h => by have := (hN.1.lt h).1; omega
                          replace hU := hU.trans (hu5.mono fun i _ h => by have := (hN.1.lt h).1; show n0 ≤ i; omega)
                          refine L_op rfl (X_assign (v := v5) rfl ?_)
                          refine L_nil ?_
                          refine B_n ?_
                          refine T_n ?_
                          refine W_reg ?_
                          refine L_op rfl (X_move (v := (.int .i64 (((i : Nat) : Int)))) rfl ?_)
                          refine L_op rfl (X_arith (k := .i64) (a := ((i : Nat) : Int)) (b := 1) (r := ((i + 1 : Nat) : Int)) rfl rfl rfl (iadd64 (by omega) (by omega) (by omega)) ?_)
                          refine L_op rfl (X_assign (v := (.int .i64 (((i + 1 : Nat) : Int)))) rfl ?_)
                          refine L_nil ?_
                          refine T_n ?_
                          exact ⟨rfl, (i + 1, v5, fs ++ [((.slice (some ⟨bk, 0, none⟩) 1 1, .slice none 0 0, [UInt8.ofNat (i + 1)], [], ptZ, 0) : IE)]), ⟨⟨by omega, hN5, by unfold dsI at hfs ⊢; rw [List.map_append, hfs, dsN_step]; rfl, hT, hU⟩, (by show n.toNat - (i + 1) < n.toNat - i; omega)⟩, (Out.mk rfl), ⟨rfl, rfl, trivial⟩⟩
                        · refine L_op rfl (X_cmp (k := .i64) (a := ((i : Nat) : Int)) (b := n) (r := false) rfl rfl rfl (decide_eq_false (p := ((((i : Nat) : Int)) : Int) < ((n) : Int)) (by omega)) ?_)
                          have hin : ((i : Nat) : Int) = n := by omega
                          have hptN := pts_of hfs (dsN_ok i)
                          refine L_nil ?_
                          refine T_n ?_
                          refine W_cf rfl ?_
                          refine W_exit ?_
                          refine T_e ?_
                          refine T_e ?_
                          refine B_x ?_
                          refine T_n ?_
                          refine W_seq ?_
                          refine W_reg ?_
                          refine L_op rfl (X_buildSlice1 (vs := [(.int .u8 (107))]) S35 (by decide) rfl rfl (List.forall_mem_cons.2 ⟨rfl, (fun _ h => by cases h)⟩) ?_)
                          intro b38 w38 hn38
                          have hbn38 := hn38.num; have hbs38 := hn38.size
                          replace hN := hN.ext hn38.ext
                          replace hT := hT.ext hn38.ext
                          replace hU := hU.trans (Ext.upd hn38.ext)
                          have hB38 := hn38.blk
                          refine L_op rfl (X_convMark (l := [(107 : UInt8)]) Tryd.underlying35 Tryd.underlying5 rfl hB38 (fun j u hj => by simpa [byteV] using hj) rfl (by decide) ?_)
                          intro w39 hu39 hc39
                          have hz39 := hu39.size
                          replace hN := hN.upd hu39 fun i h1 h2 h => by have h : i = b38 := h; omega
                          replace hT := hT.upd hu39 fun i h1 h2 h => by have h : i = b38 := h; omega
                          replace hU := hU.trans (hu39.mono fun i _ h => by have h : i = b38 := h; show n0 ≤ i; omega)
                          have hc39_b : ∀ i, rbk (.slice (some ⟨b38, 0, none⟩) 1 1) = some i → i < w39.heap.size := fun i hi => hc39.bound (by decide) hi
                          refine L_op rfl (X_build (built43s' hc39.sv [107]) ?_)
                          obtain ⟨ka, hka⟩ : ∃ x : Value, x = (.slice (some ⟨b38, 0, none⟩) 1 1) := ⟨_, rfl⟩
                          have hkr := hc39; rw [← hka] at hkr; rw [← hka]
                          have hkr_b : ∀ b, rbk ka = some b → b < w39.heap.size := fun b hb => hkr.bound (by decide) hb
                          refine L_op rfl (X_alloc (z := (.agg #[(.slice none 0 0), (.slice none 0 0), (.int .u8 (0)), (.int .u16 (0)), (.int .u16 (0)), (.int .u32 (0)), (.int .u64 (0)), (.int .u16 (0))])) (c := #[(.slice none 0 0), (.slice none 0 0), (.int .u8 (0)), (.int .u16 (0)), (.int .u16 (0)), (.int .u32 (0)), (.int .u64 (0)), (.int .u16 (0))]) Zv43 rfl ?_)
                          intro b40 w40 hn40
                          have hbn40 := hn40.num; have hbs40 := hn40.size
                          replace hN := hN.ext hn40.ext
                          replace hT := hT.ext hn40.ext
                          replace hU := hU.trans (Ext.upd hn40.ext)
                          replace hkr := hkr.ext hn40.ext
                          have hB40 := hn40.blk
                          refine L_op0 (X_storeW (b := b40) (ys := itC ((ka, .slice none 0 0, [107], [], ptZ, 3) : IE)) A43 rfl rfl (itC_one hkr.sv.one rfl) rfl hB40 rfl ?_)
                          intro w41 hu41 hb41
                          have hz41 := hu41.size
                          replace hN := hN.upd hu41 fun i h1 h2 h => by have h : i = b40 := h; omega
                          replace hT := hT.upd hu41 fun i h1 h2 h => by have h : i = b40 := h; omega
                          replace hU := hU.trans (hu41.mono fun i _ h => by have h : i = b40 := h; show n0 ≤ i; omega)
                          replace hkr := hkr.upd hu41 fun i hi h => by have hi := hkr_b _ hi; have h : i = b40 := h; omega
                          replace hB40 := hb41
                          refine L_nil ?_
                          refine T_n ?_
                          refine W_seq ?_
                          refine W_reg ?_
                          refine L_op rfl (X_move (v := u) rfl ?_)
                          refine L_op rfl (X_fn (vs := [u]) en14 rfl (CT.mono (c_rightI u fs _ n0 s0 (by omega) hN.rd hptN) ?_))
                          rintro _ w42 ⟨rfl, hu42⟩
                          have hz42 := hu42.size
                          replace hN := hN.ext hu42
                          replace hT := hT.ext hu42
                          replace hU := hU.trans (Ext.upd hu42)
                          replace hkr := hkr.ext hu42
                          replace hB40 := hB40.ext hu42
                          rw [hfs, dsN_dec]
                          rcases Bool.eq_false_or_eq_true (decide (i ≤ 6)) with hc43 | hc43
                          · rw [hc43]
                            refine L_op rfl (X_move (v := (.int .i64 (n))) rfl ?_)
                            have h6 := of_decide_eq_true hc43
                            refine L_op rfl (X_cmp (k := .i64) (a := n) (b := 6) (r := true) rfl rfl rfl (decide_eq_true (p := ((n) : Int) ≤ ((6) : Int)) (by omega)) ?_)
                            refine L_op rfl (X_cmpBool (a := true) (b := true) (r := true) Tryd.underlying4 rfl rfl (.inl ⟨rfl, rfl⟩) ?_)
                            refine L_op rfl (X_move (v := (.bool (true))) rfl ?_)
                            refine L_gy (dj := 95) rfl rfl rfl (X_loadA (p := (ptr b40 (0))) (xs := itC ((ka, .slice none 0 0, [107], [], ptZ, 3) : IE)) A43 rfl hB40.atAll rfl ?_)
                            refine L_gy (dj := 95) rfl rfl rfl (X_buildSliceL (vs := [.agg (itC ((ka, .slice none 0 0, [107], [], ptZ, 3))).toArray]) (c := itC ((ka, .slice none 0 0, [107], [], ptZ, 3))) S22 (by decide) rfl rfl (List.forall_mem_cons.2 ⟨rfl, fun _ h => by cases h⟩) rfl ?_)
                            intro bk wk hnk
                            have hbnk := hnk.num; have hbsk := hnk.size
                            replace hN := hN.ext hnk.ext
                            replace hT := hT.ext hnk.ext
                            replace hU := hU.trans (Ext.upd hnk.ext)
                            replace hkr := hkr.ext hnk.ext
                            replace hB40 := hB40.ext hnk.ext
                            have hBk := hnk.blk
                            obtain ⟨uk, huk_⟩ : ∃ n, n = wk.heap.size := ⟨_, rfl⟩
                            have hlk := one_row (e := ((ka, .slice none 0 0, [107], [], ptZ, 3))) (up := uk) hBk (by omega) ⟨hkr, fun b hb => ⟨Nat.zero_le _, by have := hkr_b b hb; omega⟩⟩ (BRd.nil _ _ _)
                            refine L_gy (dj := 95) rfl rfl rfl (X_fn (vs := [(.slice (some ⟨bk, 0, none⟩) 1 1)]) en14 rfl (CT.mono (c_rightI _ [((ka, .slice none 0 0, [107], [], ptZ, 3) : IE)] _ 0 uk (by omega) hlk (fun e he => by have h : e = ((ka, .slice none 0 0, [107], [], ptZ, 3) : IE) := (by simpa using he); subst h; exact ItS)) ?_))
                            rintro _ w44 ⟨rfl, hu44⟩
                            have hz44 := hu44.size
                            replace hN := hN.ext hu44
                            replace hT := hT.ext hu44
                            replace hU := hU.trans (Ext.upd hu44)
                            replace hkr := hkr.ext hu44
                            replace hB40 := hB40.ext hu44
                            replace hlk := hlk.ext hu44
                            rw [show decide (RightI (dsI [((ka, .slice none 0 0, [107], [], ptZ, 3) : IE)])) = false from decide_eq_false IWS_not]
                            refine L_gy (dj := 95) rfl rfl rfl (X_not (b := false) (r := true) rfl rfl ?_)
                            refine L_op rfl (X_pick (t := true) (v := (.bool (true))) rfl rfl ?_)
                            refine L_op rfl (X_move (v := (.bool (true))) rfl ?_)
                            refine L_gy (dj := 101) rfl rfl rfl (X_fn (vs := [(.slice none 0 0)]) en14 rfl (CT.mono (c_rightI _ [] _ 0 0 (Nat.zero_le _) (NRd.nil _ _ _) (fun e he => by cases he)) ?_))
                            rintro _ w45 ⟨rfl, hu45⟩
                            have hz45 := hu45.size
                            replace hN := hN.ext hu45
                            replace hT := hT.ext hu45
                            replace hU := hU.trans (Ext.upd hu45)
                            replace hkr := hkr.ext hu45
                            replace hB40 := hB40.ext hu45
                            replace hlk := hlk.ext hu45
                            rw [show decide (RightI (dsI [])) = true from decide_eq_true IW0_right]
                            refine L_op rfl (X_pick (t := true) (v := (.bool (true))) rfl rfl ?_)
                            refine L_op rfl (X_move (v := (.bool (true))) rfl ?_)
                            refine L_gy (dj := 104) rfl rfl rfl (X_move (v := u) rfl ?_)
                            refine L_gy (dj := 104) rfl rfl rfl (X_move (v := u) rfl ?_)
                            refine L_gy (dj := 104) rfl rfl rfl (X_fn (vs := [u, u]) en15 rfl (CT.mono (c_sameI u u fs fs _ n0 s0 n0 s0 (by omega) (by omega) hN.rd hN.rd) ?_))
                            rintro _ w46 ⟨⟨g46, rfl, hg46⟩, hu46⟩
                            have hz46 := hu46.size
                            replace hN := hN.ext hu46
                            replace hT := hT.ext hu46
                            replace hU := hU.trans (Ext.upd hu46)
                            replace hkr := hkr.ext hu46
                            replace hB40 := hB40.ext hu46
                            replace hlk := hlk.ext hu46
                            obtain rfl : g46 = true := hg46.2 rfl
                            refine L_op rfl (X_pick (t := true) (v := (.bool (true))) rfl rfl ?_)
                            refine L_op rfl (X_move (v := (.bool (true))) rfl ?_)
                            refine L_gy (dj := 109) rfl rfl rfl (X_fn (vs := []) en9 rfl (CT.mono (c_wakes _ hT) ?_))
                            rintro vb47 w47 ⟨hvb47, hu47⟩
                            have hz47 := hu47.size
                            replace hN := hN.ext hu47
                            replace hT := hT.ext hu47
                            replace hU := hU.trans (Ext.upd hu47)
                            replace hkr := hkr.ext hu47
                            replace hB40 := hB40.ext hu47
                            replace hlk := hlk.ext hu47
                            subst hvb47
                            refine L_op rfl (X_pick (t := true) (v := (.bool (true))) rfl rfl ?_)
                            refine L_op rfl (X_assign (v := (.bool (true))) rfl ?_)
                            refine L_nil ?_
                            refine T_n ?_
                            refine W_ret ?_
                            exact BQ_r (End_1 Tryd.results5 (v := .bool true) rfl ⟨rfl, hU.own hn0⟩)
                          · rw [hc43]
                            refine L_op rfl (X_move (v := (.int .i64 (n))) rfl ?_)
                            have h6 := of_decide_eq_false hc43
                            refine L_op rfl (X_cmp (k := .i64) (a := n) (b := 6) (r := false) rfl rfl rfl (decide_eq_false (p := ((n) : Int) ≤ ((6) : Int)) (by omega)) ?_)
                            refine L_op rfl (X_cmpBool (a := false) (b := false) (r := true) Tryd.underlying4 rfl rfl (.inl ⟨rfl, rfl⟩) ?_)
                            refine L_op rfl (X_move (v := (.bool (true))) rfl ?_)
                            refine L_gy (dj := 95) rfl rfl rfl (X_loadA (p := (ptr b40 (0))) (xs := itC ((ka, .slice none 0 0, [107], [], ptZ, 3) : IE)) A43 rfl hB40.atAll rfl ?_)
                            refine L_gy (dj := 95) rfl rfl rfl (X_buildSliceL (vs := [.agg (itC ((ka, .slice none 0 0, [107], [], ptZ, 3))).toArray]) (c := itC ((ka, .slice none 0 0, [107], [], ptZ, 3))) S22 (by decide) rfl rfl (List.forall_mem_cons.2 ⟨rfl, fun _ h => by cases h⟩) rfl ?_)
                            intro bk wk hnk
                            have hbnk := hnk.num; have hbsk := hnk.size
                            replace hN := hN.ext hnk.ext
                            replace hT := hT.ext hnk.ext
                            replace hU := hU.trans (Ext.upd hnk.ext)
                            replace hkr := hkr.ext hnk.ext
                            replace hB40 := hB40.ext hnk.ext
                            have hBk := hnk.blk
                            obtain ⟨uk, huk_⟩ : ∃ n, n = wk.heap.size := ⟨_, rfl⟩
                            have hlk := one_row (e := ((ka, .slice none 0 0, [107], [], ptZ, 3))) (up := uk) hBk (by omega) ⟨hkr, fun b hb => ⟨Nat.zero_le _, by have := hkr_b b hb; omega⟩⟩ (BRd.nil _ _ _)
                            refine L_gy (dj := 95) rfl rfl rfl (X_fn (vs := [(.slice (some ⟨bk, 0, none⟩) 1 1)]) en14 rfl (CT.mono (c_rightI _ [((ka, .slice none 0 0, [107], [], ptZ, 3) : IE)] _ 0 uk (by omega) hlk (fun e he => by have h : e = ((ka, .slice none 0 0, [107], [], ptZ, 3) : IE) := (by simpa using he); subst h; exact ItS)) ?_))
                            rintro _ w48 ⟨rfl, hu48⟩
                            have hz48 := hu48.size
                            replace hN := hN.ext hu48
                            replace hT := hT.ext hu48
                            replace hU := hU.trans (Ext.upd hu48)
                            replace hkr := hkr.ext hu48
                            replace hB40 := hB40.ext hu48
                            replace hlk := hlk.ext hu48
                            rw [show decide (RightI (dsI [((ka, .slice none 0 0, [107], [], ptZ, 3) : IE)])) = false from decide_eq_false IWS_not]
                            refine L_gy (dj := 95) rfl rfl rfl (X_not (b := false) (r := true) rfl rfl ?_)
                            refine L_op rfl (X_pick (t := true) (v := (.bool (true))) rfl rfl ?_)
                            refine L_op rfl (X_move (v := (.bool (true))) rfl ?_)
                            refine L_gy (dj := 101) rfl rfl rfl (X_fn (vs := [(.slice none 0 0)]) en14 rfl (CT.mono (c_rightI _ [] _ 0 0 (Nat.zero_le _) (NRd.nil _ _ _) (fun e he => by cases he)) ?_))
                            rintro _ w49 ⟨rfl, hu49⟩
                            have hz49 := hu49.size
                            replace hN := hN.ext hu49
                            replace hT := hT.ext hu49
                            replace hU := hU.trans (Ext.upd hu49)
                            replace hkr := hkr.ext hu49
                            replace hB40 := hB40.ext hu49
                            replace hlk := hlk.ext hu49
                            rw [show decide (RightI (dsI [])) = true from decide_eq_true IW0_right]
                            refine L_op rfl (X_pick (t := true) (v := (.bool (true))) rfl rfl ?_)
                            refine L_op rfl (X_move (v := (.bool (true))) rfl ?_)
                            refine L_gy (dj := 104) rfl rfl rfl (X_move (v := u) rfl ?_)
                            refine L_gy (dj := 104) rfl rfl rfl (X_move (v := u) rfl ?_)
                            refine L_gy (dj := 104) rfl rfl rfl (X_fn (vs := [u, u]) en15 rfl (CT.mono (c_sameI u u fs fs _ n0 s0 n0 s0 (by omega) (by omega) hN.rd hN.rd) ?_))
                            rintro _ w50 ⟨⟨g50, rfl, hg50⟩, hu50⟩
                            have hz50 := hu50.size
                            replace hN := hN.ext hu50
                            replace hT := hT.ext hu50
                            replace hU := hU.trans (Ext.upd hu50)
                            replace hkr := hkr.ext hu50
                            replace hB40 := hB40.ext hu50
                            replace hlk := hlk.ext hu50
                            obtain rfl : g50 = true := hg50.2 rfl
                            refine L_op rfl (X_pick (t := true) (v := (.bool (true))) rfl rfl ?_)
                            refine L_op rfl (X_move (v := (.bool (true))) rfl ?_)
                            refine L_gy (dj := 109) rfl rfl rfl (X_fn (vs := []) en9 rfl (CT.mono (c_wakes _ hT) ?_))
                            rintro vb51 w51 ⟨hvb51, hu51⟩
                            have hz51 := hu51.size
                            replace hN := hN.ext hu51
                            replace hT := hT.ext hu51
                            replace hU := hU.trans (Ext.upd hu51)
                            replace hkr := hkr.ext hu51
                            replace hB40 := hB40.ext hu51
                            replace hlk := hlk.ext hu51
                            subst hvb51
                            refine L_op rfl (X_pick (t := true) (v := (.bool (true))) rfl rfl ?_)
                            refine L_op rfl (X_assign (v := (.bool (true))) rfl ?_)
                            refine L_nil ?_
                            refine T_n ?_
                            refine W_ret ?_
                            exact BQ_r (End_1 Tryd.results5 (v := .bool true) rfl ⟨rfl, hU.own hn0⟩)
                    · refine L_gy (dj := 53) rfl rfl rfl (X_cmp (k := .i64) (a := ((lv.length : Nat) : Int)) (b := 16) (r := false) rfl rfl rfl (decide_eq_false (p := ((((lv.length : Nat) : Int)) : Int) ≤ ((16) : Int)) (by omega)) ?_)
                      refine L_op rfl (X_pick (t := true) (v := (.bool (false))) rfl rfl ?_)
                      refine L_op rfl (X_assign (v := (.bool (false))) rfl ?_)
                      refine L_nil ?_
                      refine T_n ?_
                      refine W_seq ?_
                      refine W_seq ?_
                      refine W_reg ?_
                      refine L_op rfl (X_move (v := va) rfl ?_)
                      refine L_op rfl (X_move (v := vv) rfl ?_)
                      refine L_op rfl (X_build (built43ab' ha.sv hv.sv la lv) ?_)
                      refine L_op rfl (X_move (v := vb) rfl ?_)
                      refine L_op rfl (X_build (built43' hb.sv lb) ?_)
                      refine L_op rfl (X_buildSliceL (vs := [.agg (itC ((va, vv, la, lv, ptZ, 0) : IE)).toArray, .agg (itC ((vb, .slice none 0 0, lb, [], ptZ, 0) : IE)).toArray]) (c := [((va, vv, la, lv, ptZ, 0) : IE), ((vb, .slice none 0 0, lb, [], ptZ, 0) : IE)].flatMap LT.cel) S22 (by decide) rfl rfl (List.forall_mem_cons.2 ⟨rfl, List.forall_mem_cons.2 ⟨rfl, fun _ h => by cases h⟩⟩) rfl ?_)
                      intro b2 w2 hn2
                      have hbn2 := hn2.num; have hbs2 := hn2.size
                      replace ha := ha.ext hn2.ext
                      replace hb := hb.ext hn2.ext
                      replace hv := hv.ext hn2.ext
                      replace hU := hU.trans (Ext.upd hn2.ext)
                      replace hT := hT.ext hn2.ext
                      have hB2 := hn2.blk
                      obtain ⟨u2, hu2_⟩ : ∃ n, n = w2.heap.size := ⟨_, rfl⟩
                      have hl2 := two_row (e := ((va, vv, la, lv, ptZ, 0) : IE)) (f := ((vb, .slice none 0 0, lb, [], ptZ, 0) : IE)) (up := u2) hB2 (by omega) ⟨ha, fun b hb_ => ⟨Nat.zero_le _, by have := ha_b b hb_; omega⟩⟩ ⟨hv, fun b hb_ => ⟨Nat.zero_le _, by have := hv_b b hb_; omega⟩⟩ ⟨hb, fun b hb_ => ⟨Nat.zero_le _, by have := hb_b b hb_; omega⟩⟩ (BRd.nil _ _ _)
                      refine L_op rfl (X_fn (vs := [(.slice (some ⟨b2, 0, none⟩) 2 2)]) en14 rfl (CT.mono (c_rightI _ [((va, vv, la, lv, ptZ, 0) : IE), ((vb, .slice none 0 0, lb, [], ptZ, 0) : IE)] _ 0 u2 (by omega) hl2 (fun e he => by have h : e = ((va, vv, la, lv, ptZ, 0) : IE) ∨ e = ((vb, .slice none 0 0, lb, [], ptZ, 0) : IE) := (by simpa using he); rcases h with rfl | rfl; (· exact ItZ2 _ _); (· exact ItZ _))) ?_))
                      rintro _ w52 ⟨rfl, hu52⟩
                      have hz52 := hu52.size
                      replace ha := ha.ext hu52
                      replace hb := hb.ext hu52
                      replace hv := hv.ext hu52
                      replace hU := hU.trans (Ext.upd hu52)
                      replace hT := hT.ext hu52
                      rw [show decide (RightI (dsI [((va, vv, la, lv, ptZ, 0) : IE), ((vb, .slice none 0 0, lb, [], ptZ, 0) : IE)])) = false from decide_eq_false fun h => by have h9 := right2.1 (show RightI (ds2 la lb lv) from h); omega]
                      refine L_op rfl (X_move (v := (.bool (false))) rfl ?_)
                      refine L_op rfl (X_move (v := (.bool (false))) rfl ?_)
                      refine L_gn (dj := 66) (t := false) rfl rfl rfl rfl ?_
                      refine L_gn (dj := 66) (t := false) rfl rfl rfl rfl ?_
                      refine L_gn (dj := 66) (t := false) rfl rfl rfl rfl ?_
                      refine L_gn (dj := 66) (t := false) rfl rfl rfl rfl ?_
                      refine L_gn (dj := 66) (t := false) rfl rfl rfl rfl ?_
                      refine L_op rfl (X_pick (t := false) (v := (.bool (false))) rfl rfl ?_)
                      refine L_op rfl (X_cmpBool (a := false) (b := false) (r := false) Tryd.underlying4 rfl rfl (.inr ⟨rfl, rfl⟩) ?_)
                      refine L_nil ?_
                      refine T_n ?_
                      refine W_cf rfl ?_
                      refine W_skip ?_
                      refine T_n ?_
                      refine W_seq ?_
                      refine W_reg ?_
                      refine L_op rfl (X_assign (v := (.slice none 0 0)) rfl ?_)
                      refine L_nil ?_
                      refine T_n ?_
                      refine W_seq ?_
                      refine W_seq ?_
                      refine W_reg ?_
                      refine L_op rfl (X_assign (v := (.int .i64 (0))) rfl ?_)
                      refine L_nil ?_
                      refine T_n ?_
                      refine W_block ?_
                      refine W_loop (α := Nat × Value × List IE) [10, 11, 74, 75, 76, 77, 78, 79, 80, 81, 82, 83, 84, 85, 86] (fun ⟨i, u, fs⟩ => [(11, (.int .i64 (((i : Nat) : Int)))), (10, u)]) (fun ⟨i, u, fs⟩ w_ => ((i : Nat) : Int) ≤ n ∧ NOwn LT w_ 43 5 n0 w_.heap.size u fs ∧ dsI fs = dsN i ∧ TabR w_ ∧ Upd (fun i => n0 ≤ i) w w_) (fun ⟨i, u, fs⟩ => n.toNat - i) ⟨rfl, (0, .slice none 0 0, []), ⟨by omega, NOwn.nil _ _ _ _ _, rfl, hT, hU⟩, Out.refl _ _, ⟨rfl, rfl, trivial⟩⟩ ?_
                      rintro ⟨i, u, fs⟩ w53 _ ⟨hin_, hN, hfs, hT, hU⟩
                      have hsz_ := hU.size
                      obtain ⟨s0, hs0⟩ : ∃ n, n = w53.heap.size := ⟨_, rfl⟩
                      rw [← hs0] at hN
                      have hfl : fs.length = i := by have h := congrArg List.length hfs; unfold dsN at h; rw [dsI_len, List.length_map, List.length_range] at h; exact h
                      refine W_seq ?_
                      refine W_seq ?_
                      refine W_reg ?_
                      refine L_op rfl (X_move (v := (.int .i64 (((i : Nat) : Int)))) rfl ?_)
                      refine L_op rfl (X_move (v := (.int .i64 (n))) rfl ?_)
                      by_cases hc54 : (((i : Nat) : Int) : Int) < (n)
                      · refine L_op rfl (X_cmp (k := .i64) (a := ((i : Nat) : Int)) (b := n) (r := true) rfl rfl rfl (decide_eq_true (p := ((((i : Nat) : Int)) : Int) < ((n) : Int)) (by omega)) ?_)
                        refine L_nil ?_
                        refine T_n ?_
                        refine W_ct rfl ?_
                        refine W_skip ?_
                        refine T_n ?_
                        refine W_seq ?_
                        refine W_block ?_
                        refine W_reg ?_
                        refine L_op rfl (X_move (v := u) rfl ?_)
                        refine L_op rfl (X_move (v := (.int .i64 (((i : Nat) : Int)))) rfl ?_)
                        refine L_op rfl (X_arith (k := .i64) (a := ((i : Nat) : Int)) (b := 1) (r := ((i + 1 : Nat) : Int)) rfl rfl rfl (iadd64 (by omega) (by omega) (by omega)) ?_)
                        refine L_op rfl (X_convInt (k := .i64) (a := ((i + 1 : Nat) : Int)) (r := ((UInt8.ofNat (i + 1)).toNat : Int)) (by rw [Tryd.underlying3]; rfl) Tryd.underlying5 rfl (u8_wrap _) ?_)
                        refine L_op rfl (X_buildSlice1 (vs := [(.int .u8 (((UInt8.ofNat (i + 1)).toNat : Int)))]) S35 (by decide) rfl rfl (List.forall_mem_cons.2 ⟨rfl, (fun _ h => by cases h)⟩) ?_)
                        intro b55 w55 hn55
                        have hbn55 := hn55.num; have hbs55 := hn55.size
                        replace hN := hN.ext hn55.ext
                        replace hT := hT.ext hn55.ext
                        replace hU := hU.trans (Ext.upd hn55.ext)
                        have hB55 := hn55.blk
                        obtain ⟨bk, hbk⟩ : ∃ n, n = b55 := ⟨_, rfl⟩
                        rw [← hbk] at hB55 ⊢
                        have hKo : Own w55 s0 5 1 (.slice (some ⟨bk, 0, none⟩) 1 1) ([UInt8.ofNat (i + 1)] : List UInt8).length (([UInt8.ofNat (i + 1)] : List UInt8).map byteV) := hB55.own (by omega) (Nat.le_refl _) (by decide) (Nat.le_refl _)
                        have hKb : ∀ b, obk (.slice (some ⟨bk, 0, none⟩) 1 1) = some b → b = bk := fun b hb => (Option.some.inj hb).symm
                        refine L_op rfl (X_build (built43' hKo.sv [UInt8.ofNat (i + 1)]) ?_)
                        refine L_op rfl (X_buildSliceL (vs := [.agg (itC ((.slice (some ⟨bk, 0, none⟩) 1 1, .slice none 0 0, [UInt8.ofNat (i + 1)], [], ptZ, 0) : IE)).toArray]) (c := itC ((.slice (some ⟨bk, 0, none⟩) 1 1, .slice none 0 0, [UInt8.ofNat (i + 1)], [], ptZ, 0) : IE)) S22 (by decide) rfl rfl (List.forall_mem_cons.2 ⟨rfl, fun _ h => by cases h⟩) rfl ?_)
                        intro bq wq hnq
                        have hbnq := hnq.num; have hbsq := hnq.size
                        replace hN := hN.ext hnq.ext
                        replace hT := hT.ext hnq.ext
                        replace hU := hU.trans (Ext.upd hnq.ext)
                        replace hKo := hKo.ext hnq.ext
                        have hBq := hnq.blk
                        refine L_op rfl (X_append (B := n0) (n := fs.length) (s := u) (x := (.slice (some ⟨bq, 0, none⟩) 1 1)) S22 ⟨_, Tryd.underlying22⟩ rfl rfl hN.1 (m := 1) (ys := itC ((.slice (some ⟨bk, 0, none⟩) 1 1, .slice none 0 0, [UInt8.ofNat (i + 1)], [], ptZ, 0) : IE)) (hBq.rd (o := 0) (n := 1) (c := 1) (sz := 8) (by decide) (by decide) rfl (fun j u hj => by rw [Nat.zero_add]; simpa using hj)) (itC_one hKo.sv.one rfl) (by unfold maxLen; omega) (by omega) (by omega) ?_)
                        intro v5 w5 hO5 hu5 ho5
                        have hz5 := hu5.size
                        have hN5 := NOwn.push (L := LT) (e := ((.slice (some ⟨bk, 0, none⟩) 1 1, .slice none 0 0, [UInt8.ofNat (i + 1)], [], ptZ, 0) : IE)) (hi' := wq.heap.size) (by decide) hN hO5 hu5 (fun s hs => by have h1 : s = (Value.slice (some ⟨bk, 0, none⟩) 1 1, [UInt8.ofNat (i + 1)]) ∨ s = (Value.slice none 0 0, []) := by { simpa [LT] using hs }; rcases h1 with rfl | rfl; (· exact ⟨hKo.more (by omega), fun b hb => (hKo.lt hb).2⟩); (· exact BOwn.nil _ _ _ _)) (by omega) (by omega)
                        replace hT := hT.upd hu5 fun i h1 h2 h => by have := (hN.1.lt h).1; omega
                        replace hU := hU.trans (hu5.mono fun i _ h => by have := (hN.1.lt h).1; show n0 ≤ i; omega)
                        refine L_op rfl (X_assign (v := v5) rfl ?_)
                        refine L_nil ?_
                        refine B_n ?_
                        refine T_n ?_
                        refine W_reg ?_
                        refine L_op rfl (X_move (v := (.int .i64 (((i : Nat) : Int)))) rfl ?_)
                        refine L_op rfl (X_arith (k := .i64) (a := ((i : Nat) : Int)) (b := 1) (r := ((i + 1 : Nat) : Int)) rfl rfl rfl (iadd64 (by omega) (by omega) (by omega)) ?_)
                        refine L_op rfl (X_assign (v := (.int .i64 (((i + 1 : Nat) : Int)))) rfl ?_)
                        refine L_nil ?_
                        refine T_n ?_
                        exact ⟨rfl, (i + 1, v5, fs ++ [((.slice (some ⟨bk, 0, none⟩) 1 1, .slice none 0 0, [UInt8.ofNat (i + 1)], [], ptZ, 0) : IE)]), ⟨⟨by omega, hN5, by unfold dsI at hfs ⊢; rw [List.map_append, hfs, dsN_step]; rfl, hT, hU⟩, (by show n.toNat - (i + 1) < n.toNat - i; omega)⟩, (Out.mk rfl), ⟨rfl, rfl, trivial⟩⟩
                      · refine L_op rfl (X_cmp (k := .i64) (a := ((i : Nat) : Int)) (b := n) (r := false) rfl rfl rfl (decide_eq_false (p := ((((i : Nat) : Int)) : Int) < ((n) : Int)) (by omega)) ?_)
                        have hin : ((i : Nat) : Int) = n := by omega
                        have hptN := pts_of hfs (dsN_ok i)
                        refine L_nil ?_
                        refine T_n ?_
                        refine W_cf rfl ?_
                        refine W_exit ?_
                        refine T_e ?_
                        refine T_e ?_
                        refine B_x ?_
                        refine T_n ?_
                        refine W_seq ?_
                        refine W_reg ?_
                        refine L_op rfl (X_buildSlice1 (vs := [(.int .u8 (107))]) S35 (by decide) rfl rfl (List.forall_mem_cons.2 ⟨rfl, (fun _ h => by cases h)⟩) ?_)
                        intro b56 w56 hn56
                        have hbn56 := hn56.num; have hbs56 := hn56.size
                        replace hN := hN.ext hn56.ext
                        replace hT := hT.ext hn56.ext
                        replace hU := hU.trans (Ext.upd hn56.ext)
                        have hB56 := hn56.blk
                        refine L_op rfl (X_convMark (l := [(107 : UInt8)]) Tryd.underlying35 Tryd.underlying5 rfl hB56 (fun j u hj => by simpa [byteV] using hj) rfl (by decide) ?_)
                        intro w57 hu57 hc57
                        have hz57 := hu57.size
                        replace hN := hN.upd hu57 fun i h1 h2 h => by have h : i = b56 := h; omega
                        replace hT := hT.upd hu57 fun i h1 h2 h => by have h : i = b56 := h; omega
                        replace hU := hU.trans (hu57.mono fun i _ h => by have h : i = b56 := h; show n0 ≤ i; omega)
                        have hc57_b : ∀ i, rbk (.slice (some ⟨b56, 0, none⟩) 1 1) = some i → i < w57.heap.size := fun i hi => hc57.bound (by decide) hi
                        refine L_op rfl (X_build (built43s' hc57.sv [107]) ?_)
                        obtain ⟨ka, hka⟩ : ∃ x : Value, x = (.slice (some ⟨b56, 0, none⟩) 1 1) := ⟨_, rfl⟩
                        have hkr := hc57; rw [← hka] at hkr; rw [← hka]
                        have hkr_b : ∀ b, rbk ka = some b → b < w57.heap.size := fun b hb => hkr.bound (by decide) hb
                        refine L_op rfl (X_alloc (z := (.agg #[(.slice none 0 0), (.slice none 0 0), (.int .u8 (0)), (.int .u16 (0)), (.int .u16 (0)), (.int .u32 (0)), (.int .u64 (0)), (.int .u16 (0))])) (c := #[(.slice none 0 0), (.slice none 0 0), (.int .u8 (0)), (.int .u16 (0)), (.int .u16 (0)), (.int .u32 (0)), (.int .u64 (0)), (.int .u16 (0))]) Zv43 rfl ?_)
                        intro b58 w58 hn58
                        have hbn58 := hn58.num; have hbs58 := hn58.size
                        replace hN := hN.ext hn58.ext
                        replace hT := hT.ext hn58.ext
                        replace hU := hU.trans (Ext.upd hn58.ext)
                        replace hkr := hkr.ext hn58.ext
                        have hB58 := hn58.blk
                        refine L_op0 (X_storeW (b := b58) (ys := itC ((ka, .slice none 0 0, [107], [], ptZ, 3) : IE)) A43 rfl rfl (itC_one hkr.sv.one rfl) rfl hB58 rfl ?_)
                        intro w59 hu59 hb59
                        have hz59 := hu59.size
                        replace hN := hN.upd hu59 fun i h1 h2 h => by have h : i = b58 := h; omega
                        replace hT := hT.upd hu59 fun i h1 h2 h => by have h : i = b58 := h; omega
                        replace hU := hU.trans (hu59.mono fun i _ h => by have h : i = b58 := h; show n0 ≤ i; omega)
                        replace hkr := hkr.upd hu59 fun i hi h => by have hi := hkr_b _ hi; have h : i = b58 := h; omega
                        replace hB58 := hb59
                        refine L_nil ?_
                        refine T_n ?_
                        refine W_seq ?_
                        refine W_reg ?_
                        refine L_op rfl (X_move (v := u) rfl ?_)
                        refine L_op rfl (X_fn (vs := [u]) en14 rfl (CT.mono (c_rightI u fs _ n0 s0 (by omega) hN.rd hptN) ?_))
                        rintro _ w60 ⟨rfl, hu60⟩
                        have hz60 := hu60.size
                        replace hN := hN.ext hu60
                        replace hT := hT.ext hu60
                        replace hU := hU.trans (Ext.upd hu60)
                        replace hkr := hkr.ext hu60
                        replace hB58 := hB58.ext hu60
                        rw [hfs, dsN_dec]
                        rcases Bool.eq_false_or_eq_true (decide (i ≤ 6)) with hc61 | hc61
                        · rw [hc61]
                          refine L_op rfl (X_move (v := (.int .i64 (n))) rfl ?_)
                          have h6 := of_decide_eq_true hc61
                          refine L_op rfl (X_cmp (k := .i64) (a := n) (b := 6) (r := true) rfl rfl rfl (decide_eq_true (p := ((n) : Int) ≤ ((6) : Int)) (by omega)) ?_)
                          refine L_op rfl (X_cmpBool (a := true) (b := true) (r := true) Tryd.underlying4 rfl rfl (.inl ⟨rfl, rfl⟩) ?_)
                          refine L_op rfl (X_move (v := (.bool (true))) rfl ?_)
                          refine L_gy (dj := 95) rfl rfl rfl (X_loadA (p := (ptr b58 (0))) (xs := itC ((ka, .slice none 0 0, [107], [], ptZ, 3) : IE)) A43 rfl hB58.atAll rfl ?_)
                          refine L_gy (dj := 95) rfl rfl rfl (X_buildSliceL (vs := [.agg (itC ((ka, .slice none 0 0, [107], [], ptZ, 3))).toArray]) (c := itC ((ka, .slice none 0 0, [107], [], ptZ, 3))) S22 (by decide) rfl rfl (List.forall_mem_cons.2 ⟨rfl, fun _ h => by cases h⟩) rfl ?_)
                          intro bk wk hnk
                          have hbnk := hnk.num; have hbsk := hnk.size
                          replace hN := hN.ext hnk.ext
                          replace hT := hT.ext hnk.ext
                          replace hU := hU.trans (Ext.upd hnk.ext)
                          replace hkr := hkr.ext hnk.ext
                          replace hB58 := hB58.ext hnk.ext
                          have hBk := hnk.blk
                          obtain ⟨uk, huk_⟩ : ∃ n, n = wk.heap.size := ⟨_, rfl⟩
                          have hlk := one_row (e := ((ka, .slice none 0 0, [107], [], ptZ, 3))) (up := uk) hBk (by omega) ⟨hkr, fun b hb => ⟨Nat.zero_le _, by have := hkr_b b hb; omega⟩⟩ (BRd.nil _ _ _)
                          refine L_gy (dj := 95) rfl rfl rfl (X_fn (vs := [(.slice (some ⟨bk, 0, none⟩) 1 1)]) en14 rfl (CT.mono (c_rightI _ [((ka, .slice none 0 0, [107], [], ptZ, 3) : IE)] _ 0 uk (by omega) hlk (fun e he => by have h : e = ((ka, .slice none 0 0, [107], [], ptZ, 3) : IE) := (by simpa using he); subst h; exact ItS)) ?_))
                          rintro _ w62 ⟨rfl, hu62⟩
                          have hz62 := hu62.size
                          replace hN := hN.ext hu62
                          replace hT := hT.ext hu62
                          replace hU := hU.trans (Ext.upd hu62)
                          replace hkr := hkr.ext hu62
                          replace hB58 := hB58.ext hu62
                          replace hlk := hlk.ext hu62
                          rw [show decide (RightI (dsI [((ka, .slice none 0 0, [107], [], ptZ, 3) : IE)])) = false from decide_eq_false IWS_not]
                          refine L_gy (dj := 95) rfl rfl rfl (X_not (b := false) (r := true) rfl rfl ?_)
                          refine L_op rfl (X_pick (t := true) (v := (.bool (true))) rfl rfl ?_)
                          refine L_op rfl (X_move (v := (.bool (true))) rfl ?_)
                          refine L_gy (dj := 101) rfl rfl rfl (X_fn (vs := [(.slice none 0 0)]) en14 rfl (CT.mono (c_rightI _ [] _ 0 0 (Nat.zero_le _) (NRd.nil _ _ _) (fun e he => by cases he)) ?_))
                          rintro _ w63 ⟨rfl, hu63⟩
                          have hz63 := hu63.size
                          replace hN := hN.ext hu63
                          replace hT := hT.ext hu63
                          replace hU := hU.trans (Ext.upd hu63)
                          replace hkr := hkr.ext hu63
                          replace hB58 := hB58.ext hu63
                          replace hlk := hlk.ext hu63
                          rw [show decide (RightI (dsI [])) = true from decide_eq_true IW0_right]
                          refine L_op rfl (X_pick (t := true) (v := (.bool (true))) rfl rfl ?_)
                          refine L_op rfl (X_move (v := (.bool (true))) rfl ?_)
                          refine L_gy (dj := 104) rfl rfl rfl (X_move (v := u) rfl ?_)
                          refine L_gy (dj := 104) rfl rfl rfl (X_move (v := u) rfl ?_)
                          refine L_gy (dj := 104) rfl rfl rfl (X_fn (vs := [u, u]) en15 rfl (CT.mono (c_sameI u u fs fs _ n0 s0 n0 s0 (by omega) (by omega) hN.rd hN.rd) ?_))
                          rintro _ w64 ⟨⟨g64, rfl, hg64⟩, hu64⟩
                          have hz64 := hu64.size
                          replace hN := hN.ext hu64
                          replace hT := hT.ext hu64
                          replace hU := hU.trans (Ext.upd hu64)
                          replace hkr := hkr.ext hu64
                          replace hB58 := hB58.ext hu64
                          replace hlk := hlk.ext hu64
                          obtain rfl : g64 = true := hg64.2 rfl
                          refine L_op rfl (X_pick (t := true) (v := (.bool (true))) rfl rfl ?_)
                          refine L_op rfl (X_move (v := (.bool (true))) rfl ?_)
                          refine L_gy (dj := 109) rfl rfl rfl (X_fn (vs := []) en9 rfl (CT.mono (c_wakes _ hT) ?_))
                          rintro vb65 w65 ⟨hvb65, hu65⟩
                          have hz65 := hu65.size
                          replace hN := hN.ext hu65
                          replace hT := hT.ext hu65
                          replace hU := hU.trans (Ext.upd hu65)
                          replace hkr := hkr.ext hu65
                          replace hB58 := hB58.ext hu65
                          replace hlk := hlk.ext hu65
                          subst hvb65
                          refine L_op rfl (X_pick (t := true) (v := (.bool (true))) rfl rfl ?_)
                          refine L_op rfl (X_assign (v := (.bool (true))) rfl ?_)
                          refine L_nil ?_
                          refine T_n ?_
                          refine W_ret ?_
                          exact BQ_r (End_1 Tryd.results5 (v := .bool true) rfl ⟨rfl, hU.own hn0⟩)
                        · rw [hc61]
                          refine L_op rfl (X_move (v := (.int .i64 (n))) rfl ?_)
                          have h6 := of_decide_eq_false hc61
                          refine L_op rfl (X_cmp (k := .i64) (a := n) (b := 6) (r := false) rfl rfl rfl (decide_eq_false (p := ((n) : Int) ≤ ((6) : Int)) (by omega)) ?_)
                          refine L_op rfl (X_cmpBool (a := false) (b := false) (r := true) Tryd.underlying4 rfl rfl (.inl ⟨rfl, rfl⟩) ?_)
                          refine L_op rfl (X_move (v := (.bool (true))) rfl ?_)
                          refine L_gy (dj := 95) rfl rfl rfl (X_loadA (p := (ptr b58 (0))) (xs := itC ((ka, .slice none 0 0, [107], [], ptZ, 3) : IE)) A43 rfl hB58.atAll rfl ?_)
                          refine L_gy (dj := 95) rfl rfl rfl (X_buildSliceL (vs := [.agg (itC ((ka, .slice none 0 0, [107], [], ptZ, 3))).toArray]) (c := itC ((ka, .slice none 0 0, [107], [], ptZ, 3))) S22 (by decide) rfl rfl (List.forall_mem_cons.2 ⟨rfl, fun _ h => by cases h⟩) rfl ?_)
                          intro bk wk hnk
                          have hbnk := hnk.num; have hbsk := hnk.size
                          replace hN := hN.ext hnk.ext
                          replace hT := hT.ext hnk.ext
                          replace hU := hU.trans (Ext.upd hnk.ext)
                          replace hkr := hkr.ext hnk.ext
                          replace hB58 := hB58.ext hnk.ext
                          have hBk := hnk.blk
                          obtain ⟨uk, huk_⟩ : ∃ n, n = wk.heap.size := ⟨_, rfl⟩
                          have hlk := one_row (e := ((ka, .slice none 0 0, [107], [], ptZ, 3))) (up := uk) hBk (by omega) ⟨hkr, fun b hb => ⟨Nat.zero_le _, by have := hkr_b b hb; omega⟩⟩ (BRd.nil _ _ _)
                          refine L_gy (dj := 95) rfl rfl rfl (X_fn (vs := [(.slice (some ⟨bk, 0, none⟩) 1 1)]) en14 rfl (CT.mono (c_rightI _ [((ka, .slice none 0 0, [107], [], ptZ, 3) : IE)] _ 0 uk (by omega) hlk (fun e he => by have h : e = ((ka, .slice none 0 0, [107], [], ptZ, 3) : IE) := (by simpa using he); subst h; exact ItS)) ?_))
                          rintro _ w66 ⟨rfl, hu66⟩
                          have hz66 := hu66.size
                          replace hN := hN.ext hu66
                          replace hT := hT.ext hu66
                          replace hU := hU.trans (Ext.upd hu66)
                          replace hkr := hkr.ext hu66
                          replace hB58 := hB58.ext hu66
                          replace hlk := hlk.ext hu66
                          rw [show decide (RightI (dsI [((ka, .slice none 0 0, [107], [], ptZ, 3) : IE)])) = false from decide_eq_false IWS_not]
                          refine L_gy (dj := 95) rfl rfl rfl (X_not (b := false) (r := true) rfl rfl ?_)
                          refine L_op rfl (X_pick (t := true) (v := (.bool (true))) rfl rfl ?_)
                          refine L_op rfl (X_move (v := (.bool (true))) rfl ?_)
                          refine L_gy (dj := 101) rfl rfl rfl (X_fn (vs := [(.slice none 0 0)]) en14 rfl (CT.mono (c_rightI _ [] _ 0 0 (Nat.zero_le _) (NRd.nil _ _ _) (fun e he => by cases he)) ?_))
                          rintro _ w67 ⟨rfl, hu67⟩
                          have hz67 := hu67.size
                          replace hN := hN.ext hu67
                          replace hT := hT.ext hu67
                          replace hU := hU.trans (Ext.upd hu67)
                          replace hkr := hkr.ext hu67
                          replace hB58 := hB58.ext hu67
                          replace hlk := hlk.ext hu67
                          rw [show decide (RightI (dsI [])) = true from decide_eq_true IW0_right]
                          refine L_op rfl (X_pick (t := true) (v := (.bool (true))) rfl rfl ?_)
                          refine L_op rfl (X_move (v := (.bool (true))) rfl ?_)
                          refine L_gy (dj := 104) rfl rfl rfl (X_move (v := u) rfl ?_)
                          refine L_gy (dj := 104) rfl rfl rfl (X_move (v := u) rfl ?_)
                          refine L_gy (dj := 104) rfl rfl rfl (X_fn (vs := [u, u]) en15 rfl (CT.mono (c_sameI u u fs fs _ n0 s0 n0 s0 (by omega) (by omega) hN.rd hN.rd) ?_))
                          rintro _ w68 ⟨⟨g68, rfl, hg68⟩, hu68⟩
                          have hz68 := hu68.size
                          replace hN := hN.ext hu68
                          replace hT := hT.ext hu68
                          replace hU := hU.trans (Ext.upd hu68)
                          replace hkr := hkr.ext hu68
                          replace hB58 := hB58.ext hu68
                          replace hlk := hlk.ext hu68
                          obtain rfl : g68 = true := hg68.2 rfl
                          refine L_op rfl (X_pick (t := true) (v := (.bool (true))) rfl rfl ?_)
                          refine L_op rfl (X_move (v := (.bool (true))) rfl ?_)
                          refine L_gy (dj := 109) rfl rfl rfl (X_fn (vs := []) en9 rfl (CT.mono (c_wakes _ hT) ?_))
                          rintro vb69 w69 ⟨hvb69, hu69⟩
                          have hz69 := hu69.size
                          replace hN := hN.ext hu69
                          replace hT := hT.ext hu69
                          replace hU := hU.trans (Ext.upd hu69)
                          replace hkr := hkr.ext hu69
                          replace hB58 := hB58.ext hu69
                          replace hlk := hlk.ext hu69
                          subst hvb69
                          refine L_op rfl (X_pick (t := true) (v := (.bool (true))) rfl rfl ?_)
                          refine L_op rfl (X_assign (v := (.bool (true))) rfl ?_)
                          refine L_nil ?_
                          refine T_n ?_
                          refine W_ret ?_
                          exact BQ_r (End_1 Tryd.results5 (v := .bool true) rfl ⟨rfl, hU.own hn0⟩)
                  · refine L_gy (dj := 48) rfl rfl rfl (X_cmp (k := .i64) (a := ((lb.length : Nat) : Int)) (b := 8) (r := false) rfl rfl rfl (decide_eq_false (p := ((((lb.length : Nat) : Int)) : Int) ≤ ((8) : Int)) (by omega)) ?_)
                    refine L_op rfl (X_pick (t := true) (v := (.bool (false))) rfl rfl ?_)
                    refine L_op rfl (X_move (v := (.bool (false))) rfl ?_)
                    refine L_gn (dj := 53) (t := false) rfl rfl rfl rfl ?_
                    refine L_gn (dj := 53) (t := false) rfl rfl rfl rfl ?_
                    refine L_gn (dj := 53) (t := false) rfl rfl rfl rfl ?_
                    refine L_op rfl (X_pick (t := false) (v := (.bool (false))) rfl rfl ?_)
                    refine L_op rfl (X_assign (v := (.bool (false))) rfl ?_)
                    refine L_nil ?_
                    refine T_n ?_
                    refine W_seq ?_
                    refine W_seq ?_
                    refine W_reg ?_
                    refine L_op rfl (X_move (v := va) rfl ?_)
                    refine L_op rfl (X_move (v := vv) rfl ?_)
                    refine L_op rfl (X_build (built43ab' ha.sv hv.sv la lv) ?_)
                    refine L_op rfl (X_move (v := vb) rfl ?_)
                    refine L_op rfl (X_build (built43' hb.sv lb) ?_)
                    refine L_op rfl (X_buildSliceL (vs := [.agg (itC ((va, vv, la, lv, ptZ, 0) : IE)).toArray, .agg (itC ((vb, .slice none 0 0, lb, [], ptZ, 0) : IE)).toArray]) (c := [((va, vv, la, lv, ptZ, 0) : IE), ((vb, .slice none 0 0, lb, [], ptZ, 0) : IE)].flatMap LT.cel) S22 (by decide) rfl rfl (List.forall_mem_cons.2 ⟨rfl, List.forall_mem_cons.2 ⟨rfl, fun _ h => by cases h⟩⟩) rfl ?_)
                    intro b2 w2 hn2
                    have hbn2 := hn2.num; have hbs2 := hn2.size
                    replace ha := ha.ext hn2.ext
                    replace hb := hb.ext hn2.ext
                    replace hv := hv.ext hn2.ext
                    replace hU := hU.trans (Ext.upd hn2.ext)
                    replace hT := hT.ext hn2.ext
                    have hB2 := hn2.blk
                    obtain ⟨u2, hu2_⟩ : ∃ n, n = w2.heap.size := ⟨_, rfl⟩
                    have hl2 := two_row (e := ((va, vv, la, lv, ptZ, 0) : IE)) (f := ((vb, .slice none 0 0, lb, [], ptZ, 0) : IE)) (up := u2) hB2 (by omega) ⟨ha, fun b hb_ => ⟨Nat.zero_le _, by have := ha_b b hb_; omega⟩⟩ ⟨hv, fun b hb_ => ⟨Nat.zero_le _, by have := hv_b b hb_; omega⟩⟩ ⟨hb, fun b hb_ => ⟨Nat.zero_le _, by have := hb_b b hb_; omega⟩⟩ (BRd.nil _ _ _)
                    refine L_op rfl (X_fn (vs := [(.slice (some ⟨b2, 0, none⟩) 2 2)]) en14 rfl (CT.mono (c_rightI _ [((va, vv, la, lv, ptZ, 0) : IE), ((vb, .slice none 0 0, lb, [], ptZ, 0) : IE)] _ 0 u2 (by omega) hl2 (fun e he => by have h : e = ((va, vv, la, lv, ptZ, 0) : IE) ∨ e = ((vb, .slice none 0 0, lb, [], ptZ, 0) : IE) := (by simpa using he); rcases h with rfl | rfl; (· exact ItZ2 _ _); (· exact ItZ _))) ?_))
                    rintro _ w70 ⟨rfl, hu70⟩
                    have hz70 := hu70.size
                    replace ha := ha.ext hu70
                    replace hb := hb.ext hu70
                    replace hv := hv.ext hu70
                    replace hU := hU.trans (Ext.upd hu70)
                    replace hT := hT.ext hu70
                    rw [show decide (RightI (dsI [((va, vv, la, lv, ptZ, 0) : IE), ((vb, .slice none 0 0, lb, [], ptZ, 0) : IE)])) = false from decide_eq_false fun h => by have h9 := right2.1 (show RightI (ds2 la lb lv) from h); omega]
                    refine L_op rfl (X_move (v := (.bool (false))) rfl ?_)
                    refine L_op rfl (X_move (v := (.bool (false))) rfl ?_)
                    refine L_gn (dj := 66) (t := false) rfl rfl rfl rfl ?_
                    refine L_gn (dj := 66) (t := false) rfl rfl rfl rfl ?_
                    refine L_gn (dj := 66) (t := false) rfl rfl rfl rfl ?_
                    refine L_gn (dj := 66) (t := false) rfl rfl rfl rfl ?_
                    refine L_gn (dj := 66) (t := false) rfl rfl rfl rfl ?_
                    refine L_op rfl (X_pick (t := false) (v := (.bool (false))) rfl rfl ?_)
                    refine L_op rfl (X_cmpBool (a := false) (b := false) (r := false) Tryd.underlying4 rfl rfl (.inr ⟨rfl, rfl⟩) ?_)
                    refine L_nil ?_
                    refine T_n ?_
                    refine W_cf rfl ?_
                    refine W_skip ?_
                    refine T_n ?_
                    refine W_seq ?_
                    refine W_reg ?_
                    refine L_op rfl (X_assign (v := (.slice none 0 0)) rfl ?_)
                    refine L_nil ?_
                    refine T_n ?_
                    refine W_seq ?_
                    refine W_seq ?_
                    refine W_reg ?_
                    refine L_op rfl (X_assign (v := (.int .i64 (0))) rfl ?_)
                    refine L_nil ?_
                    refine T_n ?_
                    refine W_block ?_
                    refine W_loop (α := Nat × Value × List IE) [10, 11, 74, 75, 76, 77, 78, 79, 80, 81, 82, 83, 84, 85, 86] (fun ⟨i, u, fs⟩ => [(11, (.int .i64 (((i : Nat) : Int)))), (10, u)]) (fun ⟨i, u, fs⟩ w_ => ((i : Nat) : Int) ≤ n ∧ NOwn LT w_ 43 5 n0 w_.heap.size u fs ∧ dsI fs = dsN i ∧ TabR w_ ∧ Upd (fun i => n0 ≤ i) w w_) (fun ⟨i, u, fs⟩ => n.toNat - i) ⟨rfl, (0, .slice none 0 0, []), ⟨by omega, NOwn.nil _ _ _ _ _, rfl, hT, hU⟩, Out.refl _ _, ⟨rfl, rfl, trivial⟩⟩ ?_
                    rintro ⟨i, u, fs⟩ w71 _ ⟨hin_, hN, hfs, hT, hU⟩
                    have hsz_ := hU.size
                    obtain ⟨s0, hs0⟩ : ∃ n, n = w71.heap.size := ⟨_, rfl⟩
                    rw [← hs0] at hN
                    have hfl : fs.length = i := by have h := congrArg List.length hfs; unfold dsN at h; rw [dsI_len, List.length_map, List.length_range] at h; exact h
                    refine W_seq ?_
                    refine W_seq ?_
                    refine W_reg ?_
                    refine L_op rfl (X_move (v := (.int .i64 (((i : Nat) : Int)))) rfl ?_)
                    refine L_op rfl (X_move (v := (.int .i64 (n))) rfl ?_)
                    by_cases hc72 : (((i : Nat) : Int) : Int) < (n)
                    · refine L_op rfl (X_cmp (k := .i64) (a := ((i : Nat) : Int)) (b := n) (r := true) rfl rfl rfl (decide_eq_true (p := ((((i : Nat) : Int)) : Int) < ((n) : Int)) (by omega)) ?_)
                      refine L_nil ?_
                      refine T_n ?_
                      refine W_ct rfl ?_
                      refine W_skip ?_
                      refine T_n ?_
                      refine W_seq ?_
                      refine W_block ?_
                      refine W_reg ?_
                      refine L_op rfl (X_move (v := u) rfl ?_)
                      refine L_op rfl (X_move (v := (.int .i64 (((i : Nat) : Int)))) rfl ?_)
                      refine L_op rfl (X_arith (k := .i64) (a := ((i : Nat) : Int)) (b := 1) (r := ((i + 1 : Nat) : Int)) rfl rfl rfl (iadd64 (by omega) (by omega) (by omega)) ?_)
                      refine L_op rfl (X_convInt (k := .i64) (a := ((i + 1 : Nat) : Int)) (r := ((UInt8.ofNat (i + 1)).toNat : Int)) (by rw [Tryd.underlying3]; rfl) Tryd.underlying5 rfl (u8_wrap _) ?_)
                      refine L_op rfl (X_buildSlice1 (vs := [(.int .u8 (((UInt8.ofNat (i + 1)).toNat : Int)))]) S35 (by decide) rfl rfl (List.forall_mem_cons.2 ⟨rfl, (fun _ h => by cases h)⟩) ?_)
                      intro b73 w73 hn73
                      have hbn73 := hn73.num; have hbs73 := hn73.size
                      replace hN := hN.ext hn73.ext
                      replace hT := hT.ext hn73.ext
                      replace hU := hU.trans (Ext.upd hn73.ext)
                      have hB73 := hn73.blk
                      obtain ⟨bk, hbk⟩ : ∃ n, n = b73 := ⟨_, rfl⟩
                      rw [← hbk] at hB73 ⊢
                      have hKo : Own w73 s0 5 1 (.slice (some ⟨bk, 0, none⟩) 1 1) ([UInt8.ofNat (i + 1)] : List UInt8).length (([UInt8.ofNat (i + 1)] : List UInt8).map byteV) := hB73.own (by omega) (Nat.le_refl _) (by decide) (Nat.le_refl _)
                      have hKb : ∀ b, obk (.slice (some ⟨bk, 0, none⟩) 1 1) = some b → b = bk := fun b hb => (Option.some.inj hb).symm
                      refine L_op rfl (X_build (built43' hKo.sv [UInt8.ofNat (i + 1)]) ?_)
                      refine L_op rfl (X_buildSliceL (vs := [.agg (itC ((.slice (some ⟨bk, 0, none⟩) 1 1, .slice none 0 0, [UInt8.ofNat (i + 1)], [], ptZ, 0) : IE)).toArray]) (c := itC ((.slice (some ⟨bk, 0, none⟩) 1 1, .slice none 0 0, [UInt8.ofNat (i + 1)], [], ptZ, 0) : IE)) S22 (by decide) rfl rfl (List.forall_mem_cons.2 ⟨rfl, fun _ h => by cases h⟩) rfl ?_)
                      intro bq wq hnq
                      have hbnq := hnq.num; have hbsq := hnq.size
                      replace hN := hN.ext hnq.ext
                      replace hT := hT.ext hnq.ext
                      replace hU := hU.trans (Ext.upd hnq.ext)
                      replace hKo := hKo.ext hnq.ext
                      have hBq := hnq.blk
                      refine L_op rfl (X_append (B := n0) (n := fs.length) (s := u) (x := (.slice (some ⟨bq, 0, none⟩) 1 1)) S22 ⟨_, Tryd.underlying22⟩ rfl rfl hN.1 (m := 1) (ys := itC ((.slice (some ⟨bk, 0, none⟩) 1 1, .slice none 0 0, [UInt8.ofNat (i + 1)], [], ptZ, 0) : IE)) (hBq.rd (o := 0) (n := 1) (c := 1) (sz := 8) (by decide) (by decide) rfl (fun j u hj => by rw [Nat.zero_add]; simpa using hj)) (itC_one hKo.sv.one rfl) (by unfold maxLen; omega) (by omega) (by omega) ?_)
                      intro v5 w5 hO5 hu5 ho5
                      have hz5 := hu5.size
                      have hN5 := NOwn.push (L := LT) (e := ((.slice (some ⟨bk, 0, none⟩) 1 1, .slice none 0 0, [UInt8.ofNat (i + 1)], [], ptZ, 0) : IE)) (hi' := wq.heap.size) (by decide) hN hO5 hu5 (fun s hs => by have h1 : s = (Value.slice (some ⟨bk, 0, none⟩) 1 1, [UInt8.ofNat (i + 1)]) ∨ s = (Value.slice none 0 0, []) := by { simpa [LT] using hs }; rcases h1 with rfl | rfl; (· exact ⟨hKo.more (by omega), fun b hb => (hKo.lt hb).2⟩); (· exact BOwn.nil _ _ _ _)) (by omega) (by omega)
                      replace hT := hT.upd hu5 fun i h1 h2 h => by have := (hN.1.lt h).1; omega
                      replace hU := hU.trans (hu5.mono fun i _ h => by have := (hN.1.lt h).1; show n0 ≤ i; omega)
                      refine L_op rfl (X_assign (v := v5) rfl ?_)
                      refine L_nil ?_
                      refine B_n ?_
                      refine T_n ?_
                      refine W_reg ?_
                      refine L_op rfl (X_move (v := (.int .i64 (((i : Nat) : Int)))) rfl ?_)
                      refine L_op rfl (X_arith (k := .i64) (a := ((i : Nat) : Int)) (b := 1) (r := ((i + 1 : Nat) : Int)) rfl rfl rfl (iadd64 (by omega) (by omega) (by omega)) ?_)
                      refine L_op rfl (X_assign (v := (.int .i64 (((i + 1 : Nat) : Int)))) rfl ?_)
                      refine L_nil ?_
                      refine T_n ?_
                      exact ⟨rfl, (i + 1, v5, fs ++ [((.slice (some ⟨bk, 0, none⟩) 1 1, .slice none 0 0, [UInt8.ofNat (i + 1)], [], ptZ, 0) : IE)]), ⟨⟨by omega, hN5, by unfold dsI at hfs ⊢; rw [List.map_append, hfs, dsN_step]; rfl, hT, hU⟩, (by show n.toNat - (i + 1) < n.toNat - i; omega)⟩, (Out.mk rfl), ⟨rfl, rfl, trivial⟩⟩
                    · refine L_op rfl (X_cmp (k := .i64) (a := ((i : Nat) : Int)) (b := n) (r := false) rfl rfl rfl (decide_eq_false (p := ((((i : Nat) : Int)) : Int) < ((n) : Int)) (by omega)) ?_)
                      have hin : ((i : Nat) : Int) = n := by omega
                      have hptN := pts_of hfs (dsN_ok i)
                      refine L_nil ?_
                      refine T_n ?_
                      refine W_cf rfl ?_
                      refine W_exit ?_
                      refine T_e ?_
                      refine T_e ?_
                      refine B_x ?_
                      refine T_n ?_
                      refine W_seq ?_
                      refine W_reg ?_
                      refine L_op rfl (X_buildSlice1 (vs := [(.int .u8 (107))]) S35 (by decide) rfl rfl (List.forall_mem_cons.2 ⟨rfl, (fun _ h => by cases h)⟩) ?_)
                      intro b74 w74 hn74
                      have hbn74 := hn74.num; have hbs74 := hn74.size
                      replace hN := hN.ext hn74.ext
                      replace hT := hT.ext hn74.ext
                      replace hU := hU.trans (Ext.upd hn74.ext)
                      have hB74 := hn74.blk
                      refine L_op rfl (X_convMark (l := [(107 : UInt8)]) Tryd.underlying35 Tryd.underlying5 rfl hB74 (fun j u hj => by simpa [byteV] using hj) rfl (by decide) ?_)
                      intro w75 hu75 hc75
                      have hz75 := hu75.size
                      replace hN := hN.upd hu75 fun i h1 h2 h => by have h : i = b74 := h; omega
                      replace hT := hT.upd hu75 fun i h1 h2 h => by have h : i = b74 := h; omega
                      replace hU := hU.trans (hu75.mono fun i _ h => by have h : i = b74 := h; show n0 ≤ i; omega)
                      have hc75_b : ∀ i, rbk (.slice (some ⟨b74, 0, none⟩) 1 1) = some i → i < w75.heap.size := fun i hi => hc75.bound (by decide) hi
                      refine L_op rfl (X_build (built43s' hc75.sv [107]) ?_)
                      obtain ⟨ka, hka⟩ : ∃ x : Value, x = (.slice (some ⟨b74, 0, none⟩) 1 1) := ⟨_, rfl⟩
                      have hkr := hc75; rw [← hka] at hkr; rw [← hka]
                      have hkr_b : ∀ b, rbk ka = some b → b < w75.heap.size := fun b hb => hkr.bound (by decide) hb
                      refine L_op rfl (X_alloc (z := (.agg #[(.slice none 0 0), (.slice none 0 0), (.int .u8 (0)), (.int .u16 (0)), (.int .u16 (0)), (.int .u32 (0)), (.int .u64 (0)), (.int .u16 (0))])) (c := #[(.slice none 0 0), (.slice none 0 0), (.int .u8 (0)), (.int .u16 (0)), (.int .u16 (0)), (.int .u32 (0)), (.int .u64 (0)), (.int .u16 (0))]) Zv43 rfl ?_)
                      intro b76 w76 hn76
                      have hbn76 := hn76.num; have hbs76 := hn76.size
                      replace hN := hN.ext hn76.ext
                      replace hT := hT.ext hn76.ext
                      replace hU := hU.trans (Ext.upd hn76.ext)
                      replace hkr := hkr.ext hn76.ext
                      have hB76 := hn76.blk
                      refine L_op0 (X_storeW (b := b76) (ys := itC ((ka, .slice none 0 0, [107], [], ptZ, 3) : IE)) A43 rfl rfl (itC_one hkr.sv.one rfl) rfl hB76 rfl ?_)
                      intro w77 hu77 hb77
                      have hz77 := hu77.size
                      replace hN := hN.upd hu77 fun i h1 h2 h => by have h : i = b76 := h; omega
                      replace hT := hT.upd hu77 fun i h1 h2 h => by have h : i = b76 := h; omega
                      replace hU := hU.trans (hu77.mono fun i _ h => by have h : i = b76 := h; show n0 ≤ i; omega)
                      replace hkr := hkr.upd hu77 fun i hi h => by have hi := hkr_b _ hi; have h : i = b76 := h; omega
                      replace hB76 := hb77
                      refine L_nil ?_
                      refine T_n ?_
                      refine W_seq ?_
                      refine W_reg ?_
                      refine L_op rfl (X_move (v := u) rfl ?_)
                      refine L_op rfl (X_fn (vs := [u]) en14 rfl (CT.mono (c_rightI u fs _ n0 s0 (by omega) hN.rd hptN) ?_))
                      rintro _ w78 ⟨rfl, hu78⟩
                      have hz78 := hu78.size
                      replace hN := hN.ext hu78
                      replace hT := hT.ext hu78
                      replace hU := hU.trans (Ext.upd hu78)
                      replace hkr := hkr.ext hu78
                      replace hB76 := hB76.ext hu78
                      rw [hfs, dsN_dec]
                      rcases Bool.eq_false_or_eq_true (decide (i ≤ 6)) with hc79 | hc79
                      · rw [hc79]
                        refine L_op rfl (X_move (v := (.int .i64 (n))) rfl ?_)
                        have h6 := of_decide_eq_true hc79
                        refine L_op rfl (X_cmp (k := .i64) (a := n) (b := 6) (r := true) rfl rfl rfl (decide_eq_true (p := ((n) : Int) ≤ ((6) : Int)) (by omega)) ?_)
                        refine L_op rfl (X_cmpBool (a := true) (b := true) (r := true) Tryd.underlying4 rfl rfl (.inl ⟨rfl, rfl⟩) ?_)
                        refine L_op rfl (X_move (v := (.bool (true))) rfl ?_)
                        refine L_gy (dj := 95) rfl rfl rfl (X_loadA (p := (ptr b76 (0))) (xs := itC ((ka, .slice none 0 0, [107], [], ptZ, 3) : IE)) A43 rfl hB76.atAll rfl ?_)
                        refine L_gy (dj := 95) rfl rfl rfl (X_buildSliceL (vs := [.agg (itC ((ka, .slice none 0 0, [107], [], ptZ, 3))).toArray]) (c := itC ((ka, .slice none 0 0, [107], [], ptZ, 3))) S22 (by decide) rfl rfl (List.forall_mem_cons.2 ⟨rfl, fun _ h => by cases h⟩) rfl ?_)
                        intro bk wk hnk
                        have hbnk := hnk.num; have hbsk := hnk.size
                        replace hN := hN.ext hnk.ext
                        replace hT := hT.ext hnk.ext
                        replace hU := hU.trans (Ext.upd hnk.ext)
                        replace hkr := hkr.ext hnk.ext
                        replace hB76 := hB76.ext hnk.ext
                        have hBk := hnk.blk
                        obtain ⟨uk, huk_⟩ : ∃ n, n = wk.heap.size := ⟨_, rfl⟩
                        have hlk := one_row (e := ((ka, .slice none 0 0, [107], [], ptZ, 3))) (up := uk) hBk (by omega) ⟨hkr, fun b hb => ⟨Nat.zero_le _, by have := hkr_b b hb; omega⟩⟩ (BRd.nil _ _ _)
                        refine L_gy (dj := 95) rfl rfl rfl (X_fn (vs := [(.slice (some ⟨bk, 0, none⟩) 1 1)]) en14 rfl (CT.mono (c_rightI _ [((ka, .slice none 0 0, [107], [], ptZ, 3) : IE)] _ 0 uk (by omega) hlk (fun e he => by have h : e = ((ka, .slice none 0 0, [107], [], ptZ, 3) : IE) := (by simpa using he); subst h; exact ItS)) ?_))
                        rintro _ w80 ⟨rfl, hu80⟩
                        have hz80 := hu80.size
                        replace hN := hN.ext hu80
                        replace hT := hT.ext hu80
                        replace hU := hU.trans (Ext.upd hu80)
                        replace hkr := hkr.ext hu80
                        replace hB76 := hB76.ext hu80
                        replace hlk := hlk.ext hu80
                        rw [show decide (RightI (dsI [((ka, .slice none 0 0, [107], [], ptZ, 3) : IE)])) = false from decide_eq_false IWS_not]
                        refine L_gy (dj := 95) rfl rfl rfl (X_not (b := false) (r := true) rfl rfl ?_)
                        refine L_op rfl (X_pick (t := true) (v := (.bool (true))) rfl rfl ?_)
                        refine L_op rfl (X_move (v := (.bool (true))) rfl ?_)
                        refine L_gy (dj := 101) rfl rfl rfl (X_fn (vs := [(.slice none 0 0)]) en14 rfl (CT.mono (c_rightI _ [] _ 0 0 (Nat.zero_le _) (NRd.nil _ _ _) (fun e he => by cases he)) ?_))
                        rintro _ w81 ⟨rfl, hu81⟩
                        have hz81 := hu81.size
                        replace hN := hN.ext hu81
                        replace hT := hT.ext hu81
                        replace hU := hU.trans (Ext.upd hu81)
                        replace hkr := hkr.ext hu81
                        replace hB76 := hB76.ext hu81
                        replace hlk := hlk.ext hu81
                        rw [show decide (RightI (dsI [])) = true from decide_eq_true IW0_right]
                        refine L_op rfl (X_pick (t := true) (v := (.bool (true))) rfl rfl ?_)
                        refine L_op rfl (X_move (v := (.bool (true))) rfl ?_)
                        refine L_gy (dj := 104) rfl rfl rfl (X_move (v := u) rfl ?_)
                        refine L_gy (dj := 104) rfl rfl rfl (X_move (v := u) rfl ?_)
                        refine L_gy (dj := 104) rfl rfl rfl (X_fn (vs := [u, u]) en15 rfl (CT.mono (c_sameI u u fs fs _ n0 s0 n0 s0 (by omega) (by omega) hN.rd hN.rd) ?_))
                        rintro _ w82 ⟨⟨g82, rfl, hg82⟩, hu82⟩
                        have hz82 := hu82.size
                        replace hN := hN.ext hu82
                        replace hT := hT.ext hu82
                        replace hU := hU.trans (Ext.upd hu82)
                        replace hkr := hkr.ext hu82
                        replace hB76 := hB76.ext hu82
                        replace hlk := hlk.ext hu82
                        obtain rfl : g82 = true := hg82.2 rfl
                        refine L_op rfl (X_pick (t := true) (v := (.bool (true))) rfl rfl ?_)
                        refine L_op rfl (X_move (v := (.bool (true))) rfl ?_)
                        refine L_gy (dj := 109) rfl rfl rfl (X_fn (vs := []) en9 rfl (CT.mono (c_wakes _ hT) ?_))
                        rintro vb83 w83 ⟨hvb83, hu83⟩
                        have hz83 := hu83.size
                        replace hN := hN.ext hu83
                        replace hT := hT.ext hu83
                        replace hU := hU.trans (Ext.upd hu83)
                        replace hkr := hkr.ext hu83
                        replace hB76 := hB76.ext hu83
                        replace hlk := hlk.ext hu83
                        subst hvb83
                        refine L_op rfl (X_pick (t := true) (v := (.bool (true))) rfl rfl ?_)
                        refine L_op rfl (X_assign (v := (.bool (true))) rfl ?_)
                        refine L_nil ?_
                        refine T_n ?_
                        refine W_ret ?_
                        exact BQ_r (End_1 Tryd.results5 (v := .bool true) rfl ⟨rfl, hU.own hn0⟩)
                      · rw [hc79]
                        refine L_op rfl (X_move (v := (.int .i64 (n))) rfl ?_)
                        have h6 := of_decide_eq_false hc79
                        refine L_op rfl (X_cmp (k := .i64) (a := n) (b := 6) (r := false) rfl rfl rfl (decide_eq_false (p := ((n) : Int) ≤ ((6) : Int)) (by omega)) ?_)
                        refine L_op rfl (X_cmpBool (a := false) (b := false) (r := true) Tryd.underlying4 rfl rfl (.inl ⟨rfl, rfl⟩) ?_)
                        refine L_op rfl (X_move (v := (.bool (true))) rfl ?_)
                        refine L_gy (dj := 95) rfl rfl rfl (X_loadA (p := (ptr b76 (0))) (xs := itC ((ka, .slice none 0 0, [107], [], ptZ, 3) : IE)) A43 rfl hB76.atAll rfl ?_)
                        refine L_gy (dj := 95) rfl rfl rfl (X_buildSliceL (vs := [.agg (itC ((ka, .slice none 0 0, [107], [], ptZ, 3))).toArray]) (c := itC ((ka, .slice none 0 0, [107], [], ptZ, 3))) S22 (by decide) rfl rfl (List.forall_mem_cons.2 ⟨rfl, fun _ h => by cases h⟩) rfl ?_)
                        intro bk wk hnk
                        have hbnk := hnk.num; have hbsk := hnk.size
                        replace hN := hN.ext hnk.ext
                        replace hT := hT.ext hnk.ext
                        replace hU := hU.trans (Ext.upd hnk.ext)
                        replace hkr := hkr.ext hnk.ext
                        replace hB76 := hB76.ext hnk.ext
                        have hBk := hnk.blk
                        obtain ⟨uk, huk_⟩ : ∃ n, n = wk.heap.size := ⟨_, rfl⟩
                        have hlk := one_row (e := ((ka, .slice none 0 0, [107], [], ptZ, 3))) (up := uk) hBk (by omega) ⟨hkr, fun b hb => ⟨Nat.zero_le _, by have := hkr_b b hb; omega⟩⟩ (BRd.nil _ _ _)
                        refine L_gy (dj := 95) rfl rfl rfl (X_fn (vs := [(.slice (some ⟨bk, 0, none⟩) 1 1)]) en14 rfl (CT.mono (c_rightI _ [((ka, .slice none 0 0, [107], [], ptZ, 3) : IE)] _ 0 uk (by omega) hlk (fun e he => by have h : e = ((ka, .slice none 0 0, [107], [], ptZ, 3) : IE) := (by simpa using he); subst h; exact ItS)) ?_))
                        rintro _ w84 ⟨rfl, hu84⟩
                        have hz84 := hu84.size
                        replace hN := hN.ext hu84
                        replace hT := hT.ext hu84
                        replace hU := hU.trans (Ext.upd hu84)
                        replace hkr := hkr.ext hu84
                        replace hB76 := hB76.ext hu84
                        replace hlk := hlk.ext hu84
                        rw [show decide (RightI (dsI [((ka, .slice none 0 0, [107], [], ptZ, 3) : IE)])) = false from decide_eq_false IWS_not]
                        refine L_gy (dj := 95) rfl rfl rfl (X_not (b := false) (r := true) rfl rfl ?_)
                        refine L_op rfl (X_pick (t := true) (v := (.bool (true))) rfl rfl ?_)
                        refine L_op rfl (X_move (v := (.bool (true))) rfl ?_)
                        refine L_gy (dj := 101) rfl rfl rfl (X_fn (vs := [(.slice none 0 0)]) en14 rfl (CT.mono (c_rightI _ [] _ 0 0 (Nat.zero_le _) (NRd.nil _ _ _) (fun e he => by cases he)) ?_))
                        rintro _ w85 ⟨rfl, hu85⟩
                        have hz85 := hu85.size
                        replace hN := hN.ext hu85
                        replace hT := hT.ext hu85
                        replace hU := hU.trans (Ext.upd hu85)
                        replace hkr := hkr.ext hu85
                        replace hB76 := hB76.ext hu85
                        replace hlk := hlk.ext hu85
                        rw [show decide (RightI (dsI [])) = true from decide_eq_true IW0_right]
                        refine L_op rfl (X_pick (t := true) (v := (.bool (true))) rfl rfl ?_)
                        refine L_op rfl (X_move (v := (.bool (true))) rfl ?_)
                        refine L_gy (dj := 104) rfl rfl rfl (X_move (v := u) rfl ?_)
                        refine L_gy (dj := 104) rfl rfl rfl (X_move (v := u) rfl ?_)
                        refine L_gy (dj := 104) rfl rfl rfl (X_fn (vs := [u, u]) en15 rfl (CT.mono (c_sameI u u fs fs _ n0 s0 n0 s0 (by omega) (by omega) hN.rd hN.rd) ?_))
                        rintro _ w86 ⟨⟨g86, rfl, hg86⟩, hu86⟩
                        have hz86 := hu86.size
                        replace hN := hN.ext hu86
                        replace hT := hT.ext hu86
                        replace hU := hU.trans (Ext.upd hu86)
                        replace hkr := hkr.ext hu86
                        replace hB76 := hB76.ext hu86
                        replace hlk := hlk.ext hu86
                        obtain rfl : g86 = true := hg86.2 rfl
                        refine L_op rfl (X_pick (t := true) (v := (.bool (true))) rfl rfl ?_)
                        refine L_op rfl (X_move (v := (.bool (true))) rfl ?_)
                        refine L_gy (dj := 109) rfl rfl rfl (X_fn (vs := []) en9 rfl (CT.mono (c_wakes _ hT) ?_))
                        rintro vb87 w87 ⟨hvb87, hu87⟩
                        have hz87 := hu87.size
                        replace hN := hN.ext hu87
                        replace hT := hT.ext hu87
                        replace hU := hU.trans (Ext.upd hu87)
                        replace hkr := hkr.ext hu87
                        replace hB76 := hB76.ext hu87
                        replace hlk := hlk.ext hu87
                        subst hvb87
                        refine L_op rfl (X_pick (t := true) (v := (.bool (true))) rfl rfl ?_)
                        refine L_op rfl (X_assign (v := (.bool (true))) rfl ?_)
                        refine L_nil ?_
                        refine T_n ?_
                        refine W_ret ?_
                        exact BQ_r (End_1 Tryd.results5 (v := .bool true) rfl ⟨rfl, hU.own hn0⟩)
                · refine L_gy (dj := 43) rfl rfl rfl (X_cmp (k := .i64) (a := ((lb.length : Nat) : Int)) (b := 1) (r := false) rfl rfl rfl (decide_eq_false (p := ((1) : Int) ≤ ((((lb.length : Nat) : Int)) : Int)) (by omega)) ?_)
                  refine L_op rfl (X_pick (t := true) (v := (.bool (false))) rfl rfl ?_)
                  refine L_op rfl (X_move (v := (.bool (false))) rfl ?_)
                  refine L_gn (dj := 48) (t := false) rfl rfl rfl rfl ?_
                  refine L_gn (dj := 48) (t := false) rfl rfl rfl rfl ?_
                  refine L_gn (dj := 48) (t := false) rfl rfl rfl rfl ?_
                  refine L_op rfl (X_pick (t := false) (v := (.bool (false))) rfl rfl ?_)
                  refine L_op rfl (X_move (v := (.bool (false))) rfl ?_)
                  refine L_gn (dj := 53) (t := false) rfl rfl rfl rfl ?_
                  refine L_gn (dj := 53) (t := false) rfl rfl rfl rfl ?_
                  refine L_gn (dj := 53) (t := false) rfl rfl rfl rfl ?_
                  refine L_op rfl (X_pick (t := false) (v := (.bool (false))) rfl rfl ?_)
                  refine L_op rfl (X_assign (v := (.bool (false))) rfl ?_)
                  refine L_nil ?_
                  refine T_n ?_
                  refine W_seq ?_
                  refine W_seq ?_
                  refine W_reg ?_
                  refine L_op rfl (X_move (v := va) rfl ?_)
                  refine L_op rfl (X_move (v := vv) rfl ?_)
                  refine L_op rfl (X_build (built43ab' ha.sv hv.sv la lv) ?_)
                  refine L_op rfl (X_move (v := vb) rfl ?_)
                  refine L_op rfl (X_build (built43' hb.sv lb) ?_)
                  refine L_op rfl (X_buildSliceL (vs := [.agg (itC ((va, vv, la, lv, ptZ, 0) : IE)).toArray, .agg (itC ((vb, .slice none 0 0, lb, [], ptZ, 0) : IE)).toArray]) (c := [((va, vv, la, lv, ptZ, 0) : IE), ((vb, .slice none 0 0, lb, [], ptZ, 0) : IE)].flatMap LT.cel) S22 (by decide) rfl rfl (List.forall_mem_cons.2 ⟨rfl, List.forall_mem_cons.2 ⟨rfl, fun _ h => by cases h⟩⟩) rfl ?_)
                  intro b2 w2 hn2
                  have hbn2 := hn2.num; have hbs2 := hn2.size
                  replace ha := ha.ext hn2.ext
                  replace hb := hb.ext hn2.ext
                  replace hv := hv.ext hn2.ext
                  replace hU := hU.trans (Ext.upd hn2.ext)
                  replace hT := hT.ext hn2.ext
                  have hB2 := hn2.blk
                  obtain ⟨u2, hu2_⟩ : ∃ n, n = w2.heap.size := ⟨_, rfl⟩
                  have hl2 := two_row (e := ((va, vv, la, lv, ptZ, 0) : IE)) (f := ((vb, .slice none 0 0, lb, [], ptZ, 0) : IE)) (up := u2) hB2 (by omega) ⟨ha, fun b hb_ => ⟨Nat.zero_le _, by have := ha_b b hb_; omega⟩⟩ ⟨hv, fun b hb_ => ⟨Nat.zero_le _, by have := hv_b b hb_; omega⟩⟩ ⟨hb, fun b hb_ => ⟨Nat.zero_le _, by have := hb_b b hb_; omega⟩⟩ (BRd.nil _ _ _)
                  refine L_op rfl (X_fn (vs := [(.slice (some ⟨b2, 0, none⟩) 2 2)]) en14 rfl (CT.mono (c_rightI _ [((va, vv, la, lv, ptZ, 0) : IE), ((vb, .slice none 0 0, lb, [], ptZ, 0) : IE)] _ 0 u2 (by omega) hl2 (fun e he => by have h : e = ((va, vv, la, lv, ptZ, 0) : IE) ∨ e = ((vb, .slice none 0 0, lb, [], ptZ, 0) : IE) := (by simpa using he); rcases h with rfl | rfl; (· exact ItZ2 _ _); (· exact ItZ _))) ?_))
                  rintro _ w88 ⟨rfl, hu88⟩
                  have hz88 := hu88.size
                  replace ha := ha.ext hu88
                  replace hb := hb.ext hu88
                  replace hv := hv.ext hu88
                  replace hU := hU.trans (Ext.upd hu88)
                  replace hT := hT.ext hu88
                  rw [show decide (RightI (dsI [((va, vv, la, lv, ptZ, 0) : IE), ((vb, .slice none 0 0, lb, [], ptZ, 0) : IE)])) = false from decide_eq_false fun h => by have h9 := right2.1 (show RightI (ds2 la lb lv) from h); omega]
                  refine L_op rfl (X_move (v := (.bool (false))) rfl ?_)
                  refine L_op rfl (X_move (v := (.bool (false))) rfl ?_)
                  refine L_gn (dj := 66) (t := false) rfl rfl rfl rfl ?_
                  refine L_gn (dj := 66) (t := false) rfl rfl rfl rfl ?_
                  refine L_gn (dj := 66) (t := false) rfl rfl rfl rfl ?_
                  refine L_gn (dj := 66) (t := false) rfl rfl rfl rfl ?_
                  refine L_gn (dj := 66) (t := false) rfl rfl rfl rfl ?_
                  refine L_op rfl (X_pick (t := false) (v := (.bool (false))) rfl rfl ?_)
                  refine L_op rfl (X_cmpBool (a := false) (b := false) (r := false) Tryd.underlying4 rfl rfl (.inr ⟨rfl, rfl⟩) ?_)
                  refine L_nil ?_
                  refine T_n ?_
                  refine W_cf rfl ?_
                  refine W_skip ?_
                  refine T_n ?_
                  refine W_seq ?_
                  refine W_reg ?_
                  refine L_op rfl (X_assign (v := (.slice none 0 0)) rfl ?_)
                  refine L_nil ?_
                  refine T_n ?_
                  refine W_seq ?_
                  refine W_seq ?_
                  refine W_reg ?_
                  refine L_op rfl (X_assign (v := (.int .i64 (0))) rfl ?_)
                  refine L_nil ?_
                  refine T_n ?_
                  refine W_block ?_
                  refine W_loop (α := Nat × Value × List IE) [10, 11, 74, 75, 76, 77, 78, 79, 80, 81, 82, 83, 84, 85, 86] (fun ⟨i, u, fs⟩ => [(11, (.int .i64 (((i : Nat) : Int)))), (10, u)]) (fun ⟨i, u, fs⟩ w_ => ((i : Nat) : Int) ≤ n ∧ NOwn LT w_ 43 5 n0 w_.heap.size u fs ∧ dsI fs = dsN i ∧ TabR w_ ∧ Upd (fun i => n0 ≤ i) w w_) (fun ⟨i, u, fs⟩ => n.toNat - i) ⟨rfl, (0, .slice none 0 0, []), ⟨by omega, NOwn.nil _ _ _ _ _, rfl, hT, hU⟩, Out.refl _ _, ⟨rfl, rfl, trivial⟩⟩ ?_
                  rintro ⟨i, u, fs⟩ w89 _ ⟨hin_, hN, hfs, hT, hU⟩
                  have hsz_ := hU.size
                  obtain ⟨s0, hs0⟩ : ∃ n, n = w89.heap.size := ⟨_, rfl⟩
                  rw [← hs0] at hN
                  have hfl : fs.length = i := by have h := congrArg List.length hfs; unfold dsN at h; rw [dsI_len, List.length_map, List.length_range] at h; exact h
                  refine W_seq ?_
                  refine W_seq ?_
                  refine W_reg ?_
                  refine L_op rfl (X_move (v := (.int .i64 (((i : Nat) : Int)))) rfl ?_)
                  refine L_op rfl (X_move (v := (.int .i64 (n))) rfl ?_)
                  by_cases hc90 : (((i : Nat) : Int) : Int) < (n)
                  · refine L_op rfl (X_cmp (k := .i64) (a := ((i : Nat) : Int)) (b := n) (r := true) rfl rfl rfl (decide_eq_true (p := ((((i : Nat) : Int)) : Int) < ((n) : Int)) (by omega)) ?_)
                    refine L_nil ?_
                    refine T_n ?_
                    refine W_ct rfl ?_
                    refine W_skip ?_
                    refine T_n ?_
                    refine W_seq ?_
                    refine W_block ?_
                    refine W_reg ?_
                    refine L_op rfl (X_move (v := u) rfl ?_)
                    refine L_op rfl (X_move (v := (.int .i64 (((i : Nat) : Int)))) rfl ?_)
                    refine L_op rfl (X_arith (k := .i64) (a := ((i : Nat) : Int)) (b := 1) (r := ((i + 1 : Nat) : Int)) rfl rfl rfl (iadd64 (by omega) (by omega) (by omega)) ?_)
                    refine L_op rfl (X_convInt (k := .i64) (a := ((i + 1 : Nat) : Int)) (r := ((UInt8.ofNat (i + 1)).toNat : Int)) (by rw [Tryd.underlying3]; rfl) Tryd.underlying5 rfl (u8_wrap _) ?_)
                    refine L_op rfl (X_buildSlice1 (vs := [(.int .u8 (((UInt8.ofNat (i + 1)).toNat : Int)))]) S35 (by decide) rfl rfl (List.forall_mem_cons.2 ⟨rfl, (fun _ h => by cases h)⟩) ?_)
                    intro b91 w91 hn91
                    have hbn91 := hn91.num; have hbs91 := hn91.size
                    replace hN := hN.ext hn91.ext
                    replace hT := hT.ext hn91.ext
                    replace hU := hU.trans (Ext.upd hn91.ext)
                    have hB91 := hn91.blk
                    obtain ⟨bk, hbk⟩ : ∃ n, n = b91 := ⟨_, rfl⟩
                    rw [← hbk] at hB91 ⊢
                    have hKo : Own w91 s0 5 1 (.slice (some ⟨bk, 0, none⟩) 1 1) ([UInt8.ofNat (i + 1)] : List UInt8).length (([UInt8.ofNat (i + 1)] : List UInt8).map byteV) := hB91.own (by omega) (Nat.le_refl _) (by decide) (Nat.le_refl _)
                    have hKb : ∀ b, obk (.slice (some ⟨bk, 0, none⟩) 1 1) = some b → b = bk := fun b hb => (Option.some.inj hb).symm
                    refine L_op rfl (X_build (built43' hKo.sv [UInt8.ofNat (i + 1)]) ?_)
                    refine L_op rfl (X_buildSliceL (vs := [.agg (itC ((.slice (some ⟨bk, 0, none⟩) 1 1, .slice none 0 0, [UInt8.ofNat (i + 1)], [], ptZ, 0) : IE)).toArray]) (c := itC ((.slice (some ⟨bk, 0, none⟩) 1 1, .slice none 0 0, [UInt8.ofNat (i + 1)], [], ptZ, 0) : IE)) S22 (by decide) rfl rfl (List.forall_mem_cons.2 ⟨rfl, fun _ h => by cases h⟩) rfl ?_)
                    intro bq wq hnq
                    have hbnq := hnq.num; have hbsq := hnq.size
                    replace hN := hN.ext hnq.ext
                    replace hT := hT.ext hnq.ext
                    replace hU := hU.trans (Ext.upd hnq.ext)
                    replace hKo := hKo.ext hnq.ext
                    have hBq := hnq.blk
                    refine L_op rfl (X_append (B := n0) (n := fs.length) (s := u) (x := (.slice (some ⟨bq, 0, none⟩) 1 1)) S22 ⟨_, Tryd.underlying22⟩ rfl rfl hN.1 (m := 1) (ys := itC ((.slice (some ⟨bk, 0, none⟩) 1 1, .slice none 0 0, [UInt8.ofNat (i + 1)], [], ptZ, 0) : IE)) (hBq.rd (o := 0) (n := 1) (c := 1) (sz := 8) (by decide) (by decide) rfl (fun j u hj => by rw [Nat.zero_add]; simpa using hj)) (itC_one hKo.sv.one rfl) (by unfold maxLen; omega) (by omega) (by omega) ?_)
                    intro v5 w5 hO5 hu5 ho5
                    have hz5 := hu5.size
                    have hN5 := NOwn.push (L := LT) (e := ((.slice (some ⟨bk, 0, none⟩) 1 1, .slice none 0 0, [UInt8.ofNat (i + 1)], [], ptZ, 0) : IE)) (hi' := wq.heap.size) (by decide) hN hO5 hu5 (fun s hs => by have h1 : s = (Value.slice (some ⟨bk, 0, none⟩) 1 1, [UInt8.ofNat (i + 1)]) ∨ s = (Value.slice none 0 0, []) := by { simpa [LT] using hs }; rcases h1 with rfl | rfl; (· exact ⟨hKo.more (by omega), fun b hb => (hKo.lt hb).2⟩); (· exact BOwn.nil _ _ _ _)) (by omega) (by omega)
                    replace hT := hT.upd hu5 fun i h1 h2 h => by have := (hN.1.lt h).1; omega
                    replace hU := hU.trans (hu5.mono fun i _ h => by have := (hN.1.lt h).1; show n0 ≤ i; omega)
                    refine L_op rfl (X_assign (v := v5) rfl ?_)
                    refine L_nil ?_
                    refine B_n ?_
                    refine T_n ?_
                    refine W_reg ?_
                    refine L_op rfl (X_move (v := (.int .i64 (((i : Nat) : Int)))) rfl ?_)
                    refine L_op rfl (X_arith (k := .i64) (a := ((i : Nat) : Int)) (b := 1) (r := ((i + 1 : Nat) : Int)) rfl rfl rfl (iadd64 (by omega) (by omega) (by omega)) ?_)
                    refine L_op rfl (X_assign (v := (.int .i64 (((i + 1 : Nat) : Int)))) rfl ?_)
                    refine L_nil ?_
                    refine T_n ?_
                    exact ⟨rfl, (i + 1, v5, fs ++ [((.slice (some ⟨bk, 0, none⟩) 1 1, .slice none 0 0, [UInt8.ofNat (i + 1)], [], ptZ, 0) : IE)]), ⟨⟨by omega, hN5, by unfold dsI at hfs ⊢; rw [List.map_append, hfs, dsN_step]; rfl, hT, hU⟩, (by show n.toNat - (i + 1) < n.toNat - i; omega)⟩, (Out.mk rfl), ⟨rfl, rfl, trivial⟩⟩
                  · refine L_op rfl (X_cmp (k := .i64) (a := ((i : Nat) : Int)) (b := n) (r := false) rfl rfl rfl (decide_eq_false (p := ((((i : Nat) : Int)) : Int) < ((n) : Int)) (by omega)) ?_)
                    have hin : ((i : Nat) : Int) = n := by omega
                    have hptN := pts_of hfs (dsN_ok i)
                    refine L_nil ?_
                    refine T_n ?_
                    refine W_cf rfl ?_
                    refine W_exit ?_
                    refine T_e ?_
                    refine T_e ?_
                    refine B_x ?_
                    refine T_n ?_
                    refine W_seq ?_
                    refine W_reg ?_
                    refine L_op rfl (X_buildSlice1 (vs := [(.int .u8 (107))]) S35 (by decide) rfl rfl (List.forall_mem_cons.2 ⟨rfl, (fun _ h => by cases h)⟩) ?_)
                    intro b92 w92 hn92
                    have hbn92 := hn92.num; have hbs92 := hn92.size
                    replace hN := hN.ext hn92.ext
                    replace hT := hT.ext hn92.ext
                    replace hU := hU.trans (Ext.upd hn92.ext)
                    have hB92 := hn92.blk
                    refine L_op rfl (X_convMark (l := [(107 : UInt8)]) Tryd.underlying35 Tryd.underlying5 rfl hB92 (fun j u hj => by simpa [byteV] using hj) rfl (by decide) ?_)
                    intro w93 hu93 hc93
                    have hz93 := hu93.size
                    replace hN := hN.upd hu93 fun i h1 h2 h => by have h : i = b92 := h; omega
                    replace hT := hT.upd hu93 fun i h1 h2 h => by have h : i = b92 := h; omega
                    replace hU := hU.trans (hu93.mono fun i _ h => by have h : i = b92 := h; show n0 ≤ i; omega)
                    have hc93_b : ∀ i, rbk (.slice (some ⟨b92, 0, none⟩) 1 1) = some i → i < w93.heap.size := fun i hi => hc93.bound (by decide) hi
                    refine L_op rfl (X_build (built43s' hc93.sv [107]) ?_)
                    obtain ⟨ka, hka⟩ : ∃ x : Value, x = (.slice (some ⟨b92, 0, none⟩) 1 1) := ⟨_, rfl⟩
                    have hkr := hc93; rw [← hka] at hkr; rw [← hka]
                    have hkr_b : ∀ b, rbk ka = some b → b < w93.heap.size := fun b hb => hkr.bound (by decide) hb
                    refine L_op rfl (X_alloc (z := (.agg #[(.slice none 0 0), (.slice none 0 0), (.int .u8 (0)), (.int .u16 (0)), (.int .u16 (0)), (.int .u32 (0)), (.int .u64 (0)), (.int .u16 (0))])) (c := #[(.slice none 0 0), (.slice none 0 0), (.int .u8 (0)), (.int .u16 (0)), (.int .u16 (0)), (.int .u32 (0)), (.int .u64 (0)), (.int .u16 (0))]) Zv43 rfl ?_)
                    intro b94 w94 hn94
                    have hbn94 := hn94.num; have hbs94 := hn94.size
                    replace hN := hN.ext hn94.ext
                    replace hT := hT.ext hn94.ext
                    replace hU := hU.trans (Ext.upd hn94.ext)
                    replace hkr := hkr.ext hn94.ext
                    have hB94 := hn94.blk
                    refine L_op0 (X_storeW (b := b94) (ys := itC ((ka, .slice none 0 0, [107], [], ptZ, 3) : IE)) A43 rfl rfl (itC_one hkr.sv.one rfl) rfl hB94 rfl ?_)
                    intro w95 hu95 hb95
                    have hz95 := hu95.size
                    replace hN := hN.upd hu95 fun i h1 h2 h => by have h : i = b94 := h; omega
                    replace hT := hT.upd hu95 fun i h1 h2 h => by have h : i = b94 := h; omega
                    replace hU := hU.trans (hu95.mono fun i _ h => by have h : i = b94 := h; show n0 ≤ i; omega)
                    replace hkr := hkr.upd hu95 fun i hi h => by have hi := hkr_b _ hi; have h : i = b94 := h; omega
                    replace hB94 := hb95
                    refine L_nil ?_
                    refine T_n ?_
                    refine W_seq ?_
                    refine W_reg ?_
                    refine L_op rfl (X_move (v := u) rfl ?_)
                    refine L_op rfl (X_fn (vs := [u]) en14 rfl (CT.mono (c_rightI u fs _ n0 s0 (by omega) hN.rd hptN) ?_))
                    rintro _ w96 ⟨rfl, hu96⟩
                    have hz96 := hu96.size
                    replace hN := hN.ext hu96
                    replace hT := hT.ext hu96
                    replace hU := hU.trans (Ext.upd hu96)
                    replace hkr := hkr.ext hu96
                    replace hB94 := hB94.ext hu96
                    rw [hfs, dsN_dec]
                    rcases Bool.eq_false_or_eq_true (decide (i ≤ 6)) with hc97 | hc97
                    · rw [hc97]
                      refine L_op rfl (X_move (v := (.int .i64 (n))) rfl ?_)
                      have h6 := of_decide_eq_true hc97
                      refine L_op rfl (X_cmp (k := .i64) (a := n) (b := 6) (r := true) rfl rfl rfl (decide_eq_true (p := ((n) : Int) ≤ ((6) : Int)) (by omega)) ?_)
                      refine L_op rfl (X_cmpBool (a := true) (b := true) (r := true) Tryd.underlying4 rfl rfl (.inl ⟨rfl, rfl⟩) ?_)
                      refine L_op rfl (X_move (v := (.bool (true))) rfl ?_)
                      refine L_gy (dj := 95) rfl rfl rfl (X_loadA (p := (ptr b94 (0))) (xs := itC ((ka, .slice none 0 0, [107], [], ptZ, 3) : IE)) A43 rfl hB94.atAll rfl ?_)
                      refine L_gy (dj := 95) rfl rfl rfl (X_buildSliceL (vs := [.agg (itC ((ka, .slice none 0 0, [107], [], ptZ, 3))).toArray]) (c := itC ((ka, .slice none 0 0, [107], [], ptZ, 3))) S22 (by decide) rfl rfl (List.forall_mem_cons.2 ⟨rfl, fun _ h => by cases h⟩) rfl ?_)
                      intro bk wk hnk
                      have hbnk := hnk.num; have hbsk := hnk.size
                      replace hN := hN.ext hnk.ext
                      replace hT := hT.ext hnk.ext
                      replace hU := hU.trans (Ext.upd hnk.ext)
                      replace hkr := hkr.ext hnk.ext
                      replace hB94 := hB94.ext hnk.ext
                      have hBk := hnk.blk
                      obtain ⟨uk, huk_⟩ : ∃ n, n = wk.heap.size := ⟨_, rfl⟩
                      have hlk := one_row (e := ((ka, .slice none 0 0, [107], [], ptZ, 3))) (up := uk) hBk (by omega) ⟨hkr, fun b hb => ⟨Nat.zero_le _, by have := hkr_b b hb; omega⟩⟩ (BRd.nil _ _ _)
                      refine L_gy (dj := 95) rfl rfl rfl (X_fn (vs := [(.slice (some ⟨bk, 0, none⟩) 1 1)]) en14 rfl (CT.mono (c_rightI _ [((ka, .slice none 0 0, [107], [], ptZ, 3) : IE)] _ 0 uk (by omega) hlk (fun e he => by have h : e = ((ka, .slice none 0 0, [107], [], ptZ, 3) : IE) := (by simpa using he); subst h; exact ItS)) ?_))
                      rintro _ w98 ⟨rfl, hu98⟩
                      have hz98 := hu98.size
                      replace hN := hN.ext hu98
                      replace hT := hT.ext hu98
                      replace hU := hU.trans (Ext.upd hu98)
                      replace hkr := hkr.ext hu98
                      replace hB94 := hB94.ext hu98
                      replace hlk := hlk.ext hu98
                      rw [show decide (RightI (dsI [((ka, .slice none 0 0, [107], [], ptZ, 3) : IE)])) = false from decide_eq_false IWS_not]
                      refine L_gy (dj := 95) rfl rfl rfl (X_not (b := false) (r := true) rfl rfl ?_)
                      refine L_op rfl (X_pick (t := true) (v := (.bool (true))) rfl rfl ?_)
                      refine L_op rfl (X_move (v := (.bool (true))) rfl ?_)
                      refine L_gy (dj := 101) rfl rfl rfl (X_fn (vs := [(.slice none 0 0)]) en14 rfl (CT.mono (c_rightI _ [] _ 0 0 (Nat.zero_le _) (NRd.nil _ _ _) (fun e he => by cases he)) ?_))
                      rintro _ w99 ⟨rfl, hu99⟩
                      have hz99 := hu99.size
                      replace hN := hN.ext hu99
                      replace hT := hT.ext hu99
                      replace hU := hU.trans (Ext.upd hu99)
                      replace hkr := hkr.ext hu99
                      replace hB94 := hB94.ext hu99
                      replace hlk := hlk.ext hu99
                      rw [show decide (RightI (dsI [])) = true from decide_eq_true IW0_right]
                      refine L_op rfl (X_pick (t := true) (v := (.bool (true))) rfl rfl ?_)
                      refine L_op rfl (X_move (v := (.bool (true))) rfl ?_)
                      refine L_gy (dj := 104) rfl rfl rfl (X_move (v := u) rfl ?_)
                      refine L_gy (dj := 104) rfl rfl rfl (X_move (v := u) rfl ?_)
                      refine L_gy (dj := 104) rfl rfl rfl (X_fn (vs := [u, u]) en15 rfl (CT.mono (c_sameI u u fs fs _ n0 s0 n0 s0 (by omega) (by omega) hN.rd hN.rd) ?_))
                      rintro _ w100 ⟨⟨g100, rfl, hg100⟩, hu100⟩
                      have hz100 := hu100.size
                      replace hN := hN.ext hu100
                      replace hT := hT.ext hu100
                      replace hU := hU.trans (Ext.upd hu100)
                      replace hkr := hkr.ext hu100
                      replace hB94 := hB94.ext hu100
                      replace hlk := hlk.ext hu100
                      obtain rfl : g100 = true := hg100.2 rfl
                      refine L_op rfl (X_pick (t := true) (v := (.bool (true))) rfl rfl ?_)
                      refine L_op rfl (X_move (v := (.bool (true))) rfl ?_)
                      refine L_gy (dj := 109) rfl rfl rfl (X_fn (vs := []) en9 rfl (CT.mono (c_wakes _ hT) ?_))
                      rintro vb101 w101 ⟨hvb101, hu101⟩
                      have hz101 := hu101.size
                      replace hN := hN.ext hu101
                      replace hT := hT.ext hu101
                      replace hU := hU.trans (Ext.upd hu101)
                      replace hkr := hkr.ext hu101
                      replace hB94 := hB94.ext hu101
                      replace hlk := hlk.ext hu101
                      subst hvb101
                      refine L_op rfl (X_pick (t := true) (v := (.bool (true))) rfl rfl ?_)
                      refine L_op rfl (X_assign (v := (.bool (true))) rfl ?_)
                      refine L_nil ?_
                      refine T_n ?_
                      refine W_ret ?_
                      exact BQ_r (End_1 Tryd.results5 (v := .bool true) rfl ⟨rfl, hU.own hn0⟩)
                    · rw [hc97]
                      refine L_op rfl (X_move (v := (.int .i64 (n))) rfl ?_)
                      have h6 := of_decide_eq_false hc97
                      refine L_op rfl (X_cmp (k := .i64) (a := n) (b := 6) (r := false) rfl rfl rfl (decide_eq_false (p := ((n) : Int) ≤ ((6) : Int)) (by omega)) ?_)
                      refine L_op rfl (X_cmpBool (a := false) (b := false) (r := true) Tryd.underlying4 rfl rfl (.inl ⟨rfl, rfl⟩) ?_)
                      refine L_op rfl (X_move (v := (.bool (true))) rfl ?_)
                      refine L_gy (dj := 95) rfl rfl rfl (X_loadA (p := (ptr b94 (0))) (xs := itC ((ka, .slice none 0 0, [107], [], ptZ, 3) : IE)) A43 rfl hB94.atAll rfl ?_)
                      refine L_gy (dj := 95) rfl rfl rfl (X_buildSliceL (vs := [.agg (itC ((ka, .slice none 0 0, [107], [], ptZ, 3))).toArray]) (c := itC ((ka, .slice none 0 0, [107], [], ptZ, 3))) S22 (by decide) rfl rfl (List.forall_mem_cons.2 ⟨rfl, fun _ h => by cases h⟩) rfl ?_)
                      intro bk wk hnk
                      have hbnk := hnk.num; have hbsk := hnk.size
                      replace hN := hN.ext hnk.ext
                      replace hT := hT.ext hnk.ext
                      replace hU := hU.trans (Ext.upd hnk.ext)
                      replace hkr := hkr.ext hnk.ext
                      replace hB94 := hB94.ext hnk.ext
                      have hBk := hnk.blk
                      obtain ⟨uk, huk_⟩ : ∃ n, n = wk.heap.size := ⟨_, rfl⟩
                      have hlk := one_row (e := ((ka, .slice none 0 0, [107], [], ptZ, 3))) (up := uk) hBk (by omega) ⟨hkr, fun b hb => ⟨Nat.zero_le _, by have := hkr_b b hb; omega⟩⟩ (BRd.nil _ _ _)
                      refine L_gy (dj := 95) rfl rfl rfl (X_fn (vs := [(.slice (some ⟨bk, 0, none⟩) 1 1)]) en14 rfl (CT.mono (c_rightI _ [((ka, .slice none 0 0, [107], [], ptZ, 3) : IE)] _ 0 uk (by omega) hlk (fun e he => by have h : e = ((ka, .slice none 0 0, [107], [], ptZ, 3) : IE) := (by simpa using he); subst h; exact ItS)) ?_))
                      rintro _ w102 ⟨rfl, hu102⟩
                      have hz102 := hu102.size
                      replace hN := hN.ext hu102
                      replace hT := hT.ext hu102
                      replace hU := hU.trans (Ext.upd hu102)
                      replace hkr := hkr.ext hu102
                      replace hB94 := hB94.ext hu102
                      replace hlk := hlk.ext hu102
                      rw [show decide (RightI (dsI [((ka, .slice none 0 0, [107], [], ptZ, 3) : IE)])) = false from decide_eq_false IWS_not]
                      refine L_gy (dj := 95) rfl rfl rfl (X_not (b := false) (r := true) rfl rfl ?_)
                      refine L_op rfl (X_pick (t := true) (v := (.bool (true))) rfl rfl ?_)
                      refine L_op rfl (X_move (v := (.bool (true))) rfl ?_)
                      refine L_gy (dj := 101) rfl rfl rfl (X_fn (vs := [(.slice none 0 0)]) en14 rfl (CT.mono (c_rightI _ [] _ 0 0 (Nat.zero_le _) (NRd.nil _ _ _) (fun e he => by cases he)) ?_))
                      rintro _ w103 ⟨rfl, hu103⟩
                      have hz103 := hu103.size
                      replace hN := hN.ext hu103
                      replace hT := hT.ext hu103
                      replace hU := hU.trans (Ext.upd hu103)
                      replace hkr := hkr.ext hu103
                      replace hB94 := hB94.ext hu103
                      replace hlk := hlk.ext hu103
                      rw [show decide (RightI (dsI [])) = true from decide_eq_true IW0_right]
                      refine L_op rfl (X_pick (t := true) (v := (.bool (true))) rfl rfl ?_)
                      refine L_op rfl (X_move (v := (.bool (true))) rfl ?_)
                      refine L_gy (dj := 104) rfl rfl rfl (X_move (v := u) rfl ?_)
                      refine L_gy (dj := 104) rfl rfl rfl (X_move (v := u) rfl ?_)
                      refine L_gy (dj := 104) rfl rfl rfl (X_fn (vs := [u, u]) en15 rfl (CT.mono (c_sameI u u fs fs _ n0 s0 n0 s0 (by omega) (by omega) hN.rd hN.rd) ?_))
                      rintro _ w104 ⟨⟨g104, rfl, hg104⟩, hu104⟩
                      have hz104 := hu104.size
                      replace hN := hN.ext hu104
                      replace hT := hT.ext hu104
                      replace hU := hU.trans (Ext.upd hu104)
                      replace hkr := hkr.ext hu104
                      replace hB94 := hB94.ext hu104
                      replace hlk := hlk.ext hu104
                      obtain rfl : g104 = true := hg104.2 rfl
                      refine L_op rfl (X_pick (t := true) (v := (.bool (true))) rfl rfl ?_)
                      refine L_op rfl (X_move (v := (.bool (true))) rfl ?_)
                      refine L_gy (dj := 109) rfl rfl rfl (X_fn (vs := []) en9 rfl (CT.mono (c_wakes _ hT) ?_))
                      rintro vb105 w105 ⟨hvb105, hu105⟩
                      have hz105 := hu105.size
                      replace hN := hN.ext hu105
                      replace hT := hT.ext hu105
                      replace hU := hU.trans (Ext.upd hu105)
                      replace hkr := hkr.ext hu105
                      replace hB94 := hB94.ext hu105
                      replace hlk := hlk.ext hu105
                      subst hvb105
                      refine L_op rfl (X_pick (t := true) (v := (.bool (true))) rfl rfl ?_)
                      refine L_op rfl (X_assign (v := (.bool (true))) rfl ?_)
                      refine L_nil ?_
                      refine T_n ?_
                      refine W_ret ?_
                      exact BQ_r (End_1 Tryd.results5 (v := .bool true) rfl ⟨rfl, hU.own hn0⟩)
              · refine L_gy (dj := 38) rfl rfl rfl (X_cmp (k := .i64) (a := ((la.length : Nat) : Int)) (b := 8) (r := false) rfl rfl rfl (decide_eq_false (p := ((((la.length : Nat) : Int)) : Int) ≤ ((8) : Int)) (by omega)) ?_)
                refine L_op rfl (X_pick (t := true) (v := (.bool (false))) rfl rfl ?_)
                refine L_op rfl (X_move (v := (.bool (false))) rfl ?_)
                refine L_gn (dj := 43) (t := false) rfl rfl rfl rfl ?_
                refine L_gn (dj := 43) (t := false) rfl rfl rfl rfl ?_
                refine L_gn (dj := 43) (t := false) rfl rfl rfl rfl ?_
                refine L_op rfl (X_pick (t := false) (v := (.bool (false))) rfl rfl ?_)
                refine L_op rfl (X_move (v := (.bool (false))) rfl ?_)
                refine L_gn (dj := 48) (t := false) rfl rfl rfl rfl ?_
                refine L_gn (dj := 48) (t := false) rfl rfl rfl rfl ?_
                refine L_gn (dj := 48) (t := false) rfl rfl rfl rfl ?_
                refine L_op rfl (X_pick (t := false) (v := (.bool (false))) rfl rfl ?_)
                refine L_op rfl (X_move (v := (.bool (false))) rfl ?_)
                refine L_gn (dj := 53) (t := false) rfl rfl rfl rfl ?_
                refine L_gn (dj := 53) (t := false) rfl rfl rfl rfl ?_
                refine L_gn (dj := 53) (t := false) rfl rfl rfl rfl ?_
                refine L_op rfl (X_pick (t := false) (v := (.bool (false))) rfl rfl ?_)
                refine L_op rfl (X_assign (v := (.bool (false))) rfl ?_)
                refine L_nil ?_
                refine T_n ?_
                refine W_seq ?_
                refine W_seq ?_
                refine W_reg ?_
                refine L_op rfl (X_move (v := va) rfl ?_)
                refine L_op rfl (X_move (v := vv) rfl ?_)
                refine L_op rfl (X_build (built43ab' ha.sv hv.sv la lv) ?_)
                refine L_op rfl (X_move (v := vb) rfl ?_)
                refine L_op rfl (X_build (built43' hb.sv lb) ?_)
                refine L_op rfl (X_buildSliceL (vs := [.agg (itC ((va, vv, la, lv, ptZ, 0) : IE)).toArray, .agg (itC ((vb, .slice none 0 0, lb, [], ptZ, 0) : IE)).toArray]) (c := [((va, vv, la, lv, ptZ, 0) : IE), ((vb, .slice none 0 0, lb, [], ptZ, 0) : IE)].flatMap LT.cel) S22 (by decide) rfl rfl (List.forall_mem_cons.2 ⟨rfl, List.forall_mem_cons.2 ⟨rfl, fun _ h => by cases h⟩⟩) rfl ?_)
                intro b2 w2 hn2
                have hbn2 := hn2.num; have hbs2 := hn2.size
                replace ha := ha.ext hn2.ext
                replace hb := hb.ext hn2.ext
                replace hv := hv.ext hn2.ext
                replace hU := hU.trans (Ext.upd hn2.ext)
                replace hT := hT.ext hn2.ext
                have hB2 := hn2.blk
                obtain ⟨u2, hu2_⟩ : ∃ n, n = w2.heap.size := ⟨_, rfl⟩
                have hl2 := two_row (e := ((va, vv, la, lv, ptZ, 0) : IE)) (f := ((vb, .slice none 0 0, lb, [], ptZ, 0) : IE)) (up := u2) hB2 (by omega) ⟨ha, fun b hb_ => ⟨Nat.zero_le _, by have := ha_b b hb_; omega⟩⟩ ⟨hv, fun b hb_ => ⟨Nat.zero_le _, by have := hv_b b hb_; omega⟩⟩ ⟨hb, fun b hb_ => ⟨Nat.zero_le _, by have := hb_b b hb_; omega⟩⟩ (BRd.nil _ _ _)
                refine L_op rfl (X_fn (vs := [(.slice (some ⟨b2, 0, none⟩) 2 2)]) en14 rfl (CT.mono (c_rightI _ [((va, vv, la, lv, ptZ, 0) : IE), ((vb, .slice none 0 0, lb, [], ptZ, 0) : IE)] _ 0 u2 (by omega) hl2 (fun e he => by have h : e = ((va, vv, la, lv, ptZ, 0) : IE) ∨ e = ((vb, .slice none 0 0, lb, [], ptZ, 0) : IE) := (by simpa using he); rcases h with rfl | rfl; (· exact ItZ2 _ _); (· exact ItZ _))) ?_))
                rintro _ w106 ⟨rfl, hu106⟩
                have hz106 := hu106.size
                replace ha := ha.ext hu106
                replace hb := hb.ext hu106
                replace hv := hv.ext hu106
                replace hU := hU.trans (Ext.upd hu106)
                replace hT := hT.ext hu106
                rw [show decide (RightI (dsI [((va, vv, la, lv, ptZ, 0) : IE), ((vb, .slice none 0 0, lb, [], ptZ, 0) : IE)])) = false from decide_eq_false fun h => by have h9 := right2.1 (show RightI (ds2 la lb lv) from h); omega]
                refine L_op rfl (X_move (v := (.bool (false))) rfl ?_)
                refine L_op rfl (X_move (v := (.bool (false))) rfl ?_)
                refine L_gn (dj := 66) (t := false) rfl rfl rfl rfl ?_
                refine L_gn (dj := 66) (t := false) rfl rfl rfl rfl ?_
                refine L_gn (dj := 66) (t := false) rfl rfl rfl rfl ?_
                refine L_gn (dj := 66) (t := false) rfl rfl rfl rfl ?_
                refine L_gn (dj := 66) (t := false) rfl rfl rfl rfl ?_
                refine L_op rfl (X_pick (t := false) (v := (.bool (false))) rfl rfl ?_)
                refine L_op rfl (X_cmpBool (a := false) (b := false) (r := false) Tryd.underlying4 rfl rfl (.inr ⟨rfl, rfl⟩) ?_)
                refine L_nil ?_
                refine T_n ?_
                refine W_cf rfl ?_
                refine W_skip ?_
                refine T_n ?_
                refine W_seq ?_
                refine W_reg ?_
                refine L_op rfl (X_assign (v := (.slice none 0 0)) rfl ?_)
                refine L_nil ?_
                refine T_n ?_
                refine W_seq ?_
                refine W_seq ?_
                refine W_reg ?_
                refine L_op rfl (X_assign (v := (.int .i64 (0))) rfl ?_)
                refine L_nil ?_
                refine T_n ?_
                refine W_block ?_
                refine W_loop (α := Nat × Value × List IE) [10, 11, 74, 75, 76, 77, 78, 79, 80, 81, 82, 83, 84, 85, 86] (fun ⟨i, u, fs⟩ => [(11, (.int .i64 (((i : Nat) : Int)))), (10, u)]) (fun ⟨i, u, fs⟩ w_ => ((i : Nat) : Int) ≤ n ∧ NOwn LT w_ 43 5 n0 w_.heap.size u fs ∧ dsI fs = dsN i ∧ TabR w_ ∧ Upd (fun i => n0 ≤ i) w w_) (fun ⟨i, u, fs⟩ => n.toNat - i) ⟨rfl, (0, .slice none 0 0, []), ⟨by omega, NOwn.nil _ _ _ _ _, rfl, hT, hU⟩, Out.refl _ _, ⟨rfl, rfl, trivial⟩⟩ ?_
                rintro ⟨i, u, fs⟩ w107 _ ⟨hin_, hN, hfs, hT, hU⟩
                have hsz_ := hU.size
                obtain ⟨s0, hs0⟩ : ∃ n, n = w107.heap.size := ⟨_, rfl⟩
                rw [← hs0] at hN
                have hfl : fs.length = i := by have h := congrArg List.length hfs; unfold dsN at h; rw [dsI_len, List.length_map, List.length_range] at h; exact h
                refine W_seq ?_
                refine W_seq ?_
                refine W_reg ?_
                refine L_op rfl (X_move (v := (.int .i64 (((i : Nat) : Int)))) rfl ?_)
                refine L_op rfl (X_move (v := (.int .i64 (n))) rfl ?_)
                by_cases hc108 : (((i : Nat) : Int) : Int) < (n)
                · refine L_op rfl (X_cmp (k := .i64) (a := ((i : Nat) : Int)) (b := n) (r := true) rfl rfl rfl (decide_eq_true (p := ((((i : Nat) : Int)) : Int) < ((n) : Int)) (by omega)) ?_)
                  refine L_nil ?_
                  refine T_n ?_
                  refine W_ct rfl ?_
                  refine W_skip ?_
                  refine T_n ?_
                  refine W_seq ?_
                  refine W_block ?_
                  refine W_reg ?_
                  refine L_op rfl (X_move (v := u) rfl ?_)
                  refine L_op rfl (X_move (v := (.int .i64 (((i : Nat) : Int)))) rfl ?_)
                  refine L_op rfl (X_arith (k := .i64) (a := ((i : Nat) : Int)) (b := 1) (r := ((i + 1 : Nat) : Int)) rfl rfl rfl (iadd64 (by omega) (by omega) (by omega)) ?_)
                  refine L_op rfl (X_convInt (k := .i64) (a := ((i + 1 : Nat) : Int)) (r := ((UInt8.ofNat (i + 1)).toNat : Int)) (by rw [Tryd.underlying3]; rfl) Tryd.underlying5 rfl (u8_wrap _) ?_)
                  refine L_op rfl (X_buildSlice1 (vs := [(.int .u8 (((UInt8.ofNat (i + 1)).toNat : Int)))]) S35 (by decide) rfl rfl (List.forall_mem_cons.2 ⟨rfl, (fun _ h => by cases h)⟩) ?_)
                  intro b109 w109 hn109
                  have hbn109 := hn109.num; have hbs109 := hn109.size
                  replace hN := hN.ext hn109.ext
                  replace hT := hT.ext hn109.ext
                  replace hU := hU.trans (Ext.upd hn109.ext)
                  have hB109 := hn109.blk
                  obtain ⟨bk, hbk⟩ : ∃ n, n = b109 := ⟨_, rfl⟩
                  rw [← hbk] at hB109 ⊢
                  have hKo : Own w109 s0 5 1 (.slice (some ⟨bk, 0, none⟩) 1 1) ([UInt8.ofNat (i + 1)] : List UInt8).length (([UInt8.ofNat (i + 1)] : List UInt8).map byteV) := hB109.own (by omega) (Nat.le_refl _) (by decide) (Nat.le_refl _)
                  have hKb : ∀ b, obk (.slice (some ⟨bk, 0, none⟩) 1 1) = some b → b = bk := fun b hb => (Option.some.inj hb).symm
                  refine L_op rfl (X_build (built43' hKo.sv [UInt8.ofNat (i + 1)]) ?_)
                  refine L_op rfl (X_buildSliceL (vs := [.agg (itC ((.slice (some ⟨bk, 0, none⟩) 1 1, .slice none 0 0, [UInt8.ofNat (i + 1)], [], ptZ, 0) : IE)).toArray]) (c := itC ((.slice (some ⟨bk, 0, none⟩) 1 1, .slice none 0 0, [UInt8.ofNat (i + 1)], [], ptZ, 0) : IE)) S22 (by decide) rfl rfl (List.forall_mem_cons.2 ⟨rfl, fun _ h => by cases h⟩) rfl ?_)
                  intro bq wq hnq
                  have hbnq := hnq.num; have hbsq := hnq.size
                  replace hN := hN.ext hnq.ext
                  replace hT := hT.ext hnq.ext
                  replace hU := hU.trans (Ext.upd hnq.ext)
                  replace hKo := hKo.ext hnq.ext
                  have hBq := hnq.blk
                  refine L_op rfl (X_append (B := n0) (n := fs.length) (s := u) (x := (.slice (some ⟨bq, 0, none⟩) 1 1)) S22 ⟨_, Tryd.underlying22⟩ rfl rfl hN.1 (m := 1) (ys := itC ((.slice (some ⟨bk, 0, none⟩) 1 1, .slice none 0 0, [UInt8.ofNat (i + 1)], [], ptZ, 0) : IE)) (hBq.rd (o := 0) (n := 1) (c := 1) (sz := 8) (by decide) (by decide) rfl (fun j u hj => by rw [Nat.zero_add]; simpa using hj)) (itC_one hKo.sv.one rfl) (by unfold maxLen; omega) (by omega) (by omega) ?_)
                  intro v5 w5 hO5 hu5 ho5
                  have hz5 := hu5.size
                  have hN5 := NOwn.push (L := LT) (e := ((.slice (some ⟨bk, 0, none⟩) 1 1, .slice none 0 0, [UInt8.ofNat (i + 1)], [], ptZ, 0) : IE)) (hi' := wq.heap.size) (by decide) hN hO5 hu5 (fun s hs => by have h1 : s = (Value.slice (some ⟨bk, 0, none⟩) 1 1, [UInt8.ofNat (i + 1)]) ∨ s = (Value.slice none 0 0, []) := by { simpa [LT] using hs }; rcases h1 with rfl | rfl; (· exact ⟨hKo.more (by omega), fun b hb => (hKo.lt hb).2⟩); (· exact BOwn.nil _ _ _ _)) (by omega) (by omega)
                  replace hT := hT.upd hu5 fun i h1 h2 h => by have := (hN.1.lt h).1; omega
                  replace hU := hU.trans (hu5.mono fun i _ h => by have := (hN.1.lt h).1; show n0 ≤ i; omega)
                  refine L_op rfl (X_assign (v := v5) rfl ?_)
                  refine L_nil ?_
                  refine B_n ?_
                  refine T_n ?_
                  refine W_reg ?_
                  refine L_op rfl (X_move (v := (.int .i64 (((i : Nat) : Int)))) rfl ?_)
                  refine L_op rfl (X_arith (k := .i64) (a := ((i : Nat) : Int)) (b := 1) (r := ((i + 1 : Nat) : Int)) rfl rfl rfl (iadd64 (by omega) (by omega) (by omega)) ?_)
                  refine L_op rfl (X_assign (v := (.int .i64 (((i + 1 : Nat) : Int)))) rfl ?_)
                  refine L_nil ?_
                  refine T_n ?_
                  exact ⟨rfl, (i + 1, v5, fs ++ [((.slice (some ⟨bk, 0, none⟩) 1 1, .slice none 0 0, [UInt8.ofNat (i + 1)], [], ptZ, 0) : IE)]), ⟨⟨by omega, hN5, by unfold dsI at hfs ⊢; rw [List.map_append, hfs, dsN_step]; rfl, hT, hU⟩, (by show n.toNat - (i + 1) < n.toNat - i; omega)⟩, (Out.mk rfl), ⟨rfl, rfl, trivial⟩⟩
                · refine L_op rfl (X_cmp (k := .i64) (a := ((i : Nat) : Int)) (b := n) (r := false) rfl rfl rfl (decide_eq_false (p := ((((i : Nat) : Int)) : Int) < ((n) : Int)) (by omega)) ?_)
                  have hin : ((i : Nat) : Int) = n := by omega
                  have hptN := pts_of hfs (dsN_ok i)
                  refine L_nil ?_
                  refine T_n ?_
                  refine W_cf rfl ?_
                  refine W_exit ?_
                  refine T_e ?_
                  refine T_e ?_
                  refine B_x ?_
                  refine T_n ?_
                  refine W_seq ?_
                  refine W_reg ?_
                  refine L_op rfl (X_buildSlice1 (vs := [(.int .u8 (107))]) S35 (by decide) rfl rfl (List.forall_mem_cons.2 ⟨rfl, (fun _ h => by cases h)⟩) ?_)
                  intro b110 w110 hn110
                  have hbn110 := hn110.num; have hbs110 := hn110.size
                  replace hN := hN.ext hn110.ext
                  replace hT := hT.ext hn110.ext
                  replace hU := hU.trans (Ext.upd hn110.ext)
                  have hB110 := hn110.blk
                  refine L_op rfl (X_convMark (l := [(107 : UInt8)]) Tryd.underlying35 Tryd.underlying5 rfl hB110 (fun j u hj => by simpa [byteV] using hj) rfl (by decide) ?_)
                  intro w111 hu111 hc111
                  have hz111 := hu111.size
                  replace hN := hN.upd hu111 fun i h1 h2 h => by have h : i = b110 := h; omega
                  replace hT := hT.upd hu111 fun i h1 h2 h => by have h : i = b110 := h; omega
                  replace hU := hU.trans (hu111.mono fun i _ h => by have h : i = b110 := h; show n0 ≤ i; omega)
                  have hc111_b : ∀ i, rbk (.slice (some ⟨b110, 0, none⟩) 1 1) = some i → i < w111.heap.size := fun i hi => hc111.bound (by decide) hi
                  refine L_op rfl (X_build (built43s' hc111.sv [107]) ?_)
                  obtain ⟨ka, hka⟩ : ∃ x : Value, x = (.slice (some ⟨b110, 0, none⟩) 1 1) := ⟨_, rfl⟩
                  have hkr := hc111; rw [← hka] at hkr; rw [← hka]
                  have hkr_b : ∀ b, rbk ka = some b → b < w111.heap.size := fun b hb => hkr.bound (by decide) hb
                  refine L_op rfl (X_alloc (z := (.agg #[(.slice none 0 0), (.slice none 0 0), (.int .u8 (0)), (.int .u16 (0)), (.int .u16 (0)), (.int .u32 (0)), (.int .u64 (0)), (.int .u16 (0))])) (c := #[(.slice none 0 0), (.slice none 0 0), (.int .u8 (0)), (.int .u16 (0)), (.int .u16 (0)), (.int .u32 (0)), (.int .u64 (0)), (.int .u16 (0))]) Zv43 rfl ?_)
                  intro b112 w112 hn112
                  have hbn112 := hn112.num; have hbs112 := hn112.size
                  replace hN := hN.ext hn112.ext
                  replace hT := hT.ext hn112.ext
                  replace hU := hU.trans (Ext.upd hn112.ext)
                  replace hkr := hkr.ext hn112.ext
                  have hB112 := hn112.blk
                  refine L_op0 (X_storeW (b := b112) (ys := itC ((ka, .slice none 0 0, [107], [], ptZ, 3) : IE)) A43 rfl rfl (itC_one hkr.sv.one rfl) rfl hB112 rfl ?_)
                  intro w113 hu113 hb113
                  have hz113 := hu113.size
                  replace hN := hN.upd hu113 fun i h1 h2 h => by have h : i = b112 := h; omega
                  replace hT := hT.upd hu113 fun i h1 h2 h => by have h : i = b112 := h; omega
                  replace hU := hU.trans (hu113.mono fun i _ h => by have h : i = b112 := h; show n0 ≤ i; omega)
                  replace hkr := hkr.upd hu113 fun i hi h => by have hi := hkr_b _ hi; have h : i = b112 := h; omega
                  replace hB112 := hb113
                  refine L_nil ?_
                  refine T_n ?_
                  refine W_seq ?_
                  refine W_reg ?_
                  refine L_op rfl (X_move (v := u) rfl ?_)
                  refine L_op rfl (X_fn (vs := [u]) en14 rfl (CT.mono (c_rightI u fs _ n0 s0 (by omega) hN.rd hptN) ?_))
                  rintro _ w114 ⟨rfl, hu114⟩
                  have hz114 := hu114.size
                  replace hN := hN.ext hu114
                  replace hT := hT.ext hu114
                  replace hU := hU.trans (Ext.upd hu114)
                  replace hkr := hkr.ext hu114
                  replace hB112 := hB112.ext hu114
                  rw [hfs, dsN_dec]
                  rcases Bool.eq_false_or_eq_true (decide (i ≤ 6)) with hc115 | hc115
                  · rw [hc115]
                    refine L_op rfl (X_move (v := (.int .i64 (n))) rfl ?_)
                    have h6 := of_decide_eq_true hc115
                    refine L_op rfl (X_cmp (k := .i64) (a := n) (b := 6) (r := true) rfl rfl rfl (decide_eq_true (p := ((n) : Int) ≤ ((6) : Int)) (by omega)) ?_)
                    refine L_op rfl (X_cmpBool (a := true) (b := true) (r := true) Tryd.underlying4 rfl rfl (.inl ⟨rfl, rfl⟩) ?_)
                    refine L_op rfl (X_move (v := (.bool (true))) rfl ?_)
                    refine L_gy (dj := 95) rfl rfl rfl (X_loadA (p := (ptr b112 (0))) (xs := itC ((ka, .slice none 0 0, [107], [], ptZ, 3) : IE)) A43 rfl hB112.atAll rfl ?_)
                    refine L_gy (dj := 95) rfl rfl rfl (X_buildSliceL (vs := [.agg (itC ((ka, .slice none 0 0, [107], [], ptZ, 3))).toArray]) (c := itC ((ka, .slice none 0 0, [107], [], ptZ, 3))) S22 (by decide) rfl rfl (List.forall_mem_cons.2 ⟨rfl, fun _ h => by cases h⟩) rfl ?_)
                    intro bk wk hnk
                    have hbnk := hnk.num; have hbsk := hnk.size
                    replace hN := hN.ext hnk.ext
                    replace hT := hT.ext hnk.ext
                    replace hU := hU.trans (Ext.upd hnk.ext)
                    replace hkr := hkr.ext hnk.ext
                    replace hB112 := hB112.ext hnk.ext
                    have hBk := hnk.blk
                    obtain ⟨uk, huk_⟩ : ∃ n, n = wk.heap.size := ⟨_, rfl⟩
                    have hlk := one_row (e := ((ka, .slice none 0 0, [107], [], ptZ, 3))) (up := uk) hBk (by omega) ⟨hkr, fun b hb => ⟨Nat.zero_le _, by have := hkr_b b hb; omega⟩⟩ (BRd.nil _ _ _)
                    refine L_gy (dj := 95) rfl rfl rfl (X_fn (vs := [(.slice (some ⟨bk, 0, none⟩) 1 1)]) en14 rfl (CT.mono (c_rightI _ [((ka, .slice none 0 0, [107], [], ptZ, 3) : IE)] _ 0 uk (by omega) hlk (fun e he => by have h : e = ((ka, .slice none 0 0, [107], [], ptZ, 3) : IE) := (by simpa using he); subst h; exact ItS)) ?_))
                    rintro _ w116 ⟨rfl, hu116⟩
                    have hz116 := hu116.size
                    replace hN := hN.ext hu116
                    replace hT := hT.ext hu116
                    replace hU := hU.trans (Ext.upd hu116)
                    replace hkr := hkr.ext hu116
                    replace hB112 := hB112.ext hu116
                    replace hlk := hlk.ext hu116
                    rw [show decide (RightI (dsI [((ka, .slice none 0 0, [107], [], ptZ, 3) : IE)])) = false from decide_eq_false IWS_not]
                    refine L_gy (dj := 95) rfl rfl rfl (X_not (b := false) (r := true) rfl rfl ?_)
                    refine L_op rfl (X_pick (t := true) (v := (.bool (true))) rfl rfl ?_)
                    refine L_op rfl (X_move (v := (.bool (true))) rfl ?_)
                    refine L_gy (dj := 101) rfl rfl rfl (X_fn (vs := [(.slice none 0 0)]) en14 rfl (CT.mono (c_rightI _ [] _ 0 0 (Nat.zero_le _) (NRd.nil _ _ _) (fun e he => by cases he)) ?_))
                    rintro _ w117 ⟨rfl, hu117⟩
                    have hz117 := hu117.size
                    replace hN := hN.ext hu117
                    replace hT := hT.ext hu117
                    replace hU := hU.trans (Ext.upd hu117)
                    replace hkr := hkr.ext hu117
                    replace hB112 := hB112.ext hu117
                    replace hlk := hlk.ext hu117
                    rw [show decide (RightI (dsI [])) = true from decide_eq_true IW0_right]
                    refine L_op rfl (X_pick (t := true) (v := (.bool (true))) rfl rfl ?_)
                    refine L_op rfl (X_move (v := (.bool (true))) rfl ?_)
                    refine L_gy (dj := 104) rfl rfl rfl (X_move (v := u) rfl ?_)
                    refine L_gy (dj := 104) rfl rfl rfl (X_move (v := u) rfl ?_)
                    refine L_gy (dj := 104) rfl rfl rfl (X_fn (vs := [u, u]) en15 rfl (CT.mono (c_sameI u u fs fs _ n0 s0 n0 s0 (by omega) (by omega) hN.rd hN.rd) ?_))
                    rintro _ w118 ⟨⟨g118, rfl, hg118⟩, hu118⟩
                    have hz118 := hu118.size
                    replace hN := hN.ext hu118
                    replace hT := hT.ext hu118
                    replace hU := hU.trans (Ext.upd hu118)
                    replace hkr := hkr.ext hu118
                    replace hB112 := hB112.ext hu118
                    replace hlk := hlk.ext hu118
                    obtain rfl : g118 = true := hg118.2 rfl
                    refine L_op rfl (X_pick (t := true) (v := (.bool (true))) rfl rfl ?_)
                    refine L_op rfl (X_move (v := (.bool (true))) rfl ?_)
                    refine L_gy (dj := 109) rfl rfl rfl (X_fn (vs := []) en9 rfl (CT.mono (c_wakes _ hT) ?_))
                    rintro vb119 w119 ⟨hvb119, hu119⟩
                    have hz119 := hu119.size
                    replace hN := hN.ext hu119
                    replace hT := hT.ext hu119
                    replace hU := hU.trans (Ext.upd hu119)
                    replace hkr := hkr.ext hu119
                    replace hB112 := hB112.ext hu119
                    replace hlk := hlk.ext hu119
                    subst hvb119
                    refine L_op rfl (X_pick (t := true) (v := (.bool (true))) rfl rfl ?_)
                    refine L_op rfl (X_assign (v := (.bool (true))) rfl ?_)
                    refine L_nil ?_
                    refine T_n ?_
                    refine W_ret ?_
                    exact BQ_r (End_1 Tryd.results5 (v := .bool true) rfl ⟨rfl, hU.own hn0⟩)
                  · rw [hc115]
                    refine L_op rfl (X_move (v := (.int .i64 (n))) rfl ?_)
                    have h6 := of_decide_eq_false hc115
                    refine L_op rfl (X_cmp (k := .i64) (a := n) (b := 6) (r := false) rfl rfl rfl (decide_eq_false (p := ((n) : Int) ≤ ((6) : Int)) (by omega)) ?_)
                    refine L_op rfl (X_cmpBool (a := false) (b := false) (r := true) Tryd.underlying4 rfl rfl (.inl ⟨rfl, rfl⟩) ?_)
                    refine L_op rfl (X_move (v := (.bool (true))) rfl ?_)
                    refine L_gy (dj := 95) rfl rfl rfl (X_loadA (p := (ptr b112 (0))) (xs := itC ((ka, .slice none 0 0, [107], [], ptZ, 3) : IE)) A43 rfl hB112.atAll rfl ?_)
                    refine L_gy (dj := 95) rfl rfl rfl (X_buildSliceL (vs := [.agg (itC ((ka, .slice none 0 0, [107], [], ptZ, 3))).toArray]) (c := itC ((ka, .slice none 0 0, [107], [], ptZ, 3))) S22 (by decide) rfl rfl (List.forall_mem_cons.2 ⟨rfl, fun _ h => by cases h⟩) rfl ?_)
                    intro bk wk hnk
                    have hbnk := hnk.num; have hbsk := hnk.size
                    replace hN := hN.ext hnk.ext
                    replace hT := hT.ext hnk.ext
                    replace hU := hU.trans (Ext.upd hnk.ext)
                    replace hkr := hkr.ext hnk.ext
                    replace hB112 := hB112.ext hnk.ext
                    have hBk := hnk.blk
                    obtain ⟨uk, huk_⟩ : ∃ n, n = wk.heap.size := ⟨_, rfl⟩
                    have hlk := one_row (e := ((ka, .slice none 0 0, [107], [], ptZ, 3))) (up := uk) hBk (by omega) ⟨hkr, fun b hb => ⟨Nat.zero_le _, by have := hkr_b b hb; omega⟩⟩ (BRd.nil _ _ _)
                    refine L_gy (dj := 95) rfl rfl rfl (X_fn (vs := [(.slice (some ⟨bk, 0, none⟩) 1 1)]) en14 rfl (CT.mono (c_rightI _ [((ka, .slice none 0 0, [107], [], ptZ, 3) : IE)] _ 0 uk (by omega) hlk (fun e he => by have h : e = ((ka, .slice none 0 0, [107], [], ptZ, 3) : IE) := (by simpa using he); subst h; exact ItS)) ?_))
                    rintro _ w120 ⟨rfl, hu120⟩
                    have hz120 := hu120.size
                    replace hN := hN.ext hu120
                    replace hT := hT.ext hu120
                    replace hU := hU.trans (Ext.upd hu120)
                    replace hkr := hkr.ext hu120
                    replace hB112 := hB112.ext hu120
                    replace hlk := hlk.ext hu120
                    rw [show decide (RightI (dsI [((ka, .slice none 0 0, [107], [], ptZ, 3) : IE)])) = false from decide_eq_false IWS_not]
                    refine L_gy (dj := 95) rfl rfl rfl (X_not (b := false) (r := true) rfl rfl ?_)
                    refine L_op rfl (X_pick (t := true) (v := (.bool (true))) rfl rfl ?_)
                    refine L_op rfl (X_move (v := (.bool (true))) rfl ?_)
                    refine L_gy (dj := 101) rfl rfl rfl (X_fn (vs := [(.slice none 0 0)]) en14 rfl (CT.mono (c_rightI _ [] _ 0 0 (Nat.zero_le _) (NRd.nil _ _ _) (fun e he => by cases he)) ?_))
                    rintro _ w121 ⟨rfl, hu121⟩
                    have hz121 := hu121.size
                    replace hN := hN.ext hu121
                    replace hT := hT.ext hu121
                    replace hU := hU.trans (Ext.upd hu121)
                    replace hkr := hkr.ext hu121
                    replace hB112 := hB112.ext hu121
                    replace hlk := hlk.ext hu121
                    rw [show decide (RightI (dsI [])) = true from decide_eq_true IW0_right]
                    refine L_op rfl (X_pick (t := true) (v := (.bool (true))) rfl rfl ?_)
                    refine L_op rfl (X_move (v := (.bool (true))) rfl ?_)
                    refine L_gy (dj := 104) rfl rfl rfl (X_move (v := u) rfl ?_)
                    refine L_gy (dj := 104) rfl rfl rfl (X_move (v := u) rfl ?_)
                    refine L_gy (dj := 104) rfl rfl rfl (X_fn (vs := [u, u]) en15 rfl (CT.mono (c_sameI u u fs fs _ n0 s0 n0 s0 (by omega) (by omega) hN.rd hN.rd) ?_))
                    rintro _ w122 ⟨⟨g122, rfl, hg122⟩, hu122⟩
                    have hz122 := hu122.size
                    replace hN := hN.ext hu122
                    replace hT := hT.ext hu122
                    replace hU := hU.trans (Ext.upd hu122)
                    replace hkr := hkr.ext hu122
                    replace hB112 := hB112.ext hu122
                    replace hlk := hlk.ext hu122
                    obtain rfl : g122 = true := hg122.2 rfl
                    refine L_op rfl (X_pick (t := true) (v := (.bool (true))) rfl rfl ?_)
                    refine L_op rfl (X_move (v := (.bool (true))) rfl ?_)
                    refine L_gy (dj := 109) rfl rfl rfl (X_fn (vs := []) en9 rfl (CT.mono (c_wakes _ hT) ?_))
                    rintro vb123 w123 ⟨hvb123, hu123⟩
                    have hz123 := hu123.size
                    replace hN := hN.ext hu123
                    replace hT := hT.ext hu123
                    replace hU := hU.trans (Ext.upd hu123)
                    replace hkr := hkr.ext hu123
                    replace hB112 := hB112.ext hu123
                    replace hlk := hlk.ext hu123
                    subst hvb123
                    refine L_op rfl (X_pick (t := true) (v := (.bool (true))) rfl rfl ?_)
                    refine L_op rfl (X_assign (v := (.bool (true))) rfl ?_)
                    refine L_nil ?_
                    refine T_n ?_
                    refine W_ret ?_
                    exact BQ_r (End_1 Tryd.results5 (v := .bool true) rfl ⟨rfl, hU.own hn0⟩)
            · refine L_op rfl (X_cmp (k := .i64) (a := ((la.length : Nat) : Int)) (b := 1) (r := false) rfl rfl rfl (decide_eq_false (p := ((1) : Int) ≤ ((((la.length : Nat) : Int)) : Int)) (by omega)) ?_)
              refine L_op rfl (X_move (v := (.bool (false))) rfl ?_)
              refine L_gn (dj := 38) (t := false) rfl rfl rfl rfl ?_
              refine L_gn (dj := 38) (t := false) rfl rfl rfl rfl ?_
              refine L_gn (dj := 38) (t := false) rfl rfl rfl rfl ?_
              refine L_op rfl (X_pick (t := false) (v := (.bool (false))) rfl rfl ?_)
              refine L_op rfl (X_move (v := (.bool (false))) rfl ?_)
              refine L_gn (dj := 43) (t := false) rfl rfl rfl rfl ?_
              refine L_gn (dj := 43) (t := false) rfl rfl rfl rfl ?_
              refine L_gn (dj := 43) (t := false) rfl rfl rfl rfl ?_
              refine L_op rfl (X_pick (t := false) (v := (.bool (false))) rfl rfl ?_)
              refine L_op rfl (X_move (v := (.bool (false))) rfl ?_)
              refine L_gn (dj := 48) (t := false) rfl rfl rfl rfl ?_
              refine L_gn (dj := 48) (t := false) rfl rfl rfl rfl ?_
              refine L_gn (dj := 48) (t := false) rfl rfl rfl rfl ?_
              refine L_op rfl (X_pick (t := false) (v := (.bool (false))) rfl rfl ?_)
              refine L_op rfl (X_move (v := (.bool (false))) rfl ?_)
              refine L_gn (dj := 53) (t := false) rfl rfl rfl rfl ?_
              refine L_gn (dj := 53) (t := false) rfl rfl rfl rfl ?_
              refine L_gn (dj := 53) (t := false) rfl rfl rfl rfl ?_
              refine L_op rfl (X_pick (t := false) (v := (.bool (false))) rfl rfl ?_)
              refine L_op rfl (X_assign (v := (.bool (false))) rfl ?_)
              refine L_nil ?_
              refine T_n ?_
              refine W_seq ?_
              refine W_seq ?_
              refine W_reg ?_
              refine L_op rfl (X_move (v := va) rfl ?_)
              refine L_op rfl (X_move (v := vv) rfl ?_)
              refine L_op rfl (X_build (built43ab' ha.sv hv.sv la lv) ?_)
              refine L_op rfl (X_move (v := vb) rfl ?_)
              refine L_op rfl (X_build (built43' hb.sv lb) ?_)
              refine L_op rfl (X_buildSliceL (vs := [.agg (itC ((va, vv, la, lv, ptZ, 0) : IE)).toArray, .agg (itC ((vb, .slice none 0 0, lb, [], ptZ, 0) : IE)).toArray]) (c := [((va, vv, la, lv, ptZ, 0) : IE), ((vb, .slice none 0 0, lb, [], ptZ, 0) : IE)].flatMap LT.cel) S22 (by decide) rfl rfl (List.forall_mem_cons.2 ⟨rfl, List.forall_mem_cons.2 ⟨rfl, fun _ h => by cases h⟩⟩) rfl ?_)
              intro b2 w2 hn2
              have hbn2 := hn2.num; have hbs2 := hn2.size
              replace ha := ha.ext hn2.ext
              replace hb := hb.ext hn2.ext
              replace hv := hv.ext hn2.ext
              replace hU := hU.trans (Ext.upd hn2.ext)
              replace hT := hT.ext hn2.ext
              have hB2 := hn2.blk
              obtain ⟨u2, hu2_⟩ : ∃ n, n = w2.heap.size := ⟨_, rfl⟩
              have hl2 := two_row (e := ((va, vv, la, lv, ptZ, 0) : IE)) (f := ((vb, .slice none 0 0, lb, [], ptZ, 0) : IE)) (up := u2) hB2 (by omega) ⟨ha, fun b hb_ => ⟨Nat.zero_le _, by have := ha_b b hb_; omega⟩⟩ ⟨hv, fun b hb_ => ⟨Nat.zero_le _, by have := hv_b b hb_; omega⟩⟩ ⟨hb, fun b hb_ => ⟨Nat.zero_le _, by have := hb_b b hb_; omega⟩⟩ (BRd.nil _ _ _)
              refine L_op rfl (X_fn (vs := [(.slice (some ⟨b2, 0, none⟩) 2 2)]) en14 rfl (CT.mono (c_rightI _ [((va, vv, la, lv, ptZ, 0) : IE), ((vb, .slice none 0 0, lb, [], ptZ, 0) : IE)] _ 0 u2 (by omega) hl2 (fun e he => by have h : e = ((va, vv, la, lv, ptZ, 0) : IE) ∨ e = ((vb, .slice none 0 0, lb, [], ptZ, 0) : IE) := (by simpa using he); rcases h with rfl | rfl; (· exact ItZ2 _ _); (· exact ItZ _))) ?_))
              rintro _ w124 ⟨rfl, hu124⟩
              have hz124 := hu124.size
              replace ha := ha.ext hu124
              replace hb := hb.ext hu124
              replace hv := hv.ext hu124
              replace hU := hU.trans (Ext.upd hu124)
              replace hT := hT.ext hu124
              rw [show decide (RightI (dsI [((va, vv, la, lv, ptZ, 0) : IE), ((vb, .slice none 0 0, lb, [], ptZ, 0) : IE)])) = false from decide_eq_false fun h => by have h9 := right2.1 (show RightI (ds2 la lb lv) from h); omega]
              refine L_op rfl (X_move (v := (.bool (false))) rfl ?_)
              refine L_op rfl (X_move (v := (.bool (false))) rfl ?_)
              refine L_gn (dj := 66) (t := false) rfl rfl rfl rfl ?_
              refine L_gn (dj := 66) (t := false) rfl rfl rfl rfl ?_
              refine L_gn (dj := 66) (t := false) rfl rfl rfl rfl ?_
              refine L_gn (dj := 66) (t := false) rfl rfl rfl rfl ?_
              refine L_gn (dj := 66) (t := false) rfl rfl rfl rfl ?_
              refine L_op rfl (X_pick (t := false) (v := (.bool (false))) rfl rfl ?_)
              refine L_op rfl (X_cmpBool (a := false) (b := false) (r := false) Tryd.underlying4 rfl rfl (.inr ⟨rfl, rfl⟩) ?_)
              refine L_nil ?_
              refine T_n ?_
              refine W_cf rfl ?_
              refine W_skip ?_
              refine T_n ?_
              refine W_seq ?_
              refine W_reg ?_
              refine L_op rfl (X_assign (v := (.slice none 0 0)) rfl ?_)
              refine L_nil ?_
              refine T_n ?_
              refine W_seq ?_
              refine W_seq ?_
              refine W_reg ?_
              refine L_op rfl (X_assign (v := (.int .i64 (0))) rfl ?_)
              refine L_nil ?_
              refine T_n ?_
              refine W_block ?_
              refine W_loop (α := Nat × Value × List IE) [10, 11, 74, 75, 76, 77, 78, 79, 80, 81, 82, 83, 84, 85, 86] (fun ⟨i, u, fs⟩ => [(11, (.int .i64 (((i : Nat) : Int)))), (10, u)]) (fun ⟨i, u, fs⟩ w_ => ((i : Nat) : Int) ≤ n ∧ NOwn LT w_ 43 5 n0 w_.heap.size u fs ∧ dsI fs = dsN i ∧ TabR w_ ∧ Upd (fun i => n0 ≤ i) w w_) (fun ⟨i, u, fs⟩ => n.toNat - i) ⟨rfl, (0, .slice none 0 0, []), ⟨by omega, NOwn.nil _ _ _ _ _, rfl, hT, hU⟩, Out.refl _ _, ⟨rfl, rfl, trivial⟩⟩ ?_
              rintro ⟨i, u, fs⟩ w125 _ ⟨hin_, hN, hfs, hT, hU⟩
              have hsz_ := hU.size
              obtain ⟨s0, hs0⟩ : ∃ n, n = w125.heap.size := ⟨_, rfl⟩
              rw [← hs0] at hN
              have hfl : fs.length = i := by have h := congrArg List.length hfs; unfold dsN at h; rw [dsI_len, List.length_map, List.length_range] at h; exact h
              refine W_seq ?_
              refine W_seq ?_
              refine W_reg ?_
              refine L_op rfl (X_move (v := (.int .i64 (((i : Nat) : Int)))) rfl ?_)
              refine L_op rfl (X_move (v := (.int .i64 (n))) rfl ?_)
              by_cases hc126 : (((i : Nat) : Int) : Int) < (n)
              · refine L_op rfl (X_cmp (k := .i64) (a := ((i : Nat) : Int)) (b := n) (r := true) rfl rfl rfl (decide_eq_true (p := ((((i : Nat) : Int)) : Int) < ((n) : Int)) (by omega)) ?_)
                refine L_nil ?_
                refine T_n ?_
                refine W_ct rfl ?_
                refine W_skip ?_
                refine T_n ?_
                refine W_seq ?_
                refine W_block ?_
                refine W_reg ?_
                refine L_op rfl (X_move (v := u) rfl ?_)
                refine L_op rfl (X_move (v := (.int .i64 (((i : Nat) : Int)))) rfl ?_)
                refine L_op rfl (X_arith (k := .i64) (a := ((i : Nat) : Int)) (b := 1) (r := ((i + 1 : Nat) : Int)) rfl rfl rfl (iadd64 (by omega) (by omega) (by omega)) ?_)
                refine L_op rfl (X_convInt (k := .i64) (a := ((i + 1 : Nat) : Int)) (r := ((UInt8.ofNat (i + 1)).toNat : Int)) (by rw [Tryd.underlying3]; rfl) Tryd.underlying5 rfl (u8_wrap _) ?_)
                refine L_op rfl (X_buildSlice1 (vs := [(.int .u8 (((UInt8.ofNat (i + 1)).toNat : Int)))]) S35 (by decide) rfl rfl (List.forall_mem_cons.2 ⟨rfl, (fun _ h => by cases h)⟩) ?_)
                intro b127 w127 hn127
                have hbn127 := hn127.num; have hbs127 := hn127.size
                replace hN := hN.ext hn127.ext
                replace hT := hT.ext hn127.ext
                replace hU := hU.trans (Ext.upd hn127.ext)
                have hB127 := hn127.blk
                obtain ⟨bk, hbk⟩ : ∃ n, n = b127 := ⟨_, rfl⟩
                rw [← hbk] at hB127 ⊢
                have hKo : Own w127 s0 5 1 (.slice (some ⟨bk, 0, none⟩) 1 1) ([UInt8.ofNat (i + 1)] : List UInt8).length (([UInt8.ofNat (i + 1)] : List UInt8).map byteV) := hB127.own (by omega) (Nat.le_refl _) (by decide) (Nat.le_refl _)
                have hKb : ∀ b, obk (.slice (some ⟨bk, 0, none⟩) 1 1) = some b → b = bk := fun b hb => (Option.some.inj hb).symm
                refine L_op rfl (X_build (built43' hKo.sv [UInt8.ofNat (i + 1)]) ?_)
                refine L_op rfl (X_buildSliceL (vs := [.agg (itC ((.slice (some ⟨bk, 0, none⟩) 1 1, .slice none 0 0, [UInt8.ofNat (i + 1)], [], ptZ, 0) : IE)).toArray]) (c := itC ((.slice (some ⟨bk, 0, none⟩) 1 1, .slice none 0 0, [UInt8.ofNat (i + 1)], [], ptZ, 0) : IE)) S22 (by decide) rfl rfl (List.forall_mem_cons.2 ⟨rfl, fun _ h => by cases h⟩) rfl ?_)
                intro bq wq hnq
                have hbnq := hnq.num; have hbsq := hnq.size
                replace hN := hN.ext hnq.ext
                replace hT := hT.ext hnq.ext
                replace hU := hU.trans (Ext.upd hnq.ext)
                replace hKo := hKo.ext hnq.ext
                have hBq := hnq.blk
                refine L_op rfl (X_append (B := n0) (n := fs.length) (s := u) (x := (.slice (some ⟨bq, 0, none⟩) 1 1)) S22 ⟨_, Tryd.underlying22⟩ rfl rfl hN.1 (m := 1) (ys := itC ((.slice (some ⟨bk, 0, none⟩) 1 1, .slice none 0 0, [UInt8.ofNat (i + 1)], [], ptZ, 0) : IE)) (hBq.rd (o := 0) (n := 1) (c := 1) (sz := 8) (by decide) (by decide) rfl (fun j u hj => by rw [Nat.zero_add]; simpa using hj)) (itC_one hKo.sv.one rfl) (by unfold maxLen; omega) (by omega) (by omega) ?_)
                intro v5 w5 hO5 hu5 ho5
                have hz5 := hu5.size
                have hN5 := NOwn.push (L := LT) (e := ((.slice (some ⟨bk, 0, none⟩) 1 1, .slice none 0 0, [UInt8.ofNat (i + 1)], [], ptZ, 0) : IE)) (hi' := wq.heap.size) (by decide) hN hO5 hu5 (fun s hs => by have h1 : s = (Value.slice (some ⟨bk, 0, none⟩) 1 1, [UInt8.ofNat (i + 1)]) ∨ s = (Value.slice none 0 0, []) := by { simpa [LT] using hs }; rcases h1 with rfl | rfl; (· exact ⟨hKo.more (by omega), fun b hb => (hKo.lt hb).2⟩); (· exact BOwn.nil _ _ _ _)) (by omega) (by omega)
                replace hT := hT.upd hu5 fun i h1 h2 h => by have := (hN.1.lt h).1; omega
                replace hU := hU.trans (hu5.mono fun i _ h => by have := (hN.1.lt h).1; show n0 ≤ i; omega)
                refine L_op rfl (X_assign (v := v5) rfl ?_)
                refine L_nil ?_
                refine B_n ?_
                refine T_n ?_
                refine W_reg ?_
                refine L_op rfl (X_move (v := (.int .i64 (((i : Nat) : Int)))) rfl ?_)
                refine L_op rfl (X_arith (k := .i64) (a := ((i : Nat) : Int)) (b := 1) (r := ((i + 1 : Nat) : Int)) rfl rfl rfl (iadd64 (by omega) (by omega) (by omega)) ?_)
                refine L_op rfl (X_assign (v := (.int .i64 (((i + 1 : Nat) : Int)))) rfl ?_)
                refine L_nil ?_
                refine T_n ?_
                exact ⟨rfl, (i + 1, v5, fs ++ [((.slice (some ⟨bk, 0, none⟩) 1 1, .slice none 0 0, [UInt8.ofNat (i + 1)], [], ptZ, 0) : IE)]), ⟨⟨by omega, hN5, by unfold dsI at hfs ⊢; rw [List.map_append, hfs, dsN_step]; rfl, hT, hU⟩, (by show n.toNat - (i + 1) < n.toNat - i; omega)⟩, (Out.mk rfl), ⟨rfl, rfl, trivial⟩⟩
              · refine L_op rfl (X_cmp (k := .i64) (a := ((i : Nat) : Int)) (b := n) (r := false) rfl rfl rfl (decide_eq_false (p := ((((i : Nat) : Int)) : Int) < ((n) : Int)) (by omega)) ?_)
                have hin : ((i : Nat) : Int) = n := by omega
                have hptN := pts_of hfs (dsN_ok i)
                refine L_nil ?_
                refine T_n ?_
                refine W_cf rfl ?_
                refine W_exit ?_
                refine T_e ?_
                refine T_e ?_
                refine B_x ?_
                refine T_n ?_
                refine W_seq ?_
                refine W_reg ?_
                refine L_op rfl (X_buildSlice1 (vs := [(.int .u8 (107))]) S35 (by decide) rfl rfl (List.forall_mem_cons.2 ⟨rfl, (fun _ h => by cases h)⟩) ?_)
                intro b128 w128 hn128
                have hbn128 := hn128.num; have hbs128 := hn128.size
                replace hN := hN.ext hn128.ext
                replace hT := hT.ext hn128.ext
                replace hU := hU.trans (Ext.upd hn128.ext)
                have hB128 := hn128.blk
                refine L_op rfl (X_convMark (l := [(107 : UInt8)]) Tryd.underlying35 Tryd.underlying5 rfl hB128 (fun j u hj => by simpa [byteV] using hj) rfl (by decide) ?_)
                intro w129 hu129 hc129
                have hz129 := hu129.size
                replace hN := hN.upd hu129 fun i h1 h2 h => by have h : i = b128 := h; omega
                replace hT := hT.upd hu129 fun i h1 h2 h => by have h : i = b128 := h; omega
                replace hU := hU.trans (hu129.mono fun i _ h => by have h : i = b128 := h; show n0 ≤ i; omega)
                have hc129_b : ∀ i, rbk (.slice (some ⟨b128, 0, none⟩) 1 1) = some i → i < w129.heap.size := fun i hi => hc129.bound (by decide) hi
                refine L_op rfl (X_build (built43s' hc129.sv [107]) ?_)
                obtain ⟨ka, hka⟩ : ∃ x : Value, x = (.slice (some ⟨b128, 0, none⟩) 1 1) := ⟨_, rfl⟩
                have hkr := hc129; rw [← hka] at hkr; rw [← hka]
                have hkr_b : ∀ b, rbk ka = some b → b < w129.heap.size := fun b hb => hkr.bound (by decide) hb
                refine L_op rfl (X_alloc (z := (.agg #[(.slice none 0 0), (.slice none 0 0), (.int .u8 (0)), (.int .u16 (0)), (.int .u16 (0)), (.int .u32 (0)), (.int .u64 (0)), (.int .u16 (0))])) (c := #[(.slice none 0 0), (.slice none 0 0), (.int .u8 (0)), (.int .u16 (0)), (.int .u16 (0)), (.int .u32 (0)), (.int .u64 (0)), (.int .u16 (0))]) Zv43 rfl ?_)
                intro b130 w130 hn130
                have hbn130 := hn130.num; have hbs130 := hn130.size
                replace hN := hN.ext hn130.ext
                replace hT := hT.ext hn130.ext
                replace hU := hU.trans (Ext.upd hn130.ext)
                replace hkr := hkr.ext hn130.ext
                have hB130 := hn130.blk
                refine L_op0 (X_storeW (b := b130) (ys := itC ((ka, .slice none 0 0, [107], [], ptZ, 3) : IE)) A43 rfl rfl (itC_one hkr.sv.one rfl) rfl hB130 rfl ?_)
                intro w131 hu131 hb131
                have hz131 := hu131.size
                replace hN := hN.upd hu131 fun i h1 h2 h => by have h : i = b130 := h; omega
                replace hT := hT.upd hu131 fun i h1 h2 h => by have h : i = b130 := h; omega
                replace hU := hU.trans (hu131.mono fun i _ h => by have h : i = b130 := h; show n0 ≤ i; omega)
                replace hkr := hkr.upd hu131 fun i hi h => by have hi := hkr_b _ hi; have h : i = b130 := h; omega
                replace hB130 := hb131
                refine L_nil ?_
                refine T_n ?_
                refine W_seq ?_
                refine W_reg ?_
                refine L_op rfl (X_move (v := u) rfl ?_)
                refine L_op rfl (X_fn (vs := [u]) en14 rfl (CT.mono (c_rightI u fs _ n0 s0 (by omega) hN.rd hptN) ?_))
                rintro _ w132 ⟨rfl, hu132⟩
                have hz132 := hu132.size
                replace hN := hN.ext hu132
                replace hT := hT.ext hu132
                replace hU := hU.trans (Ext.upd hu132)
                replace hkr := hkr.ext hu132
                replace hB130 := hB130.ext hu132
                rw [hfs, dsN_dec]
                rcases Bool.eq_false_or_eq_true (decide (i ≤ 6)) with hc133 | hc133
                · rw [hc133]
                  refine L_op rfl (X_move (v := (.int .i64 (n))) rfl ?_)
                  have h6 := of_decide_eq_true hc133
                  refine L_op rfl (X_cmp (k := .i64) (a := n) (b := 6) (r := true) rfl rfl rfl (decide_eq_true (p := ((n) : Int) ≤ ((6) : Int)) (by omega)) ?_)
                  refine L_op rfl (X_cmpBool (a := true) (b := true) (r := true) Tryd.underlying4 rfl rfl (.inl ⟨rfl, rfl⟩) ?_)
                  refine L_op rfl (X_move (v := (.bool (true))) rfl ?_)
                  refine L_gy (dj := 95) rfl rfl rfl (X_loadA (p := (ptr b130 (0))) (xs := itC ((ka, .slice none 0 0, [107], [], ptZ, 3) : IE)) A43 rfl hB130.atAll rfl ?_)
                  refine L_gy (dj := 95) rfl rfl rfl (X_buildSliceL (vs := [.agg (itC ((ka, .slice none 0 0, [107], [], ptZ, 3))).toArray]) (c := itC ((ka, .slice none 0 0, [107], [], ptZ, 3))) S22 (by decide) rfl rfl (List.forall_mem_cons.2 ⟨rfl, fun _ h => by cases h⟩) rfl ?_)
                  intro bk wk hnk
                  have hbnk := hnk.num; have hbsk := hnk.size
                  replace hN := hN.ext hnk.ext
                  replace hT := hT.ext hnk.ext
                  replace hU := hU.trans (Ext.upd hnk.ext)
                  replace hkr := hkr.ext hnk.ext
                  replace hB130 := hB130.ext hnk.ext
                  have hBk := hnk.blk
                  obtain ⟨uk, huk_⟩ : ∃ n, n = wk.heap.size := ⟨_, rfl⟩
                  have hlk := one_row (e := ((ka, .slice none 0 0, [107], [], ptZ, 3))) (up := uk) hBk (by omega) ⟨hkr, fun b hb => ⟨Nat.zero_le _, by have := hkr_b b hb; omega⟩⟩ (BRd.nil _ _ _)
                  refine L_gy (dj := 95) rfl rfl rfl (X_fn (vs := [(.slice (some ⟨bk, 0, none⟩) 1 1)]) en14 rfl (CT.mono (c_rightI _ [((ka, .slice none 0 0, [107], [], ptZ, 3) : IE)] _ 0 uk (by omega) hlk (fun e he => by have h : e = ((ka, .slice none 0 0, [107], [], ptZ, 3) : IE) := (by simpa using he); subst h; exact ItS)) ?_))
                  rintro _ w134 ⟨rfl, hu134⟩
                  have hz134 := hu134.size
                  replace hN := hN.ext hu134
                  replace hT := hT.ext hu134
                  replace hU := hU.trans (Ext.upd hu134)
                  replace hkr := hkr.ext hu134
                  replace hB130 := hB130.ext hu134
                  replace hlk := hlk.ext hu134
                  rw [show decide (RightI (dsI [((ka, .slice none 0 0, [107], [], ptZ, 3) : IE)])) = false from decide_eq_false IWS_not]
                  refine L_gy (dj := 95) rfl rfl rfl (X_not (b := false) (r := true) rfl rfl ?_)
                  refine L_op rfl (X_pick (t := true) (v := (.bool (true))) rfl rfl ?_)
                  refine L_op rfl (X_move (v := (.bool (true))) rfl ?_)
                  refine L_gy (dj := 101) rfl rfl rfl (X_fn (vs := [(.slice none 0 0)]) en14 rfl (CT.mono (c_rightI _ [] _ 0 0 (Nat.zero_le _) (NRd.nil _ _ _) (fun e he => by cases he)) ?_))
                  rintro _ w135 ⟨rfl, hu135⟩
                  have hz135 := hu135.size
                  replace hN := hN.ext hu135
                  replace hT := hT.ext hu135
                  replace hU := hU.trans (Ext.upd hu135)
                  replace hkr := hkr.ext hu135
                  replace hB130 := hB130.ext hu135
                  replace hlk := hlk.ext hu135
                  rw [show decide (RightI (dsI [])) = true from decide_eq_true IW0_right]
                  refine L_op rfl (X_pick (t := true) (v := (.bool (true))) rfl rfl ?_)
                  refine L_op rfl (X_move (v := (.bool (true))) rfl ?_)
                  refine L_gy (dj := 104) rfl rfl rfl (X_move (v := u) rfl ?_)
                  refine L_gy (dj := 104) rfl rfl rfl (X_move (v := u) rfl ?_)
                  refine L_gy (dj := 104) rfl rfl rfl (X_fn (vs := [u, u]) en15 rfl (CT.mono (c_sameI u u fs fs _ n0 s0 n0 s0 (by omega) (by omega) hN.rd hN.rd) ?_))
                  rintro _ w136 ⟨⟨g136, rfl, hg136⟩, hu136⟩
                  have hz136 := hu136.size
                  replace hN := hN.ext hu136
                  replace hT := hT.ext hu136
                  replace hU := hU.trans (Ext.upd hu136)
                  replace hkr := hkr.ext hu136
                  replace hB130 := hB130.ext hu136
                  replace hlk := hlk.ext hu136
                  obtain rfl : g136 = true := hg136.2 rfl
                  refine L_op rfl (X_pick (t := true) (v := (.bool (true))) rfl rfl ?_)
                  refine L_op rfl (X_move (v := (.bool (true))) rfl ?_)
                  refine L_gy (dj := 109) rfl rfl rfl (X_fn (vs := []) en9 rfl (CT.mono (c_wakes _ hT) ?_))
                  rintro vb137 w137 ⟨hvb137, hu137⟩
                  have hz137 := hu137.size
                  replace hN := hN.ext hu137
                  replace hT := hT.ext hu137
                  replace hU := hU.trans (Ext.upd hu137)
                  replace hkr := hkr.ext hu137
                  replace hB130 := hB130.ext hu137
                  replace hlk := hlk.ext hu137
                  subst hvb137
                  refine L_op rfl (X_pick (t := true) (v := (.bool (true))) rfl rfl ?_)
                  refine L_op rfl (X_assign (v := (.bool (true))) rfl ?_)
                  refine L_nil ?_
                  refine T_n ?_
                  refine W_ret ?_
                  exact BQ_r (End_1 Tryd.results5 (v := .bool true) rfl ⟨rfl, hU.own hn0⟩)
                · rw [hc133]
                  refine L_op rfl (X_move (v := (.int .i64 (n))) rfl ?_)
                  have h6 := of_decide_eq_false hc133
                  refine L_op rfl (X_cmp (k := .i64) (a := n) (b := 6) (r := false) rfl rfl rfl (decide_eq_false (p := ((n) : Int) ≤ ((6) : Int)) (by omega)) ?_)
                  refine L_op rfl (X_cmpBool (a := false) (b := false) (r := true) Tryd.underlying4 rfl rfl (.inl ⟨rfl, rfl⟩) ?_)
                  refine L_op rfl (X_move (v := (.bool (true))) rfl ?_)
                  refine L_gy (dj := 95) rfl rfl rfl (X_loadA (p := (ptr b130 (0))) (xs := itC ((ka, .slice none 0 0, [107], [], ptZ, 3) : IE)) A43 rfl hB130.atAll rfl ?_)
                  refine L_gy (dj := 95) rfl rfl rfl (X_buildSliceL (vs := [.agg (itC ((ka, .slice none 0 0, [107], [], ptZ, 3))).toArray]) (c := itC ((ka, .slice none 0 0, [107], [], ptZ, 3))) S22 (by decide) rfl rfl (List.forall_mem_cons.2 ⟨rfl, fun _ h => by cases h⟩) rfl ?_)
                  intro bk wk hnk
                  have hbnk := hnk.num; have hbsk := hnk.size
                  replace hN := hN.ext hnk.ext
                  replace hT := hT.ext hnk.ext
                  replace hU := hU.trans (Ext.upd hnk.ext)
                  replace hkr := hkr.ext hnk.ext
                  replace hB130 := hB130.ext hnk.ext
                  have hBk := hnk.blk
                  obtain ⟨uk, huk_⟩ : ∃ n, n = wk.heap.size := ⟨_, rfl⟩
                  have hlk := one_row (e := ((ka, .slice none 0 0, [107], [], ptZ, 3))) (up := uk) hBk (by omega) ⟨hkr, fun b hb => ⟨Nat.zero_le _, by have := hkr_b b hb; omega⟩⟩ (BRd.nil _ _ _)
                  refine L_gy (dj := 95) rfl rfl rfl (X_fn (vs := [(.slice (some ⟨bk, 0, none⟩) 1 1)]) en14 rfl (CT.mono (c_rightI _ [((ka, .slice none 0 0, [107], [], ptZ, 3) : IE)] _ 0 uk (by omega) hlk (fun e he => by have h : e = ((ka, .slice none 0 0, [107], [], ptZ, 3) : IE) := (by simpa using he); subst h; exact ItS)) ?_))
                  rintro _ w138 ⟨rfl, hu138⟩
                  have hz138 := hu138.size
                  replace hN := hN.ext hu138
                  replace hT := hT.ext hu138
                  replace hU := hU.trans (Ext.upd hu138)
                  replace hkr := hkr.ext hu138
                  replace hB130 := hB130.ext hu138
                  replace hlk := hlk.ext hu138
                  rw [show decide (RightI (dsI [((ka, .slice none 0 0, [107], [], ptZ, 3) : IE)])) = false from decide_eq_false IWS_not]
                  refine L_gy (dj := 95) rfl rfl rfl (X_not (b := false) (r := true) rfl rfl ?_)
                  refine L_op rfl (X_pick (t := true) (v := (.bool (true))) rfl rfl ?_)
                  refine L_op rfl (X_move (v := (.bool (true))) rfl ?_)
                  refine L_gy (dj := 101) rfl rfl rfl (X_fn (vs := [(.slice none 0 0)]) en14 rfl (CT.mono (c_rightI _ [] _ 0 0 (Nat.zero_le _) (NRd.nil _ _ _) (fun e he => by cases he)) ?_))
                  rintro _ w139 ⟨rfl, hu139⟩
                  have hz139 := hu139.size
                  replace hN := hN.ext hu139
                  replace hT := hT.ext hu139
                  replace hU := hU.trans (Ext.upd hu139)
                  replace hkr := hkr.ext hu139
                  replace hB130 := hB130.ext hu139
                  replace hlk := hlk.ext hu139
                  rw [show decide (RightI (dsI [])) = true from decide_eq_true IW0_right]
                  refine L_op rfl (X_pick (t := true) (v := (.bool (true))) rfl rfl ?_)
                  refine L_op rfl (X_move (v := (.bool (true))) rfl ?_)
                  refine L_gy (dj := 104) rfl rfl rfl (X_move (v := u) rfl ?_)
                  refine L_gy (dj := 104) rfl rfl rfl (X_move (v := u) rfl ?_)
                  refine L_gy (dj := 104) rfl rfl rfl (X_fn (vs := [u, u]) en15 rfl (CT.mono (c_sameI u u fs fs _ n0 s0 n0 s0 (by omega) (by omega) hN.rd hN.rd) ?_))
                  rintro _ w140 ⟨⟨g140, rfl, hg140⟩, hu140⟩
                  have hz140 := hu140.size
                  replace hN := hN.ext hu140
                  replace hT := hT.ext hu140
                  replace hU := hU.trans (Ext.upd hu140)
                  replace hkr := hkr.ext hu140
                  replace hB130 := hB130.ext hu140
                  replace hlk := hlk.ext hu140
                  obtain rfl : g140 = true := hg140.2 rfl
                  refine L_op rfl (X_pick (t := true) (v := (.bool (true))) rfl rfl ?_)
                  refine L_op rfl (X_move (v := (.bool (true))) rfl ?_)
                  refine L_gy (dj := 109) rfl rfl rfl (X_fn (vs := []) en9 rfl (CT.mono (c_wakes _ hT) ?_))
                  rintro vb141 w141 ⟨hvb141, hu141⟩
                  have hz141 := hu141.size
                  replace hN := hN.ext hu141
                  replace hT := hT.ext hu141
                  replace hU := hU.trans (Ext.upd hu141)
                  replace hkr := hkr.ext hu141
                  replace hB130 := hB130.ext hu141
                  replace hlk := hlk.ext hu141
                  subst hvb141
                  refine L_op rfl (X_pick (t := true) (v := (.bool (true))) rfl rfl ?_)
                  refine L_op rfl (X_assign (v := (.bool (true))) rfl ?_)
                  refine L_nil ?_
                  refine T_n ?_
                  refine W_ret ?_
                  exact BQ_r (End_1 Tryd.results5 (v := .bool true) rfl ⟨rfl, hU.own hn0⟩)
end Go.Proofs.YtmddmghgkkjbiaaDoor
