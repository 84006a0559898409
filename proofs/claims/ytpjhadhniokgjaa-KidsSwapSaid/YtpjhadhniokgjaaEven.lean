/-
  The walk of KidsEven. (Printed by wip/gen/t16evenw.py of this repo.)
-/
import Derived.Test.YtpjhadhniokgjaaKidsV
namespace Go.Proofs.Ytpjhadhniokgjaa
open Go Go.SL Go.Proofs

theorem built39e : Try.prog.built 39 [] = some (Value.slice none 0 0 :: ptC (0, 0, 0, 0, 0)).toArray := by kernel_rfl
theorem key_sub {es : List KE} {J L : List KD} (h : es.map (·.2) = L) (hs : ∀ d ∈ L, d ∈ J) (hJ : ∀ d ∈ J, d.1.length ≤ 140737488355328) : KeyOK es := KeyOK.of fun e he => hJ _ (hs _ (by rw [← h]; exact List.mem_map_of_mem he))

theorem headK_at {J : List KD} {k : Nat} {d : KD} (h : J[k]? = some d) : headK (J.drop k) = d.1 := by
  have hk := (List.getElem?_eq_some_iff.1 h).1
  rw [List.getElem?_eq_getElem hk] at h
  rw [List.drop_eq_getElem_cons hk, Option.some.inj h]; rfl

set_option maxHeartbeats 2000000 in
theorem c_kidsEven (l r key : Value) (es rs : List KE) (m : List UInt8) (w : World) (hl : NRd LK w 0 w.heap.size l es) (hr : NRd LK w 0 w.heap.size r rs) (hk : Rd w 1 key m.length (m.map byteV)) : CT Try.prog 6 #[l, r, key] w fun v w' => v = .bool true ∧ Ext w w' := by
  obtain ⟨n0, hn0⟩ : ∃ n, n = w.heap.size := ⟨_, rfl⟩
  have hU : Upd (fun i => n0 ≤ i) w w := Upd.refl _ _
  have hk_b : ∀ i, rbk key = some i → i < n0 := by rw [hn0]; exact fun i hi => hk.bound (by decide) hi
  rw [← hn0] at hl hr
  have hmx := hl.sv.len
  have hmx2 := hr.sv.len
  refine CT_of Try.func6 rfl rfl rfl ?_
  refine W_seq ?_
  refine W_reg ?_
  refine L_op rfl (X_assign (v := (.bool (false))) rfl ?_)
  refine L_nil ?_
  refine T_n ?_
  refine W_seq ?_
  refine W_seq ?_
  refine W_reg ?_
  refine L_op rfl (X_move (v := l) rfl ?_)
  refine L_op rfl (X_fn (vs := [l]) en7 rfl (CT.mono (c_great _ es _ _ _ hl) ?_))
  rintro _ _ ⟨⟨gG, rfl, hgG⟩, rfl⟩
  rcases Bool.eq_false_or_eq_true (gG) with hc1 | hc1
  · rw [hc1]
    refine L_op rfl (X_move (v := (.bool (true))) rfl ?_)
    refine L_gn (dj := 16) (t := true) rfl rfl rfl rfl ?_
    refine L_gn (dj := 16) (t := true) rfl rfl rfl rfl ?_
    refine L_op rfl (X_pick (t := true) (v := (.bool (true))) rfl rfl ?_)
    refine L_op rfl (X_move (v := (.bool (true))) rfl ?_)
    refine L_gn (dj := 20) (t := true) rfl rfl rfl rfl ?_
    refine L_gn (dj := 20) (t := true) rfl rfl rfl rfl ?_
    refine L_gn (dj := 20) (t := true) rfl rfl rfl rfl ?_
    refine L_op rfl (X_pick (t := true) (v := (.bool (true))) rfl rfl ?_)
    refine L_op rfl (X_move (v := (.bool (true))) rfl ?_)
    refine L_gn (dj := 25) (t := true) rfl rfl rfl rfl ?_
    refine L_gn (dj := 25) (t := true) rfl rfl rfl rfl ?_
    refine L_gn (dj := 25) (t := true) rfl rfl rfl rfl ?_
    refine L_op rfl (X_pick (t := true) (v := (.bool (true))) rfl rfl ?_)
    refine L_op rfl (X_move (v := (.bool (true))) rfl ?_)
    refine L_gn (dj := 30) (t := true) rfl rfl rfl rfl ?_
    refine L_gn (dj := 30) (t := true) rfl rfl rfl rfl ?_
    refine L_gn (dj := 30) (t := true) rfl rfl rfl rfl ?_
    refine L_op rfl (X_pick (t := true) (v := (.bool (true))) rfl rfl ?_)
    refine L_nil ?_
    refine T_n ?_
    refine W_ct rfl ?_
    refine W_seq ?_
    refine W_reg ?_
    refine L_op rfl (X_fn (vs := []) en9 rfl (CT.mono (c_wakes _) ?_))
    rintro vb2 w2 ⟨hvb2, hu2⟩
    have hz2 := hu2.size
    replace hl := hl.ext hu2
    replace hr := hr.ext hu2
    replace hk := hk.ext hu2
    replace hU := hU.trans (Ext.upd hu2)
    subst hvb2
    refine L_op rfl (X_assign (v := (.bool (true))) rfl ?_)
    refine L_nil ?_
    refine T_n ?_
    refine W_ret ?_
    refine T_r ?_
    exact BQ_r (End_1 Try.results6 (v := .bool true) rfl ⟨rfl, hU.own hn0⟩)
  · rw [hc1]
    refine L_op rfl (X_move (v := (.bool (false))) rfl ?_)
    refine L_gy (dj := 16) rfl rfl rfl (X_move (v := r) rfl ?_)
    refine L_gy (dj := 16) rfl rfl rfl (X_fn (vs := [r]) en7 rfl (CT.mono (c_great _ rs _ _ _ hr) ?_))
    rintro _ _ ⟨⟨gH, rfl, hgH⟩, rfl⟩
    rcases Bool.eq_false_or_eq_true (gH) with hc3 | hc3
    · rw [hc3]
      refine L_op rfl (X_pick (t := false) (v := (.bool (true))) rfl rfl ?_)
      refine L_op rfl (X_move (v := (.bool (true))) rfl ?_)
      refine L_gn (dj := 20) (t := true) rfl rfl rfl rfl ?_
      refine L_gn (dj := 20) (t := true) rfl rfl rfl rfl ?_
      refine L_gn (dj := 20) (t := true) rfl rfl rfl rfl ?_
      refine L_op rfl (X_pick (t := true) (v := (.bool (true))) rfl rfl ?_)
      refine L_op rfl (X_move (v := (.bool (true))) rfl ?_)
      refine L_gn (dj := 25) (t := true) rfl rfl rfl rfl ?_
      refine L_gn (dj := 25) (t := true) rfl rfl rfl rfl ?_
      refine L_gn (dj := 25) (t := true) rfl rfl rfl rfl ?_
      refine L_op rfl (X_pick (t := true) (v := (.bool (true))) rfl rfl ?_)
      refine L_op rfl (X_move (v := (.bool (true))) rfl ?_)
      refine L_gn (dj := 30) (t := true) rfl rfl rfl rfl ?_
      refine L_gn (dj := 30) (t := true) rfl rfl rfl rfl ?_
      refine L_gn (dj := 30) (t := true) rfl rfl rfl rfl ?_
      refine L_op rfl (X_pick (t := true) (v := (.bool (true))) rfl rfl ?_)
      refine L_nil ?_
      refine T_n ?_
      refine W_ct rfl ?_
      refine W_seq ?_
      refine W_reg ?_
      refine L_op rfl (X_fn (vs := []) en9 rfl (CT.mono (c_wakes _) ?_))
      rintro vb4 w4 ⟨hvb4, hu4⟩
      have hz4 := hu4.size
      replace hl := hl.ext hu4
      replace hr := hr.ext hu4
      replace hk := hk.ext hu4
      replace hU := hU.trans (Ext.upd hu4)
      subst hvb4
      refine L_op rfl (X_assign (v := (.bool (true))) rfl ?_)
      refine L_nil ?_
      refine T_n ?_
      refine W_ret ?_
      refine T_r ?_
      exact BQ_r (End_1 Try.results6 (v := .bool true) rfl ⟨rfl, hU.own hn0⟩)
    · rw [hc3]
      refine L_op rfl (X_pick (t := false) (v := (.bool (false))) rfl rfl ?_)
      refine L_op rfl (X_move (v := (.bool (false))) rfl ?_)
      refine L_gy (dj := 20) rfl rfl rfl (X_move (v := key) rfl ?_)
      refine L_gy (dj := 20) rfl rfl rfl (X_len (v := key) (n := m.length) Try.underlying23 rfl hk.sv ?_)
      by_cases hc5 : (((m.length : Nat) : Int) : Int) > (60)
      · refine L_gy (dj := 20) rfl rfl rfl (X_cmp (k := .i64) (a := ((m.length : Nat) : Int)) (b := 60) (r := true) rfl rfl rfl (decide_eq_true (p := ((60) : Int) < ((((m.length : Nat) : Int)) : Int)) (by omega)) ?_)
        refine L_op rfl (X_pick (t := false) (v := (.bool (true))) rfl rfl ?_)
        refine L_op rfl (X_move (v := (.bool (true))) rfl ?_)
        refine L_gn (dj := 25) (t := true) rfl rfl rfl rfl ?_
        refine L_gn (dj := 25) (t := true) rfl rfl rfl rfl ?_
        refine L_gn (dj := 25) (t := true) rfl rfl rfl rfl ?_
        refine L_op rfl (X_pick (t := true) (v := (.bool (true))) rfl rfl ?_)
        refine L_op rfl (X_move (v := (.bool (true))) rfl ?_)
        refine L_gn (dj := 30) (t := true) rfl rfl rfl rfl ?_
        refine L_gn (dj := 30) (t := true) rfl rfl rfl rfl ?_
        refine L_gn (dj := 30) (t := true) rfl rfl rfl rfl ?_
        refine L_op rfl (X_pick (t := true) (v := (.bool (true))) rfl rfl ?_)
        refine L_nil ?_
        refine T_n ?_
        refine W_ct rfl ?_
        refine W_seq ?_
        refine W_reg ?_
        refine L_op rfl (X_fn (vs := []) en9 rfl (CT.mono (c_wakes _) ?_))
        rintro vb6 w6 ⟨hvb6, hu6⟩
        have hz6 := hu6.size
        replace hl := hl.ext hu6
        replace hr := hr.ext hu6
        replace hk := hk.ext hu6
        replace hU := hU.trans (Ext.upd hu6)
        subst hvb6
        refine L_op rfl (X_assign (v := (.bool (true))) rfl ?_)
        refine L_nil ?_
        refine T_n ?_
        refine W_ret ?_
        refine T_r ?_
        exact BQ_r (End_1 Try.results6 (v := .bool true) rfl ⟨rfl, hU.own hn0⟩)
      · refine L_gy (dj := 20) rfl rfl rfl (X_cmp (k := .i64) (a := ((m.length : Nat) : Int)) (b := 60) (r := false) rfl rfl rfl (decide_eq_false (p := ((60) : Int) < ((((m.length : Nat) : Int)) : Int)) (by omega)) ?_)
        refine L_op rfl (X_pick (t := false) (v := (.bool (false))) rfl rfl ?_)
        refine L_op rfl (X_move (v := (.bool (false))) rfl ?_)
        refine L_gy (dj := 25) rfl rfl rfl (X_move (v := l) rfl ?_)
        refine L_gy (dj := 25) rfl rfl rfl (X_len (v := l) (n := es.length) Try.underlying22 rfl hl.sv ?_)
        by_cases hc7 : (((es.length : Nat) : Int) : Int) = (0)
        · refine L_gy (dj := 25) rfl rfl rfl (X_cmp (k := .i64) (a := ((es.length : Nat) : Int)) (b := 0) (r := true) rfl rfl rfl (decide_eq_true (p := ((((es.length : Nat) : Int)) : Int) = ((0) : Int)) (by omega)) ?_)
          refine L_op rfl (X_pick (t := false) (v := (.bool (true))) rfl rfl ?_)
          refine L_op rfl (X_move (v := (.bool (true))) rfl ?_)
          refine L_gn (dj := 30) (t := true) rfl rfl rfl rfl ?_
          refine L_gn (dj := 30) (t := true) rfl rfl rfl rfl ?_
          refine L_gn (dj := 30) (t := true) rfl rfl rfl rfl ?_
          refine L_op rfl (X_pick (t := true) (v := (.bool (true))) rfl rfl ?_)
          refine L_nil ?_
          refine T_n ?_
          refine W_ct rfl ?_
          refine W_seq ?_
          refine W_reg ?_
          refine L_op rfl (X_fn (vs := []) en9 rfl (CT.mono (c_wakes _) ?_))
          rintro vb8 w8 ⟨hvb8, hu8⟩
          have hz8 := hu8.size
          replace hl := hl.ext hu8
          replace hr := hr.ext hu8
          replace hk := hk.ext hu8
          replace hU := hU.trans (Ext.upd hu8)
          subst hvb8
          refine L_op rfl (X_assign (v := (.bool (true))) rfl ?_)
          refine L_nil ?_
          refine T_n ?_
          refine W_ret ?_
          refine T_r ?_
          exact BQ_r (End_1 Try.results6 (v := .bool true) rfl ⟨rfl, hU.own hn0⟩)
        · refine L_gy (dj := 25) rfl rfl rfl (X_cmp (k := .i64) (a := ((es.length : Nat) : Int)) (b := 0) (r := false) rfl rfl rfl (decide_eq_false (p := ((((es.length : Nat) : Int)) : Int) = ((0) : Int)) (by omega)) ?_)
          refine L_op rfl (X_pick (t := false) (v := (.bool (false))) rfl rfl ?_)
          refine L_op rfl (X_move (v := (.bool (false))) rfl ?_)
          refine L_gy (dj := 30) rfl rfl rfl (X_move (v := r) rfl ?_)
          refine L_gy (dj := 30) rfl rfl rfl (X_len (v := r) (n := rs.length) Try.underlying22 rfl hr.sv ?_)
          by_cases hc9 : (((rs.length : Nat) : Int) : Int) = (0)
          · refine L_gy (dj := 30) rfl rfl rfl (X_cmp (k := .i64) (a := ((rs.length : Nat) : Int)) (b := 0) (r := true) rfl rfl rfl (decide_eq_true (p := ((((rs.length : Nat) : Int)) : Int) = ((0) : Int)) (by omega)) ?_)
            refine L_op rfl (X_pick (t := false) (v := (.bool (true))) rfl rfl ?_)
            refine L_nil ?_
            refine T_n ?_
            refine W_ct rfl ?_
            refine W_seq ?_
            refine W_reg ?_
            refine L_op rfl (X_fn (vs := []) en9 rfl (CT.mono (c_wakes _) ?_))
            rintro vb10 w10 ⟨hvb10, hu10⟩
            have hz10 := hu10.size
            replace hl := hl.ext hu10
            replace hr := hr.ext hu10
            replace hk := hk.ext hu10
            replace hU := hU.trans (Ext.upd hu10)
            subst hvb10
            refine L_op rfl (X_assign (v := (.bool (true))) rfl ?_)
            refine L_nil ?_
            refine T_n ?_
            refine W_ret ?_
            refine T_r ?_
            exact BQ_r (End_1 Try.results6 (v := .bool true) rfl ⟨rfl, hU.own hn0⟩)
          · refine L_gy (dj := 30) rfl rfl rfl (X_cmp (k := .i64) (a := ((rs.length : Nat) : Int)) (b := 0) (r := false) rfl rfl rfl (decide_eq_false (p := ((((rs.length : Nat) : Int)) : Int) = ((0) : Int)) (by omega)) ?_)
            refine L_op rfl (X_pick (t := false) (v := (.bool (false))) rfl rfl ?_)
            refine L_nil ?_
            refine T_n ?_
            refine W_cf rfl ?_
            refine W_skip ?_
            refine T_n ?_
            refine W_seq ?_
            refine W_reg ?_
            refine L_op rfl (X_move (v := l) rfl ?_)
            refine L_op rfl (X_move (v := key) rfl ?_)
            refine L_op rfl (X_move (v := r) rfl ?_)
            have hgd := hgG hc1
            have hge := hgH hc3
            have hkl : KeyOK es := fun j e he => by have := hgd.2 j e he; omega
            have hkr : KeyOK rs := fun j e he => by have := hge.2 j e he; omega
            refine L_op rfl (X_fn (vs := [l, key, r]) en16 rfl (CT.mono (c_even l key r es rs m _ 0 n0 0 n0 (by omega) (by omega) hl hr hk hkl hkr (by omega) (by omega) (by omega) (by omega)) ?_))
            rintro _ w11 ⟨a, s, b, as_, bs, sl, rfl, ha, hs, hb, has, hbs, hsl, hu11⟩
            have hz11 := hu11.size
            replace hl := hl.ext hu11
            replace hr := hr.ext hu11
            replace hk := hk.ext hu11
            replace hU := hU.trans (Ext.upd hu11)
            obtain ⟨J, hJ⟩ : ∃ J, J = es.map (·.2) ++ nameK m (rs.map (·.2)) := ⟨_, rfl⟩
            rw [← hJ] at has hbs hsl
            have hJl : J.length = es.length + rs.length := by rw [hJ, List.length_append, nameK_length, List.length_map, List.length_map]
            have hJk : ∀ d ∈ J, d.1.length ≤ 140737488355328 := fun d hd => by rw [hJ] at hd; rcases List.mem_append.1 hd with h | h; (· obtain ⟨e, he, rfl⟩ := List.mem_map.1 h; exact hkl.mem e he); (· exact nameK_key hkr (by omega) h)
            have hal : as_.length = (es.length + rs.length + 1) / 2 := by have h := congrArg List.length has; rw [List.length_map, List.length_take] at h; omega
            have hbl : bs.length = (es.length + rs.length) / 2 := by have h := congrArg List.length hbs; rw [List.length_map, bareK_length, List.length_drop] at h; omega
            have hka : KeyOK as_ := key_sub has (fun d hd => List.mem_of_mem_take hd) hJk
            obtain ⟨los, hlos⟩ : ∃ n, n = w.heap.size := ⟨_, rfl⟩
            obtain ⟨ups, hups⟩ : ∃ n, n = w11.heap.size := ⟨_, rfl⟩
            rw [← hups, ← hlos] at ha hs hb
            refine L_op rfl (X_move (v := (.tuple #[a, s, b])) rfl ?_)
            refine L_op rfl (X_extract (l := [a, s, b]) (v := a) rfl rfl ?_)
            refine L_op rfl (X_extract (l := [a, s, b]) (v := s) rfl rfl ?_)
            refine L_op rfl (X_extract (l := [a, s, b]) (v := b) rfl rfl ?_)
            refine L_op rfl (X_assign (v := a) rfl ?_)
            refine L_op rfl (X_assign (v := s) rfl ?_)
            refine L_op rfl (X_assign (v := b) rfl ?_)
            refine L_nil ?_
            refine T_n ?_
            refine W_seq ?_
            refine W_reg ?_
            refine L_op rfl (X_move (v := l) rfl ?_)
            refine L_op rfl (X_len (v := l) (n := es.length) Try.underlying22 rfl hl.sv ?_)
            refine L_op rfl (X_move (v := r) rfl ?_)
            refine L_op rfl (X_len (v := r) (n := rs.length) Try.underlying22 rfl hr.sv ?_)
            refine L_op rfl (X_arith (k := .i64) (a := ((es.length : Nat) : Int)) (b := ((rs.length : Nat) : Int)) (r := ((es.length : Nat) : Int) + ((rs.length : Nat) : Int)) rfl rfl rfl (iadd64 rfl (by omega) (by omega)) ?_)
            refine L_op rfl (X_assign (v := (.int .i64 (((es.length : Nat) : Int) + ((rs.length : Nat) : Int)))) rfl ?_)
            refine L_nil ?_
            refine T_n ?_
            refine W_seq ?_
            refine W_seq ?_
            refine W_reg ?_
            refine L_op rfl (X_move (v := a) rfl ?_)
            refine L_op rfl (X_len (v := a) (n := as_.length) Try.underlying22 rfl ha.sv ?_)
            refine L_op rfl (X_move (v := (.int .i64 (((es.length : Nat) : Int) + ((rs.length : Nat) : Int)))) rfl ?_)
            refine L_op rfl (X_arith (k := .i64) (a := ((es.length : Nat) : Int) + ((rs.length : Nat) : Int)) (b := 1) (r := ((es.length : Nat) : Int) + ((rs.length : Nat) : Int) + 1) rfl rfl rfl (iadd64 rfl (by omega) (by omega)) ?_)
            refine L_op rfl (X_arith (k := .i64) (a := ((es.length : Nat) : Int) + ((rs.length : Nat) : Int) + 1) (b := 2) (r := (((es.length : Nat) : Int) + ((rs.length : Nat) : Int) + 1) / 2) rfl rfl rfl (iquo64 (by omega) rfl (by omega) (by omega)) ?_)
            refine L_op rfl (X_cmp (k := .i64) (a := ((as_.length : Nat) : Int)) (b := (((es.length : Nat) : Int) + ((rs.length : Nat) : Int) + 1) / 2) (r := false) rfl rfl rfl (decide_eq_false (p := ((((as_.length : Nat) : Int)) : Int) ≠ (((((es.length : Nat) : Int) + ((rs.length : Nat) : Int) + 1) / 2) : Int)) (by omega)) ?_)
            refine L_op rfl (X_move (v := (.bool (false))) rfl ?_)
            refine L_gy (dj := 55) rfl rfl rfl (X_move (v := b) rfl ?_)
            refine L_gy (dj := 55) rfl rfl rfl (X_len (v := b) (n := bs.length) Try.underlying22 rfl hb.sv ?_)
            refine L_gy (dj := 55) rfl rfl rfl (X_move (v := (.int .i64 (((es.length : Nat) : Int) + ((rs.length : Nat) : Int)))) rfl ?_)
            refine L_gy (dj := 55) rfl rfl rfl (X_arith (k := .i64) (a := ((es.length : Nat) : Int) + ((rs.length : Nat) : Int)) (b := 2) (r := (((es.length : Nat) : Int) + ((rs.length : Nat) : Int)) / 2) rfl rfl rfl (iquo64 (by omega) rfl (by omega) (by omega)) ?_)
            refine L_gy (dj := 55) rfl rfl rfl (X_cmp (k := .i64) (a := ((bs.length : Nat) : Int)) (b := (((es.length : Nat) : Int) + ((rs.length : Nat) : Int)) / 2) (r := false) rfl rfl rfl (decide_eq_false (p := ((((bs.length : Nat) : Int)) : Int) ≠ (((((es.length : Nat) : Int) + ((rs.length : Nat) : Int)) / 2) : Int)) (by omega)) ?_)
            refine L_op rfl (X_pick (t := false) (v := (.bool (false))) rfl rfl ?_)
            refine L_nil ?_
            refine T_n ?_
            refine W_cf rfl ?_
            refine W_skip ?_
            refine T_n ?_
            refine W_seq ?_
            refine W_reg ?_
            refine L_op rfl (X_move (v := a) rfl ?_)
            refine L_op rfl (X_fn (vs := [a]) en13 rfl (CT.mono (c_ownR a as_ _ los ups (by omega) ha hka (by omega)) ?_))
            rintro vo w12 ⟨fs, hN, _, hfs, hu12⟩
            have hz12 := hu12.size
            replace hl := hl.ext hu12
            replace hr := hr.ext hu12
            replace hk := hk.ext hu12
            replace hU := hU.trans (Ext.upd hu12)
            replace ha := ha.ext hu12
            replace hb := hb.ext hu12
            replace hs := hs.ext hu12
            have hfl : fs.length = as_.length := by have h := congrArg List.length hfs; rwa [List.length_map, List.length_map] at h
            refine L_op rfl (X_move (v := b) rfl ?_)
            refine L_op rfl (X_append (B := w11.heap.size) (n := fs.length) (s := vo) (x := b) S22 ⟨_, Try.underlying22⟩ rfl rfl hN.1 hb.1 hb.sub_one (by unfold maxLen; omega) (by omega) (by omega) ?_)
            intro v5 w5 hO5 hu5 _
            have hz5 := hu5.size
            have hP := appR (by decide) hN hb hO5 hu5 (by omega) (by omega) (by omega)
            replace hl := hl.upd hu5 fun i h1 h2 h => by have h := hN.1.lt h; omega
            replace hr := hr.upd hu5 fun i h1 h2 h => by have h := hN.1.lt h; omega
            replace hk := hk.upd hu5 fun i hi h => by have hi := hk_b _ hi; have h := hN.1.lt h; omega
            replace hU := hU.trans (hu5.mono fun i _ h => by have h := hN.1.lt h; show n0 ≤ i; omega)
            replace ha := ha.upd hu5 fun i h1 h2 h => by have h := hN.1.lt h; omega
            replace hb := hb.upd hu5 fun i h1 h2 h => by have h := hN.1.lt h; omega
            replace hs := hs.upd hu5 fun i h1 h2 h => by have h := hN.1.lt h; omega
            obtain ⟨u5, hu5_⟩ : ∃ n, n = w5.heap.size := ⟨_, rfl⟩
            rw [← hu5_] at hP
            have hsv_a := ha.sv
            refine L_op rfl (X_assign (v := v5) rfl ?_)
            refine L_nil ?_
            refine T_n ?_
            refine W_seq ?_
            refine W_seq ?_
            refine W_reg ?_
            refine L_op rfl (X_assign (v := (.int .i64 (0))) rfl ?_)
            refine L_nil ?_
            refine T_n ?_
            refine W_block ?_
            refine W_loop (α := Nat) [6, 12, 13, 66, 67, 68, 69, 70, 71, 72, 73, 74, 75, 76, 77, 78, 79, 80, 81, 82, 83, 84, 85, 86, 87, 88, 89, 90, 91, 92, 93, 94, 95, 96, 97, 98, 99, 100, 101, 102, 103, 104, 105, 106, 107, 108, 109, 110, 111, 112, 113, 114, 115, 116, 117, 118, 119, 120, 121, 122, 123, 124, 125, 126, 127, 128, 129, 130, 131, 132, 133, 134, 135, 136, 137, 138, 139, 140, 141] (fun i => [(12, (.int .i64 (((i : Nat) : Int))))]) (fun i w_ => i ≤ es.length + rs.length ∧ NRd LK w_ 0 n0 l es ∧ NRd LK w_ 0 n0 r rs ∧ NRd LK w_ 0 u5 v5 (fs ++ bs) ∧ BRd w_ los ups (s, sl) ∧ Rd w_ 1 key m.length (m.map byteV) ∧ Upd (fun i => n0 ≤ i) w w_ ∧ u5 ≤ w_.heap.size) (fun i => es.length + rs.length - i) ⟨rfl, 0, ⟨Nat.zero_le _, hl, hr, hP, hs, hk, hU, by omega⟩, Out.refl _ _, ⟨rfl, trivial⟩⟩ ?_
            rintro i w13 _ ⟨hil, hl, hr, hP, hs, hk, hU, hu5w⟩
            have hsz_ := hU.size
            refine W_seq ?_
            refine W_seq ?_
            refine W_reg ?_
            refine L_op rfl (X_move (v := (.int .i64 (((i : Nat) : Int)))) rfl ?_)
            refine L_op rfl (X_move (v := (.int .i64 (((es.length : Nat) : Int) + ((rs.length : Nat) : Int)))) rfl ?_)
            by_cases hc14 : (((i : Nat) : Int) : Int) < (((es.length : Nat) : Int) + ((rs.length : Nat) : Int))
            · refine L_op rfl (X_cmp (k := .i64) (a := ((i : Nat) : Int)) (b := ((es.length : Nat) : Int) + ((rs.length : Nat) : Int)) (r := true) rfl rfl rfl (decide_eq_true (p := ((((i : Nat) : Int)) : Int) < ((((es.length : Nat) : Int) + ((rs.length : Nat) : Int)) : Int)) (by omega)) ?_)
              have hi : i < es.length + rs.length := by omega
              obtain ⟨d, hd⟩ : ∃ d, J[i]? = some d := ⟨_, List.getElem?_eq_getElem (by omega)⟩
              obtain ⟨y_, hy_⟩ : ∃ y, (fs ++ bs)[i]? = some y := ⟨_, List.getElem?_eq_getElem (by rw [List.length_append]; omega)⟩
              have hxd := even_at (hfs.trans has) hbs hy_ (by omega) hd
              have hxl := (krd hP hy_).len
              have hxi := (List.getElem?_eq_some_iff.1 hy_).1
              refine L_nil ?_
              refine T_n ?_
              refine W_ct rfl ?_
              refine W_skip ?_
              refine T_n ?_
              refine W_seq ?_
              refine W_block ?_
              refine W_seq ?_
              refine W_reg ?_
              refine L_op rfl (X_build built39e ?_)
              refine L_op rfl (X_alloc (z := (.agg #[(.slice none 0 0), (.int .u8 (0)), (.int .u16 (0)), (.int .u16 (0)), (.int .u32 (0)), (.int .u64 (0))])) (c := #[(.slice none 0 0), (.int .u8 (0)), (.int .u16 (0)), (.int .u16 (0)), (.int .u32 (0)), (.int .u64 (0))]) Zv39 rfl ?_)
              intro b15 w15 hn15
              have hbn15 := hn15.num; have hbs15 := hn15.size
              replace hl := hl.ext hn15.ext
              replace hr := hr.ext hn15.ext
              replace hP := hP.ext hn15.ext
              replace hs := hs.ext hn15.ext
              replace hk := hk.ext hn15.ext
              replace hU := hU.trans (Ext.upd hn15.ext)
              have hB15 := hn15.blk
              refine L_op0 (X_storeW (b := b15) (ys := (Value.slice none 0 0 :: ptC (0, 0, 0, 0, 0))) A39 rfl rfl (SV.kone (Own.nil w 0 5 1).sv _) rfl hB15 rfl ?_)
              intro w16 hu16 hb16
              have hz16 := hu16.size
              replace hl := hl.upd hu16 fun i h1 h2 h => by have h : i = b15 := h; omega
              replace hr := hr.upd hu16 fun i h1 h2 h => by have h : i = b15 := h; omega
              replace hP := hP.upd hu16 fun i h1 h2 h => by have h : i = b15 := h; omega
              replace hs := hs.upd hu16 fun i h1 h2 h => by have h : i = b15 := h; omega
              replace hk := hk.upd hu16 fun i hi h => by have hi := hk_b _ hi; have h : i = b15 := h; omega
              replace hU := hU.trans (hu16.mono fun i _ h => by have h : i = b15 := h; show n0 ≤ i; omega)
              replace hB15 := hb16
              refine L_nil ?_
              refine T_n ?_
              refine W_seq ?_
              refine W_seq ?_
              refine W_reg ?_
              refine L_op rfl (X_move (v := (.int .i64 (((i : Nat) : Int)))) rfl ?_)
              refine L_op rfl (X_move (v := l) rfl ?_)
              refine L_op rfl (X_len (v := l) (n := es.length) Try.underlying22 rfl hl.sv ?_)
              by_cases hc17 : (((i : Nat) : Int) : Int) < (((es.length : Nat) : Int))
              · refine L_op rfl (X_cmp (k := .i64) (a := ((i : Nat) : Int)) (b := ((es.length : Nat) : Int)) (r := true) rfl rfl rfl (decide_eq_true (p := ((((i : Nat) : Int)) : Int) < ((((es.length : Nat) : Int)) : Int)) (by omega)) ?_)
                refine L_nil ?_
                refine T_n ?_
                refine W_ct rfl ?_
                refine W_reg ?_
                refine L_op rfl (X_move (v := l) rfl ?_)
                refine L_op rfl (X_move (v := (.int .i64 (((i : Nat) : Int)))) rfl ?_)
                refine L_op rfl (X_idx (v := l) (n := es.length) (k := .i64) (i := ((i : Nat) : Int)) S22 rfl hl.sv rfl (by omega) (by omega) ?_)
                obtain ⟨e, hee⟩ : ∃ e, es[i]? = some e := ⟨_, List.getElem?_eq_getElem (by omega)⟩
                have hde : d = e.2 := by have h := join_l (rs := rs) (m := m) hee; rw [← hJ, hd] at h; exact Option.some.inj h
                refine L_op rfl (X_loadA (xs := e.1 :: ptC e.2.2) A39 rfl (kall hl (Int.toNat_natCast _) hee) rfl ?_)
                refine L_op0 (X_storeW (b := b15) (ys := (e.1 :: ptC e.2.2)) A39 rfl rfl (kone hl hee) rfl hB15 rfl ?_)
                intro w18 hu18 hb18
                have hz18 := hu18.size
                replace hl := hl.upd hu18 fun i h1 h2 h => by have h : i = b15 := h; omega
                replace hr := hr.upd hu18 fun i h1 h2 h => by have h : i = b15 := h; omega
                replace hP := hP.upd hu18 fun i h1 h2 h => by have h : i = b15 := h; omega
                replace hs := hs.upd hu18 fun i h1 h2 h => by have h : i = b15 := h; omega
                replace hk := hk.upd hu18 fun i hi h => by have hi := hk_b _ hi; have h : i = b15 := h; omega
                replace hU := hU.trans (hu18.mono fun i _ h => by have h : i = b15 := h; show n0 ≤ i; omega)
                replace hB15 := hb18
                refine L_nil ?_
                refine T_n ?_
                refine W_seq ?_
                refine W_seq ?_
                refine W_reg ?_
                refine L_op rfl (X_move (v := (.int .i64 (((i : Nat) : Int)))) rfl ?_)
                refine L_op rfl (X_move (v := l) rfl ?_)
                refine L_op rfl (X_len (v := l) (n := es.length) Try.underlying22 rfl hl.sv ?_)
                refine L_op rfl (X_cmp (k := .i64) (a := ((i : Nat) : Int)) (b := ((es.length : Nat) : Int)) (r := false) rfl rfl rfl (decide_eq_false (p := (((i : Nat) : Int) = ((es.length : Nat) : Int))) (by omega)) ?_)
                refine L_nil ?_
                refine T_n ?_
                refine W_cf rfl ?_
                refine W_skip ?_
                refine T_n ?_
                refine W_seq ?_
                rcases Bool.eq_false_or_eq_true (decide (i = as_.length)) with hs19 | hs19
                · have hdw : d = (e.2.1, e.2.2) := hde
                  have hia := of_decide_eq_true hs19
                  rw [if_pos (by omega), hdw] at hxd
                  have hxp : y_.2.2 = e.2.2 := by rw [hxd]
                  have hx0 : y_.2.1.length = 0 := by rw [hxd]; rfl
                  have hsw : sl = e.2.1 := by rw [hsl, ← show i = (es.length + rs.length + 1) / 2 by omega, headK_at hd, hdw]
                  refine W_draw 41 [[], [], [0, 1], [0, 1, 2], [0, 1, 2, 3], [], [5], [0, 1, 2, 3, 4, 5, 6], [0, 1, 2, 3, 4, 5, 6, 7], [0, 1, 2, 3, 4, 5, 6, 7, 8], [0, 1, 2, 3, 4, 5, 6, 7, 8], [0, 1, 2, 3, 4, 5, 6, 7, 8, 10], [0, 1, 2, 3, 4, 5, 6, 7, 8, 9, 10, 11], [0, 1, 2, 3, 4, 5, 6, 7, 8, 9, 10, 11, 12], [0, 1, 2, 3, 4, 5, 6, 7, 8, 9, 10, 11, 12, 13], [0, 1, 2, 3, 4, 5, 6, 7, 8, 9, 10, 11, 12, 13], [0, 1, 2, 3, 4, 5, 6, 7, 8, 9, 10, 11, 12, 13, 14, 15], [0, 1, 2, 3, 4, 5, 6, 7, 8, 9, 10, 11, 12, 13, 14, 15, 16], [0, 1, 2, 3, 4, 5, 6, 7, 8, 9, 10, 11, 12, 13, 14, 15, 16, 17], [0, 1, 2, 3, 4, 5, 6, 7, 8, 9, 10, 11, 12, 13, 14, 15, 16, 17, 18], [0, 1, 2, 3, 4, 5, 6, 7, 8, 9, 10, 11, 12, 13], [0, 1, 2, 3, 4, 5, 6, 7, 8, 9, 10, 11, 12, 13, 20], [0, 1, 2, 3, 4, 5, 6, 7, 8, 9, 10, 11, 12, 13, 20, 21], [0, 1, 2, 3, 4, 5, 6, 7, 8, 9, 10, 11, 12, 13, 14, 15, 16, 17, 18, 19, 20, 21, 22], [0, 1, 2, 3, 4, 5, 6, 7, 8, 9, 10, 11, 12, 13, 14, 15, 16, 17, 18, 19, 20, 21, 22, 23], [0, 1, 2, 3, 4, 5, 6, 7, 8, 9, 10, 11, 12, 13, 14, 15, 16, 17, 18, 19, 20, 21, 22, 23, 24], [0, 1, 2, 3, 4, 5, 6, 7, 8, 9, 10, 11, 12, 13, 14, 15, 16, 17, 18, 19, 20, 21, 22, 23, 24, 25], [0, 1, 2, 3, 4, 5, 6, 7, 8, 9, 10, 11, 12, 13, 14, 15, 16, 17, 18, 19, 20, 21, 22, 23, 24, 25, 26], [0, 1, 2, 3, 4, 5, 6, 7, 8, 9, 10, 11, 12, 13, 14, 15, 16, 17, 18, 19, 20, 21, 22, 23, 24, 25, 26], [0, 1, 2, 3, 4, 5, 6, 7, 8, 9, 10, 11, 12, 13, 14, 15, 16, 17, 18, 19, 20, 21, 22, 23, 24, 25, 26, 28], [0, 1, 2, 3, 4, 5, 6, 7, 8, 9, 10, 11, 12, 13, 14, 15, 16, 17, 18, 19, 20, 21, 22, 23, 24, 25, 26, 27, 28, 29], [0, 1, 2, 3, 4, 5, 6, 7, 8, 9, 10, 11, 12, 13, 14, 15, 16, 17, 18, 19, 20, 21, 22, 23, 24, 25, 26, 27, 28, 29, 30], [0, 1, 2, 3, 4, 5, 6, 7, 8, 9, 10, 11, 12, 13, 14, 15, 16, 17, 18, 19, 20, 21, 22, 23, 24, 25, 26, 27, 28, 29, 30, 31], [0, 1, 2, 3, 4, 5, 6, 7, 8, 9, 10, 11, 12, 13, 14, 15, 16, 17, 18, 19, 20, 21, 22, 23, 24, 25, 26, 27, 28, 29, 30, 31, 32], [0, 1, 2, 3, 4, 5, 6, 7, 8, 9, 10, 11, 12, 13, 14, 15, 16, 17, 18, 19, 20, 21, 22, 23, 24, 25, 26, 27, 28, 29, 30, 31], [0, 1, 2, 3, 4, 5, 6, 7, 8, 9, 10, 11, 12, 13, 14, 15, 16, 17, 18, 19, 20, 21, 22, 23, 24, 25, 26, 27, 28, 29, 30, 31, 34], [0, 1, 2, 3, 4, 5, 6, 7, 8, 9, 10, 11, 12, 13, 14, 15, 16, 17, 18, 19, 20, 21, 22, 23, 24, 25, 26, 27, 28, 29, 30, 31, 34, 35], [0, 1, 2, 3, 4, 5, 6, 7, 8, 9, 10, 11, 12, 13, 14, 15, 16, 17, 18, 19, 20, 21, 22, 23, 24, 25, 26, 27, 28, 29, 30, 31, 32, 33, 34, 35, 36], [0, 1, 2, 3, 4, 5, 6, 7, 8, 9, 10, 11, 12, 13, 14, 15, 16, 17, 18, 19, 20, 21, 22, 23, 24, 25, 26, 27, 28, 29, 30, 31, 32, 33, 34, 35, 36, 37], [0, 1, 2, 3, 4, 5, 6, 7, 8, 9, 10, 11, 12, 13, 14, 15, 16, 17, 18, 19, 20, 21, 22, 23, 24, 25, 26, 27, 28, 29, 30, 31, 32, 33, 34, 35, 36, 37, 38], [0, 1, 2, 3, 4, 5, 6, 7, 8, 9, 10, 11, 12, 13, 14, 15, 16, 17, 18, 19, 20, 21, 22, 23, 24, 25, 26, 27, 28, 29, 30, 31, 32, 33, 34, 35, 36, 37, 38], [0, 1, 2, 3, 4, 5, 6, 7, 8, 9, 10, 11, 12, 13, 14, 15, 16, 17, 18, 19, 20, 21, 22, 23, 24, 25, 26, 27, 28, 29, 30, 31, 32, 33, 34, 35, 36, 37, 38, 39, 40], [0, 1, 2, 3, 4, 5, 6, 7, 8, 9, 10, 11, 12, 13, 14, 15, 16, 17, 18, 19, 20, 21, 22, 23, 24, 25, 26, 27, 28, 29, 30, 31, 32, 33, 34, 35, 36, 37, 38, 39, 40, 41], [0, 1, 2, 3, 4, 5, 6, 7, 8, 9, 10, 11, 12, 13, 14, 15, 16, 17, 18, 19, 20, 21, 22, 23, 24, 25, 26, 27, 28, 29, 30, 31, 32, 33, 34, 35, 36, 37, 38, 39, 40, 41, 42], [0, 1, 2, 3, 4, 5, 6, 7, 8, 9, 10, 11, 12, 13, 14, 15, 16, 17, 18, 19, 20, 21, 22, 23, 24, 25, 26, 27, 28, 29, 30, 31, 32, 33, 34, 35, 36, 37, 38, 39, 40, 41, 42, 43], [0, 1, 2, 3, 4, 5, 6, 7, 8, 9, 10, 11, 12, 13, 14, 15, 16, 17, 18, 19, 20, 21, 22, 23, 24, 25, 26, 27, 28, 29, 30, 31, 32, 33, 34, 35, 36, 37, 38, 39, 40, 41, 42, 43, 44], [0, 1, 2, 3, 4, 5, 6, 7, 8, 9, 10, 11, 12, 13, 14, 15, 16, 17, 18, 19, 20, 21, 22, 23, 24, 25, 26, 27, 28, 29, 30, 31, 32, 33, 34, 35, 36, 37, 38, 39, 40, 41, 42, 43, 44, 45], [0, 1, 2, 3, 4, 5, 6, 7, 8, 9, 10, 11, 12, 13, 14, 15, 16, 17, 18, 19, 20, 21, 22, 23, 24, 25, 26, 27, 28, 29, 30, 31, 32, 33, 34, 35, 36, 37, 38, 39, 40, 41, 42, 43, 44, 45, 46], [0, 1, 2, 3, 4, 5, 6, 7, 8, 9, 10, 11, 12, 13, 14, 15, 16, 17, 18, 19, 20, 21, 22, 23, 24, 25, 26, 27, 28, 29, 30, 31, 32, 33, 34, 35, 36, 37, 38, 39, 40, 41, 42, 43, 44, 45, 46, 47]] mixed (by kernel_rfl) ?_
                  refine ⟨.det (fun val => v5), ⟨fun _ _ hv => rfl, fun _ _ _ _ _ => trivial⟩, fun val h_ W hx he => ⟨trivial, ?_⟩, ?_⟩
                  · replace hx := (Upd.drew _ _).trans hx
                    replace hl := hl.ext hx
                    replace hr := hr.ext hx
                    replace hP := hP.ext hx
                    replace hs := hs.ext hx
                    replace hk := hk.ext hx
                    replace hB15 := hB15.ext hx
                    have hE := Upd.refl (fun _ => False) W
                    refine id (X_move (v := v5) rfl ?_)
                    exact ⟨hE, rfl⟩
                  refine ⟨.det (fun val => (.int .i64 (((i : Nat) : Int)))), ⟨fun _ _ hv => rfl, fun _ _ _ _ _ => trivial⟩, fun val h_ W hx he => ⟨trivial, ?_⟩, ?_⟩
                  · replace hx := (Upd.drew _ _).trans hx
                    replace hl := hl.ext hx
                    replace hr := hr.ext hx
                    replace hP := hP.ext hx
                    replace hs := hs.ext hx
                    replace hk := hk.ext hx
                    replace hB15 := hB15.ext hx
                    have hE := Upd.refl (fun _ => False) W
                    refine id (X_move (v := (.int .i64 (((i : Nat) : Int)))) rfl ?_)
                    exact ⟨hE, rfl⟩
                  refine ⟨.det (fun val => (pof v5 ((((i : Nat) : Int) : Int).toNat * 6))), ⟨fun _ _ hv => rfl, fun _ _ _ _ _ => trivial⟩, fun val h_ W hx he => ⟨trivial, ?_⟩, ?_⟩
                  · replace hx := (Upd.drew _ _).trans hx
                    replace hl := hl.ext hx
                    replace hr := hr.ext hx
                    replace hP := hP.ext hx
                    replace hs := hs.ext hx
                    replace hk := hk.ext hx
                    replace hB15 := hB15.ext hx
                    have hE := Upd.refl (fun _ => False) W
                    refine id (X_idx (v := v5) (n := (fs ++ bs).length) (k := .i64) (i := ((i : Nat) : Int)) S22 rfl hP.sv rfl (by omega) (by omega) ?_)
                    exact ⟨hE, rfl⟩
                  refine ⟨.det (fun val => (pof v5 ((((i : Nat) : Int) : Int).toNat * 6 + 1))), ⟨fun _ _ hv => rfl, fun _ _ _ _ _ => trivial⟩, fun val h_ W hx he => ⟨trivial, ?_⟩, ?_⟩
                  · replace hx := (Upd.drew _ _).trans hx
                    replace hl := hl.ext hx
                    replace hr := hr.ext hx
                    replace hP := hP.ext hx
                    replace hs := hs.ext hx
                    replace hk := hk.ext hx
                    replace hB15 := hB15.ext hx
                    have hE := Upd.refl (fun _ => False) W
                    refine id (X_fldS (v := v5) (o := (((i : Nat) : Int) : Int).toNat * 6) Fd39_1 rfl hP.sv (by omega) ?_)
                    exact ⟨hE, rfl⟩
                  refine ⟨.det (fun val => (.agg (ptC y_.2.2).toArray)), ⟨fun _ _ hv => rfl, fun _ _ _ _ _ => trivial⟩, fun val h_ W hx he => ⟨trivial, ?_⟩, ?_⟩
                  · replace hx := (Upd.drew _ _).trans hx
                    replace hl := hl.ext hx
                    replace hr := hr.ext hx
                    replace hP := hP.ext hx
                    replace hs := hs.ext hx
                    replace hk := hk.ext hx
                    replace hB15 := hB15.ext hx
                    have hE := Upd.refl (fun _ => False) W
                    refine id (X_loadA (xs := ptC y_.2.2) A37 rfl (kptr hP (Int.toNat_natCast _) hy_) rfl ?_)
                    exact ⟨hE, rfl⟩
                  refine ⟨.det (fun val => (ptr b15 (1))), ⟨fun _ _ hv => rfl, fun _ _ _ _ _ => trivial⟩, fun val h_ W hx he => ⟨trivial, ?_⟩, ?_⟩
                  · replace hx := (Upd.drew _ _).trans hx
                    replace hl := hl.ext hx
                    replace hr := hr.ext hx
                    replace hP := hP.ext hx
                    replace hs := hs.ext hx
                    replace hk := hk.ext hx
                    replace hB15 := hB15.ext hx
                    have hE := Upd.refl (fun _ => False) W
                    refine id (X_fldP (b := b15) (o := 0) (r := 1) Fd39_1 rfl rfl ?_)
                    exact ⟨hE, rfl⟩
                  refine ⟨.det (fun val => (.agg (ptC e.2.2).toArray)), ⟨fun _ _ hv => rfl, fun _ _ _ _ _ => trivial⟩, fun val h_ W hx he => ⟨trivial, ?_⟩, ?_⟩
                  · replace hx := (Upd.drew _ _).trans hx
                    replace hl := hl.ext hx
                    replace hr := hr.ext hx
                    replace hP := hP.ext hx
                    replace hs := hs.ext hx
                    replace hk := hk.ext hx
                    replace hB15 := hB15.ext hx
                    have hE := Upd.refl (fun _ => False) W
                    refine id (X_loadA (xs := ptC e.2.2) A37 rfl (hB15.at_ 1 (ptC e.2.2) (fun j u hj => by rw [Nat.add_comm]; simpa using hj)) rfl ?_)
                    exact ⟨hE, rfl⟩
                  refine ⟨.det (fun val => (.bool (false))), ⟨fun _ _ hv => rfl, fun _ _ _ _ _ => trivial⟩, fun val h_ W hx he => ⟨trivial, ?_⟩, ?_⟩
                  · replace hx := (Upd.drew _ _).trans hx
                    replace hl := hl.ext hx
                    replace hr := hr.ext hx
                    replace hP := hP.ext hx
                    replace hs := hs.ext hx
                    replace hk := hk.ext hx
                    replace hB15 := hB15.ext hx
                    have hE := Upd.refl (fun _ => False) W
                    refine id (X_eqP (p := y_.2.2) (q := e.2.2) (r := false) Try.underlying37 u37 (by kernel_rfl) (by decide) ⟨rfl, rfl, rfl, rfl⟩ Try.underlying5 Try.underlying33 (by kernel_rfl) Try.underlying32 (ie := _) rfl (by kernel_rfl) Try.underlying34 Try.underlying35 (by kernel_rfl) rfl rfl (.inr ⟨rfl, by rw [hxp, beq_self_eq_true]; rfl⟩) ?_)
                    exact ⟨hE, rfl⟩
                  refine ⟨.det (fun val => (.bool (false))), ⟨fun _ _ hv => rfl, fun _ _ _ _ _ => trivial⟩, fun val h_ W hx he => ⟨trivial, ?_⟩, ?_⟩
                  · replace hx := (Upd.drew _ _).trans hx
                    replace hl := hl.ext hx
                    replace hr := hr.ext hx
                    replace hP := hP.ext hx
                    replace hs := hs.ext hx
                    replace hk := hk.ext hx
                    replace hB15 := hB15.ext hx
                    have hE := Upd.refl (fun _ => False) W
                    refine id (X_move (v := (.bool (false))) rfl ?_)
                    exact ⟨hE, rfl⟩
                  refine ⟨.det (fun val => (.int .i64 (((i : Nat) : Int)))), ⟨fun _ _ hv => rfl, fun _ _ _ _ _ => trivial⟩, fun val h_ W hx he => ⟨⟨101, rfl, rfl⟩, ?_⟩, ?_⟩
                  · replace hx := (Upd.drew _ _).trans hx
                    replace hl := hl.ext hx
                    replace hr := hr.ext hx
                    replace hP := hP.ext hx
                    replace hs := hs.ext hx
                    replace hk := hk.ext hx
                    replace hB15 := hB15.ext hx
                    have hE := Upd.refl (fun _ => False) W
                    refine id (X_move (v := (.int .i64 (((i : Nat) : Int)))) rfl ?_)
                    exact ⟨hE, rfl⟩
                  refine ⟨.det (fun val => a), ⟨fun _ _ hv => rfl, fun _ _ _ _ _ => trivial⟩, fun val h_ W hx he => ⟨⟨101, rfl, rfl⟩, ?_⟩, ?_⟩
                  · replace hx := (Upd.drew _ _).trans hx
                    replace hl := hl.ext hx
                    replace hr := hr.ext hx
                    replace hP := hP.ext hx
                    replace hs := hs.ext hx
                    replace hk := hk.ext hx
                    replace hB15 := hB15.ext hx
                    have hE := Upd.refl (fun _ => False) W
                    refine id (X_move (v := a) rfl ?_)
                    exact ⟨hE, rfl⟩
                  refine ⟨.det (fun val => (.int .i64 (((as_.length : Nat) : Int)))), ⟨fun _ _ hv => rfl, fun _ _ _ _ _ => trivial⟩, fun val h_ W hx he => ⟨⟨101, rfl, rfl⟩, ?_⟩, ?_⟩
                  · replace hx := (Upd.drew _ _).trans hx
                    replace hl := hl.ext hx
                    replace hr := hr.ext hx
                    replace hP := hP.ext hx
                    replace hs := hs.ext hx
                    replace hk := hk.ext hx
                    replace hB15 := hB15.ext hx
                    have hE := Upd.refl (fun _ => False) W
                    refine id (X_len (v := a) (n := as_.length) Try.underlying22 rfl hsv_a ?_)
                    exact ⟨hE, rfl⟩
                  refine ⟨.det (fun val => (.bool (false))), ⟨fun _ _ hv => rfl, fun _ _ _ _ _ => trivial⟩, fun val h_ W hx he => ⟨⟨101, rfl, rfl⟩, ?_⟩, ?_⟩
                  · replace hx := (Upd.drew _ _).trans hx
                    replace hl := hl.ext hx
                    replace hr := hr.ext hx
                    replace hP := hP.ext hx
                    replace hs := hs.ext hx
                    replace hk := hk.ext hx
                    replace hB15 := hB15.ext hx
                    have hE := Upd.refl (fun _ => False) W
                    refine id (X_cmp (k := .i64) (a := ((i : Nat) : Int)) (b := ((as_.length : Nat) : Int)) (r := false) rfl rfl rfl (decide_eq_false (p := (((i : Nat) : Int) ≠ ((as_.length : Nat) : Int))) (by omega)) ?_)
                    exact ⟨hE, rfl⟩
                  refine ⟨.det (fun val => (.bool (false))), ⟨fun _ _ hv => rfl, fun _ _ _ _ _ => trivial⟩, fun val h_ W hx he => ⟨⟨101, rfl, rfl⟩, ?_⟩, ?_⟩
                  · replace hx := (Upd.drew _ _).trans hx
                    replace hl := hl.ext hx
                    replace hr := hr.ext hx
                    replace hP := hP.ext hx
                    replace hs := hs.ext hx
                    replace hk := hk.ext hx
                    replace hB15 := hB15.ext hx
                    have hE := Upd.refl (fun _ => False) W
                    refine id (X_move (v := (.bool (false))) rfl ?_)
                    exact ⟨hE, rfl⟩
                  refine ⟨.no, ⟨fun _ _ _ => trivial, fun _ _ _ _ _ => trivial⟩, fun val h_ W hx he => ⟨106, rfl, .inl rfl⟩, ?_⟩
                  refine ⟨.no, ⟨fun _ _ _ => trivial, fun _ _ _ _ _ => trivial⟩, fun val h_ W hx he => ⟨106, rfl, .inl rfl⟩, ?_⟩
                  refine ⟨.no, ⟨fun _ _ _ => trivial, fun _ _ _ _ _ => trivial⟩, fun val h_ W hx he => ⟨106, rfl, .inl rfl⟩, ?_⟩
                  refine ⟨.no, ⟨fun _ _ _ => trivial, fun _ _ _ _ _ => trivial⟩, fun val h_ W hx he => ⟨106, rfl, .inl rfl⟩, ?_⟩
                  refine ⟨.no, ⟨fun _ _ _ => trivial, fun _ _ _ _ _ => trivial⟩, fun val h_ W hx he => ⟨106, rfl, .inl rfl⟩, ?_⟩
                  refine ⟨.no, ⟨fun _ _ _ => trivial, fun _ _ _ _ _ => trivial⟩, fun val h_ W hx he => ⟨106, rfl, .inl rfl⟩, ?_⟩
                  refine ⟨.no, ⟨fun _ _ _ => trivial, fun _ _ _ _ _ => trivial⟩, fun val h_ W hx he => ⟨106, rfl, .inl rfl⟩, ?_⟩
                  refine ⟨.no, ⟨fun _ _ _ => trivial, fun _ _ _ _ _ => trivial⟩, fun val h_ W hx he => ⟨106, rfl, .inl rfl⟩, ?_⟩
                  refine ⟨.no, ⟨fun _ _ _ => trivial, fun _ _ _ _ _ => trivial⟩, fun val h_ W hx he => ⟨106, rfl, .inl rfl⟩, ?_⟩
                  refine ⟨.no, ⟨fun _ _ _ => trivial, fun _ _ _ _ _ => trivial⟩, fun val h_ W hx he => ⟨106, rfl, .inl rfl⟩, ?_⟩
                  refine ⟨.det (fun val => (.bool (false))), ⟨fun _ _ hv => rfl, fun _ _ _ _ _ => trivial⟩, fun val h_ W hx he => ⟨⟨101, rfl, rfl⟩, ?_⟩, ?_⟩
                  · replace hx := (Upd.drew _ _).trans hx
                    replace hl := hl.ext hx
                    replace hr := hr.ext hx
                    replace hP := hP.ext hx
                    replace hs := hs.ext hx
                    replace hk := hk.ext hx
                    replace hB15 := hB15.ext hx
                    have hE := Upd.refl (fun _ => False) W
                    refine id (X_pick (t := false) (v := (.bool (false))) rfl rfl ?_)
                    exact ⟨hE, rfl⟩
                  refine ⟨.det (fun val => (.bool (false))), ⟨fun _ _ hv => rfl, fun _ _ _ _ _ => trivial⟩, fun val h_ W hx he => ⟨trivial, ?_⟩, ?_⟩
                  · replace hx := (Upd.drew _ _).trans hx
                    replace hl := hl.ext hx
                    replace hr := hr.ext hx
                    replace hP := hP.ext hx
                    replace hs := hs.ext hx
                    replace hk := hk.ext hx
                    replace hB15 := hB15.ext hx
                    have hE := Upd.refl (fun _ => False) W
                    refine id (X_pick (t := false) (v := (.bool (false))) rfl rfl ?_)
                    exact ⟨hE, rfl⟩
                  refine ⟨.det (fun val => (.bool (false))), ⟨fun _ _ hv => rfl, fun _ _ _ _ _ => trivial⟩, fun val h_ W hx he => ⟨trivial, ?_⟩, ?_⟩
                  · replace hx := (Upd.drew _ _).trans hx
                    replace hl := hl.ext hx
                    replace hr := hr.ext hx
                    replace hP := hP.ext hx
                    replace hs := hs.ext hx
                    replace hk := hk.ext hx
                    replace hB15 := hB15.ext hx
                    have hE := Upd.refl (fun _ => False) W
                    refine id (X_move (v := (.bool (false))) rfl ?_)
                    exact ⟨hE, rfl⟩
                  refine ⟨.det (fun val => (.int .i64 (((i : Nat) : Int)))), ⟨fun _ _ hv => rfl, fun _ _ _ _ _ => trivial⟩, fun val h_ W hx he => ⟨⟨119, rfl, rfl⟩, ?_⟩, ?_⟩
                  · replace hx := (Upd.drew _ _).trans hx
                    replace hl := hl.ext hx
                    replace hr := hr.ext hx
                    replace hP := hP.ext hx
                    replace hs := hs.ext hx
                    replace hk := hk.ext hx
                    replace hB15 := hB15.ext hx
                    have hE := Upd.refl (fun _ => False) W
                    refine id (X_move (v := (.int .i64 (((i : Nat) : Int)))) rfl ?_)
                    exact ⟨hE, rfl⟩
                  refine ⟨.det (fun val => a), ⟨fun _ _ hv => rfl, fun _ _ _ _ _ => trivial⟩, fun val h_ W hx he => ⟨⟨119, rfl, rfl⟩, ?_⟩, ?_⟩
                  · replace hx := (Upd.drew _ _).trans hx
                    replace hl := hl.ext hx
                    replace hr := hr.ext hx
                    replace hP := hP.ext hx
                    replace hs := hs.ext hx
                    replace hk := hk.ext hx
                    replace hB15 := hB15.ext hx
                    have hE := Upd.refl (fun _ => False) W
                    refine id (X_move (v := a) rfl ?_)
                    exact ⟨hE, rfl⟩
                  refine ⟨.det (fun val => (.int .i64 (((as_.length : Nat) : Int)))), ⟨fun _ _ hv => rfl, fun _ _ _ _ _ => trivial⟩, fun val h_ W hx he => ⟨⟨119, rfl, rfl⟩, ?_⟩, ?_⟩
                  · replace hx := (Upd.drew _ _).trans hx
                    replace hl := hl.ext hx
                    replace hr := hr.ext hx
                    replace hP := hP.ext hx
                    replace hs := hs.ext hx
                    replace hk := hk.ext hx
                    replace hB15 := hB15.ext hx
                    have hE := Upd.refl (fun _ => False) W
                    refine id (X_len (v := a) (n := as_.length) Try.underlying22 rfl hsv_a ?_)
                    exact ⟨hE, rfl⟩
                  refine ⟨.det (fun val => (.bool (true))), ⟨fun _ _ hv => rfl, fun _ _ _ _ _ => trivial⟩, fun val h_ W hx he => ⟨⟨119, rfl, rfl⟩, ?_⟩, ?_⟩
                  · replace hx := (Upd.drew _ _).trans hx
                    replace hl := hl.ext hx
                    replace hr := hr.ext hx
                    replace hP := hP.ext hx
                    replace hs := hs.ext hx
                    replace hk := hk.ext hx
                    replace hB15 := hB15.ext hx
                    have hE := Upd.refl (fun _ => False) W
                    refine id (X_cmp (k := .i64) (a := ((i : Nat) : Int)) (b := ((as_.length : Nat) : Int)) (r := true) rfl rfl rfl (decide_eq_true (p := (((i : Nat) : Int) = ((as_.length : Nat) : Int))) (by omega)) ?_)
                    exact ⟨hE, rfl⟩
                  refine ⟨.det (fun val => (.bool (true))), ⟨fun _ _ hv => rfl, fun _ _ _ _ _ => trivial⟩, fun val h_ W hx he => ⟨⟨119, rfl, rfl⟩, ?_⟩, ?_⟩
                  · replace hx := (Upd.drew _ _).trans hx
                    replace hl := hl.ext hx
                    replace hr := hr.ext hx
                    replace hP := hP.ext hx
                    replace hs := hs.ext hx
                    replace hk := hk.ext hx
                    replace hB15 := hB15.ext hx
                    have hE := Upd.refl (fun _ => False) W
                    refine id (X_move (v := (.bool (true))) rfl ?_)
                    exact ⟨hE, rfl⟩
                  refine ⟨.det (fun val => s), ⟨fun _ _ hv => rfl, fun _ _ _ _ _ => trivial⟩, fun val h_ W hx he => ⟨⟨124, rfl, rfl⟩, ?_⟩, ?_⟩
                  · replace hx := (Upd.drew _ _).trans hx
                    replace hl := hl.ext hx
                    replace hr := hr.ext hx
                    replace hP := hP.ext hx
                    replace hs := hs.ext hx
                    replace hk := hk.ext hx
                    replace hB15 := hB15.ext hx
                    have hE := Upd.refl (fun _ => False) W
                    refine id (X_move (v := s) rfl ?_)
                    exact ⟨hE, rfl⟩
                  refine ⟨.det (fun val => (strV (sl))), ⟨fun _ _ hv => rfl, fun _ _ _ _ _ => trivial⟩, fun val h_ W hx he => ⟨⟨124, rfl, rfl⟩, ?_⟩, ?_⟩
                  · replace hx := (Upd.drew _ _).trans hx
                    replace hl := hl.ext hx
                    replace hr := hr.ext hx
                    replace hP := hP.ext hx
                    replace hs := hs.ext hx
                    replace hk := hk.ext hx
                    replace hB15 := hB15.ext hx
                    have hE := Upd.refl (fun _ => False) W
                    refine id (X_str (v := s) (l := sl) Try.underlying23 Try.underlying5 Try.underlying9 rfl hs.1 ?_)
                    exact ⟨hE, rfl⟩
                  refine ⟨.det (fun val => (ptr b15 (0))), ⟨fun _ _ hv => rfl, fun _ _ _ _ _ => trivial⟩, fun val h_ W hx he => ⟨⟨124, rfl, rfl⟩, ?_⟩, ?_⟩
                  · replace hx := (Upd.drew _ _).trans hx
                    replace hl := hl.ext hx
                    replace hr := hr.ext hx
                    replace hP := hP.ext hx
                    replace hs := hs.ext hx
                    replace hk := hk.ext hx
                    replace hB15 := hB15.ext hx
                    have hE := Upd.refl (fun _ => False) W
                    refine id (X_fldP (b := b15) (o := 0) (r := 0) Fd39_0 rfl rfl ?_)
                    exact ⟨hE, rfl⟩
                  refine ⟨.det (fun val => e.1), ⟨fun _ _ hv => rfl, fun _ _ _ _ _ => trivial⟩, fun val h_ W hx he => ⟨⟨124, rfl, rfl⟩, ?_⟩, ?_⟩
                  · replace hx := (Upd.drew _ _).trans hx
                    replace hl := hl.ext hx
                    replace hr := hr.ext hx
                    replace hP := hP.ext hx
                    replace hs := hs.ext hx
                    replace hk := hk.ext hx
                    replace hB15 := hB15.ext hx
                    have hE := Upd.refl (fun _ => False) W
                    refine id (X_load (p := (ptr b15 (0))) (v := e.1) T23 rfl (hB15.at1 rfl) ?_)
                    exact ⟨hE, rfl⟩
                  refine ⟨.det (fun val => (strV (e.2.1))), ⟨fun _ _ hv => rfl, fun _ _ _ _ _ => trivial⟩, fun val h_ W hx he => ⟨⟨124, rfl, rfl⟩, ?_⟩, ?_⟩
                  · replace hx := (Upd.drew _ _).trans hx
                    replace hl := hl.ext hx
                    replace hr := hr.ext hx
                    replace hP := hP.ext hx
                    replace hs := hs.ext hx
                    replace hk := hk.ext hx
                    replace hB15 := hB15.ext hx
                    have hE := Upd.refl (fun _ => False) W
                    refine id (X_str (v := e.1) (l := e.2.1) Try.underlying23 Try.underlying5 Try.underlying9 rfl (krd hl hee) ?_)
                    exact ⟨hE, rfl⟩
                  refine ⟨.det (fun val => (.bool (false))), ⟨fun _ _ hv => rfl, fun _ _ _ _ _ => trivial⟩, fun val h_ W hx he => ⟨⟨124, rfl, rfl⟩, ?_⟩, ?_⟩
                  · replace hx := (Upd.drew _ _).trans hx
                    replace hl := hl.ext hx
                    replace hr := hr.ext hx
                    replace hP := hP.ext hx
                    replace hs := hs.ext hx
                    replace hk := hk.ext hx
                    replace hB15 := hB15.ext hx
                    have hE := Upd.refl (fun _ => False) W
                    refine id (X_scmp (a := sl) (b := e.2.1) (r := false) rfl rfl rfl (by show (!(sl == e.2.1)) = false; rw [hsw, beq_self_eq_true]; rfl) ?_)
                    exact ⟨hE, rfl⟩
                  refine ⟨.det (fun val => (.bool (false))), ⟨fun _ _ hv => rfl, fun _ _ _ _ _ => trivial⟩, fun val h_ W hx he => ⟨⟨124, rfl, rfl⟩, ?_⟩, ?_⟩
                  · replace hx := (Upd.drew _ _).trans hx
                    replace hl := hl.ext hx
                    replace hr := hr.ext hx
                    replace hP := hP.ext hx
                    replace hs := hs.ext hx
                    replace hk := hk.ext hx
                    replace hB15 := hB15.ext hx
                    have hE := Upd.refl (fun _ => False) W
                    refine id (X_move (v := (.bool (false))) rfl ?_)
                    exact ⟨hE, rfl⟩
                  refine ⟨.det (fun val => v5), ⟨fun _ _ hv => rfl, fun _ _ _ _ _ => trivial⟩, fun val h_ W hx he => ⟨⟨131, rfl, rfl⟩, ?_⟩, ?_⟩
                  · replace hx := (Upd.drew _ _).trans hx
                    replace hl := hl.ext hx
                    replace hr := hr.ext hx
                    replace hP := hP.ext hx
                    replace hs := hs.ext hx
                    replace hk := hk.ext hx
                    replace hB15 := hB15.ext hx
                    have hE := Upd.refl (fun _ => False) W
                    refine id (X_move (v := v5) rfl ?_)
                    exact ⟨hE, rfl⟩
                  refine ⟨.det (fun val => (.int .i64 (((i : Nat) : Int)))), ⟨fun _ _ hv => rfl, fun _ _ _ _ _ => trivial⟩, fun val h_ W hx he => ⟨⟨131, rfl, rfl⟩, ?_⟩, ?_⟩
                  · replace hx := (Upd.drew _ _).trans hx
                    replace hl := hl.ext hx
                    replace hr := hr.ext hx
                    replace hP := hP.ext hx
                    replace hs := hs.ext hx
                    replace hk := hk.ext hx
                    replace hB15 := hB15.ext hx
                    have hE := Upd.refl (fun _ => False) W
                    refine id (X_move (v := (.int .i64 (((i : Nat) : Int)))) rfl ?_)
                    exact ⟨hE, rfl⟩
                  intro val W20 hx20 he20
                  replace hx20 := (Upd.drew _ _).trans hx20
                  have hz20 := hx20.size
                  replace hl := hl.ext hx20
                  replace hr := hr.ext hx20
                  replace hP := hP.ext hx20
                  replace hs := hs.ext hx20
                  replace hk := hk.ext hx20
                  replace hU := hU.trans (Ext.upd hx20)
                  replace hB15 := hB15.ext hx20
                  refine L_gy (dj := 131) rfl rfl rfl (X_idx (v := v5) (n := (fs ++ bs).length) (k := .i64) (i := ((i : Nat) : Int)) S22 rfl hP.sv rfl (by omega) (by omega) ?_)
                  refine L_gy (dj := 131) rfl rfl rfl (X_fldS (v := v5) (o := (((i : Nat) : Int) : Int).toNat * 6) Fd39_0 rfl hP.sv (by omega) ?_)
                  refine L_gy (dj := 131) rfl rfl rfl (X_load (v := y_.1) T23 rfl (kkey hP (Int.toNat_natCast _) hy_) ?_)
                  refine L_gy (dj := 131) rfl rfl rfl (X_len (v := y_.1) (n := y_.2.1.length) Try.underlying23 rfl (krd hP hy_).sv ?_)
                  refine L_gy (dj := 131) rfl rfl rfl (X_cmp (k := .i64) (a := ((y_.2.1.length : Nat) : Int)) (b := 0) (r := false) rfl rfl rfl (decide_eq_false (p := ((((y_.2.1.length : Nat) : Int)) : Int) ≠ ((0) : Int)) (by omega)) ?_)
                  refine L_gy (dj := 124) rfl rfl rfl (X_pick (t := false) (v := (.bool (false))) rfl rfl ?_)
                  refine L_gy (dj := 119) rfl rfl rfl (X_pick (t := true) (v := (.bool (false))) rfl rfl ?_)
                  refine L_op rfl (X_pick (t := false) (v := (.bool (false))) rfl rfl ?_)
                  refine L_nil ?_
                  refine T_n ?_
                  refine W_cf rfl ?_
                  refine W_skip ?_
                  refine B_n ?_
                  refine T_n ?_
                  refine W_reg ?_
                  refine L_op rfl (X_move (v := (.int .i64 (((i : Nat) : Int)))) rfl ?_)
                  refine L_op rfl (X_arith (k := .i64) (a := ((i : Nat) : Int)) (b := 1) (r := ((i + 1 : Nat) : Int)) rfl rfl rfl (iadd64 (by omega) (by omega) (by omega)) ?_)
                  refine L_op rfl (X_assign (v := (.int .i64 (((i + 1 : Nat) : Int)))) rfl ?_)
                  refine L_nil ?_
                  refine T_n ?_
                  exact ⟨rfl, i + 1, ⟨⟨hi, hl, hr, hP, hs, hk, hU, by omega⟩, (by show es.length + rs.length - (i + 1) < es.length + rs.length - i; omega)⟩, (Out.mk rfl), ⟨rfl, trivial⟩⟩
                · have hdw : d = (e.2.1, e.2.2) := hde
                  have hia := of_decide_eq_false hs19
                  rw [if_neg (by omega), hdw] at hxd
                  have hxp : y_.2.2 = e.2.2 := by rw [hxd]
                  have hxk : y_.2.1 = e.2.1 := by rw [hxd]
                  refine W_draw 41 [[], [], [0, 1], [0, 1, 2], [0, 1, 2, 3], [], [5], [0, 1, 2, 3, 4, 5, 6], [0, 1, 2, 3, 4, 5, 6, 7], [0, 1, 2, 3, 4, 5, 6, 7, 8], [0, 1, 2, 3, 4, 5, 6, 7, 8], [0, 1, 2, 3, 4, 5, 6, 7, 8, 10], [0, 1, 2, 3, 4, 5, 6, 7, 8, 9, 10, 11], [0, 1, 2, 3, 4, 5, 6, 7, 8, 9, 10, 11, 12], [0, 1, 2, 3, 4, 5, 6, 7, 8, 9, 10, 11, 12, 13], [0, 1, 2, 3, 4, 5, 6, 7, 8, 9, 10, 11, 12, 13], [0, 1, 2, 3, 4, 5, 6, 7, 8, 9, 10, 11, 12, 13, 14, 15], [0, 1, 2, 3, 4, 5, 6, 7, 8, 9, 10, 11, 12, 13, 14, 15, 16], [0, 1, 2, 3, 4, 5, 6, 7, 8, 9, 10, 11, 12, 13, 14, 15, 16, 17], [0, 1, 2, 3, 4, 5, 6, 7, 8, 9, 10, 11, 12, 13, 14, 15, 16, 17, 18], [0, 1, 2, 3, 4, 5, 6, 7, 8, 9, 10, 11, 12, 13], [0, 1, 2, 3, 4, 5, 6, 7, 8, 9, 10, 11, 12, 13, 20], [0, 1, 2, 3, 4, 5, 6, 7, 8, 9, 10, 11, 12, 13, 20, 21], [0, 1, 2, 3, 4, 5, 6, 7, 8, 9, 10, 11, 12, 13, 14, 15, 16, 17, 18, 19, 20, 21, 22], [0, 1, 2, 3, 4, 5, 6, 7, 8, 9, 10, 11, 12, 13, 14, 15, 16, 17, 18, 19, 20, 21, 22, 23], [0, 1, 2, 3, 4, 5, 6, 7, 8, 9, 10, 11, 12, 13, 14, 15, 16, 17, 18, 19, 20, 21, 22, 23, 24], [0, 1, 2, 3, 4, 5, 6, 7, 8, 9, 10, 11, 12, 13, 14, 15, 16, 17, 18, 19, 20, 21, 22, 23, 24, 25], [0, 1, 2, 3, 4, 5, 6, 7, 8, 9, 10, 11, 12, 13, 14, 15, 16, 17, 18, 19, 20, 21, 22, 23, 24, 25, 26], [0, 1, 2, 3, 4, 5, 6, 7, 8, 9, 10, 11, 12, 13, 14, 15, 16, 17, 18, 19, 20, 21, 22, 23, 24, 25, 26], [0, 1, 2, 3, 4, 5, 6, 7, 8, 9, 10, 11, 12, 13, 14, 15, 16, 17, 18, 19, 20, 21, 22, 23, 24, 25, 26, 28], [0, 1, 2, 3, 4, 5, 6, 7, 8, 9, 10, 11, 12, 13, 14, 15, 16, 17, 18, 19, 20, 21, 22, 23, 24, 25, 26, 27, 28, 29], [0, 1, 2, 3, 4, 5, 6, 7, 8, 9, 10, 11, 12, 13, 14, 15, 16, 17, 18, 19, 20, 21, 22, 23, 24, 25, 26, 27, 28, 29, 30], [0, 1, 2, 3, 4, 5, 6, 7, 8, 9, 10, 11, 12, 13, 14, 15, 16, 17, 18, 19, 20, 21, 22, 23, 24, 25, 26, 27, 28, 29, 30, 31], [0, 1, 2, 3, 4, 5, 6, 7, 8, 9, 10, 11, 12, 13, 14, 15, 16, 17, 18, 19, 20, 21, 22, 23, 24, 25, 26, 27, 28, 29, 30, 31, 32], [0, 1, 2, 3, 4, 5, 6, 7, 8, 9, 10, 11, 12, 13, 14, 15, 16, 17, 18, 19, 20, 21, 22, 23, 24, 25, 26, 27, 28, 29, 30, 31], [0, 1, 2, 3, 4, 5, 6, 7, 8, 9, 10, 11, 12, 13, 14, 15, 16, 17, 18, 19, 20, 21, 22, 23, 24, 25, 26, 27, 28, 29, 30, 31, 34], [0, 1, 2, 3, 4, 5, 6, 7, 8, 9, 10, 11, 12, 13, 14, 15, 16, 17, 18, 19, 20, 21, 22, 23, 24, 25, 26, 27, 28, 29, 30, 31, 34, 35], [0, 1, 2, 3, 4, 5, 6, 7, 8, 9, 10, 11, 12, 13, 14, 15, 16, 17, 18, 19, 20, 21, 22, 23, 24, 25, 26, 27, 28, 29, 30, 31, 32, 33, 34, 35, 36], [0, 1, 2, 3, 4, 5, 6, 7, 8, 9, 10, 11, 12, 13, 14, 15, 16, 17, 18, 19, 20, 21, 22, 23, 24, 25, 26, 27, 28, 29, 30, 31, 32, 33, 34, 35, 36, 37], [0, 1, 2, 3, 4, 5, 6, 7, 8, 9, 10, 11, 12, 13, 14, 15, 16, 17, 18, 19, 20, 21, 22, 23, 24, 25, 26, 27, 28, 29, 30, 31, 32, 33, 34, 35, 36, 37, 38], [0, 1, 2, 3, 4, 5, 6, 7, 8, 9, 10, 11, 12, 13, 14, 15, 16, 17, 18, 19, 20, 21, 22, 23, 24, 25, 26, 27, 28, 29, 30, 31, 32, 33, 34, 35, 36, 37, 38], [0, 1, 2, 3, 4, 5, 6, 7, 8, 9, 10, 11, 12, 13, 14, 15, 16, 17, 18, 19, 20, 21, 22, 23, 24, 25, 26, 27, 28, 29, 30, 31, 32, 33, 34, 35, 36, 37, 38, 39, 40], [0, 1, 2, 3, 4, 5, 6, 7, 8, 9, 10, 11, 12, 13, 14, 15, 16, 17, 18, 19, 20, 21, 22, 23, 24, 25, 26, 27, 28, 29, 30, 31, 32, 33, 34, 35, 36, 37, 38, 39, 40, 41], [0, 1, 2, 3, 4, 5, 6, 7, 8, 9, 10, 11, 12, 13, 14, 15, 16, 17, 18, 19, 20, 21, 22, 23, 24, 25, 26, 27, 28, 29, 30, 31, 32, 33, 34, 35, 36, 37, 38, 39, 40, 41, 42], [0, 1, 2, 3, 4, 5, 6, 7, 8, 9, 10, 11, 12, 13, 14, 15, 16, 17, 18, 19, 20, 21, 22, 23, 24, 25, 26, 27, 28, 29, 30, 31, 32, 33, 34, 35, 36, 37, 38, 39, 40, 41, 42, 43], [0, 1, 2, 3, 4, 5, 6, 7, 8, 9, 10, 11, 12, 13, 14, 15, 16, 17, 18, 19, 20, 21, 22, 23, 24, 25, 26, 27, 28, 29, 30, 31, 32, 33, 34, 35, 36, 37, 38, 39, 40, 41, 42, 43, 44], [0, 1, 2, 3, 4, 5, 6, 7, 8, 9, 10, 11, 12, 13, 14, 15, 16, 17, 18, 19, 20, 21, 22, 23, 24, 25, 26, 27, 28, 29, 30, 31, 32, 33, 34, 35, 36, 37, 38, 39, 40, 41, 42, 43, 44, 45], [0, 1, 2, 3, 4, 5, 6, 7, 8, 9, 10, 11, 12, 13, 14, 15, 16, 17, 18, 19, 20, 21, 22, 23, 24, 25, 26, 27, 28, 29, 30, 31, 32, 33, 34, 35, 36, 37, 38, 39, 40, 41, 42, 43, 44, 45, 46], [0, 1, 2, 3, 4, 5, 6, 7, 8, 9, 10, 11, 12, 13, 14, 15, 16, 17, 18, 19, 20, 21, 22, 23, 24, 25, 26, 27, 28, 29, 30, 31, 32, 33, 34, 35, 36, 37, 38, 39, 40, 41, 42, 43, 44, 45, 46, 47]] mixed (by kernel_rfl) ?_
                  refine ⟨.det (fun val => v5), ⟨fun _ _ hv => rfl, fun _ _ _ _ _ => trivial⟩, fun val h_ W hx he => ⟨trivial, ?_⟩, ?_⟩
                  · replace hx := (Upd.drew _ _).trans hx
                    replace hl := hl.ext hx
                    replace hr := hr.ext hx
                    replace hP := hP.ext hx
                    replace hs := hs.ext hx
                    replace hk := hk.ext hx
                    replace hB15 := hB15.ext hx
                    have hE := Upd.refl (fun _ => False) W
                    refine id (X_move (v := v5) rfl ?_)
                    exact ⟨hE, rfl⟩
                  refine ⟨.det (fun val => (.int .i64 (((i : Nat) : Int)))), ⟨fun _ _ hv => rfl, fun _ _ _ _ _ => trivial⟩, fun val h_ W hx he => ⟨trivial, ?_⟩, ?_⟩
                  · replace hx := (Upd.drew _ _).trans hx
                    replace hl := hl.ext hx
                    replace hr := hr.ext hx
                    replace hP := hP.ext hx
                    replace hs := hs.ext hx
                    replace hk := hk.ext hx
                    replace hB15 := hB15.ext hx
                    have hE := Upd.refl (fun _ => False) W
                    refine id (X_move (v := (.int .i64 (((i : Nat) : Int)))) rfl ?_)
                    exact ⟨hE, rfl⟩
                  refine ⟨.det (fun val => (pof v5 ((((i : Nat) : Int) : Int).toNat * 6))), ⟨fun _ _ hv => rfl, fun _ _ _ _ _ => trivial⟩, fun val h_ W hx he => ⟨trivial, ?_⟩, ?_⟩
                  · replace hx := (Upd.drew _ _).trans hx
                    replace hl := hl.ext hx
                    replace hr := hr.ext hx
                    replace hP := hP.ext hx
                    replace hs := hs.ext hx
                    replace hk := hk.ext hx
                    replace hB15 := hB15.ext hx
                    have hE := Upd.refl (fun _ => False) W
                    refine id (X_idx (v := v5) (n := (fs ++ bs).length) (k := .i64) (i := ((i : Nat) : Int)) S22 rfl hP.sv rfl (by omega) (by omega) ?_)
                    exact ⟨hE, rfl⟩
                  refine ⟨.det (fun val => (pof v5 ((((i : Nat) : Int) : Int).toNat * 6 + 1))), ⟨fun _ _ hv => rfl, fun _ _ _ _ _ => trivial⟩, fun val h_ W hx he => ⟨trivial, ?_⟩, ?_⟩
                  · replace hx := (Upd.drew _ _).trans hx
                    replace hl := hl.ext hx
                    replace hr := hr.ext hx
                    replace hP := hP.ext hx
                    replace hs := hs.ext hx
                    replace hk := hk.ext hx
                    replace hB15 := hB15.ext hx
                    have hE := Upd.refl (fun _ => False) W
                    refine id (X_fldS (v := v5) (o := (((i : Nat) : Int) : Int).toNat * 6) Fd39_1 rfl hP.sv (by omega) ?_)
                    exact ⟨hE, rfl⟩
                  refine ⟨.det (fun val => (.agg (ptC y_.2.2).toArray)), ⟨fun _ _ hv => rfl, fun _ _ _ _ _ => trivial⟩, fun val h_ W hx he => ⟨trivial, ?_⟩, ?_⟩
                  · replace hx := (Upd.drew _ _).trans hx
                    replace hl := hl.ext hx
                    replace hr := hr.ext hx
                    replace hP := hP.ext hx
                    replace hs := hs.ext hx
                    replace hk := hk.ext hx
                    replace hB15 := hB15.ext hx
                    have hE := Upd.refl (fun _ => False) W
                    refine id (X_loadA (xs := ptC y_.2.2) A37 rfl (kptr hP (Int.toNat_natCast _) hy_) rfl ?_)
                    exact ⟨hE, rfl⟩
                  refine ⟨.det (fun val => (ptr b15 (1))), ⟨fun _ _ hv => rfl, fun _ _ _ _ _ => trivial⟩, fun val h_ W hx he => ⟨trivial, ?_⟩, ?_⟩
                  · replace hx := (Upd.drew _ _).trans hx
                    replace hl := hl.ext hx
                    replace hr := hr.ext hx
                    replace hP := hP.ext hx
                    replace hs := hs.ext hx
                    replace hk := hk.ext hx
                    replace hB15 := hB15.ext hx
                    have hE := Upd.refl (fun _ => False) W
                    refine id (X_fldP (b := b15) (o := 0) (r := 1) Fd39_1 rfl rfl ?_)
                    exact ⟨hE, rfl⟩
                  refine ⟨.det (fun val => (.agg (ptC e.2.2).toArray)), ⟨fun _ _ hv => rfl, fun _ _ _ _ _ => trivial⟩, fun val h_ W hx he => ⟨trivial, ?_⟩, ?_⟩
                  · replace hx := (Upd.drew _ _).trans hx
                    replace hl := hl.ext hx
                    replace hr := hr.ext hx
                    replace hP := hP.ext hx
                    replace hs := hs.ext hx
                    replace hk := hk.ext hx
                    replace hB15 := hB15.ext hx
                    have hE := Upd.refl (fun _ => False) W
                    refine id (X_loadA (xs := ptC e.2.2) A37 rfl (hB15.at_ 1 (ptC e.2.2) (fun j u hj => by rw [Nat.add_comm]; simpa using hj)) rfl ?_)
                    exact ⟨hE, rfl⟩
                  refine ⟨.det (fun val => (.bool (false))), ⟨fun _ _ hv => rfl, fun _ _ _ _ _ => trivial⟩, fun val h_ W hx he => ⟨trivial, ?_⟩, ?_⟩
                  · replace hx := (Upd.drew _ _).trans hx
                    replace hl := hl.ext hx
                    replace hr := hr.ext hx
                    replace hP := hP.ext hx
                    replace hs := hs.ext hx
                    replace hk := hk.ext hx
                    replace hB15 := hB15.ext hx
                    have hE := Upd.refl (fun _ => False) W
                    refine id (X_eqP (p := y_.2.2) (q := e.2.2) (r := false) Try.underlying37 u37 (by kernel_rfl) (by decide) ⟨rfl, rfl, rfl, rfl⟩ Try.underlying5 Try.underlying33 (by kernel_rfl) Try.underlying32 (ie := _) rfl (by kernel_rfl) Try.underlying34 Try.underlying35 (by kernel_rfl) rfl rfl (.inr ⟨rfl, by rw [hxp, beq_self_eq_true]; rfl⟩) ?_)
                    exact ⟨hE, rfl⟩
                  refine ⟨.det (fun val => (.bool (false))), ⟨fun _ _ hv => rfl, fun _ _ _ _ _ => trivial⟩, fun val h_ W hx he => ⟨trivial, ?_⟩, ?_⟩
                  · replace hx := (Upd.drew _ _).trans hx
                    replace hl := hl.ext hx
                    replace hr := hr.ext hx
                    replace hP := hP.ext hx
                    replace hs := hs.ext hx
                    replace hk := hk.ext hx
                    replace hB15 := hB15.ext hx
                    have hE := Upd.refl (fun _ => False) W
                    refine id (X_move (v := (.bool (false))) rfl ?_)
                    exact ⟨hE, rfl⟩
                  refine ⟨.det (fun val => (.int .i64 (((i : Nat) : Int)))), ⟨fun _ _ hv => rfl, fun _ _ _ _ _ => trivial⟩, fun val h_ W hx he => ⟨⟨101, rfl, rfl⟩, ?_⟩, ?_⟩
                  · replace hx := (Upd.drew _ _).trans hx
                    replace hl := hl.ext hx
                    replace hr := hr.ext hx
                    replace hP := hP.ext hx
                    replace hs := hs.ext hx
                    replace hk := hk.ext hx
                    replace hB15 := hB15.ext hx
                    have hE := Upd.refl (fun _ => False) W
                    refine id (X_move (v := (.int .i64 (((i : Nat) : Int)))) rfl ?_)
                    exact ⟨hE, rfl⟩
                  refine ⟨.det (fun val => a), ⟨fun _ _ hv => rfl, fun _ _ _ _ _ => trivial⟩, fun val h_ W hx he => ⟨⟨101, rfl, rfl⟩, ?_⟩, ?_⟩
                  · replace hx := (Upd.drew _ _).trans hx
                    replace hl := hl.ext hx
                    replace hr := hr.ext hx
                    replace hP := hP.ext hx
                    replace hs := hs.ext hx
                    replace hk := hk.ext hx
                    replace hB15 := hB15.ext hx
                    have hE := Upd.refl (fun _ => False) W
                    refine id (X_move (v := a) rfl ?_)
                    exact ⟨hE, rfl⟩
                  refine ⟨.det (fun val => (.int .i64 (((as_.length : Nat) : Int)))), ⟨fun _ _ hv => rfl, fun _ _ _ _ _ => trivial⟩, fun val h_ W hx he => ⟨⟨101, rfl, rfl⟩, ?_⟩, ?_⟩
                  · replace hx := (Upd.drew _ _).trans hx
                    replace hl := hl.ext hx
                    replace hr := hr.ext hx
                    replace hP := hP.ext hx
                    replace hs := hs.ext hx
                    replace hk := hk.ext hx
                    replace hB15 := hB15.ext hx
                    have hE := Upd.refl (fun _ => False) W
                    refine id (X_len (v := a) (n := as_.length) Try.underlying22 rfl hsv_a ?_)
                    exact ⟨hE, rfl⟩
                  refine ⟨.det (fun val => (.bool (true))), ⟨fun _ _ hv => rfl, fun _ _ _ _ _ => trivial⟩, fun val h_ W hx he => ⟨⟨101, rfl, rfl⟩, ?_⟩, ?_⟩
                  · replace hx := (Upd.drew _ _).trans hx
                    replace hl := hl.ext hx
                    replace hr := hr.ext hx
                    replace hP := hP.ext hx
                    replace hs := hs.ext hx
                    replace hk := hk.ext hx
                    replace hB15 := hB15.ext hx
                    have hE := Upd.refl (fun _ => False) W
                    refine id (X_cmp (k := .i64) (a := ((i : Nat) : Int)) (b := ((as_.length : Nat) : Int)) (r := true) rfl rfl rfl (decide_eq_true (p := (((i : Nat) : Int) ≠ ((as_.length : Nat) : Int))) (by omega)) ?_)
                    exact ⟨hE, rfl⟩
                  refine ⟨.det (fun val => (.bool (true))), ⟨fun _ _ hv => rfl, fun _ _ _ _ _ => trivial⟩, fun val h_ W hx he => ⟨⟨101, rfl, rfl⟩, ?_⟩, ?_⟩
                  · replace hx := (Upd.drew _ _).trans hx
                    replace hl := hl.ext hx
                    replace hr := hr.ext hx
                    replace hP := hP.ext hx
                    replace hs := hs.ext hx
                    replace hk := hk.ext hx
                    replace hB15 := hB15.ext hx
                    have hE := Upd.refl (fun _ => False) W
                    refine id (X_move (v := (.bool (true))) rfl ?_)
                    exact ⟨hE, rfl⟩
                  refine ⟨.det (fun val => v5), ⟨fun _ _ hv => rfl, fun _ _ _ _ _ => trivial⟩, fun val h_ W hx he => ⟨⟨106, rfl, rfl⟩, ?_⟩, ?_⟩
                  · replace hx := (Upd.drew _ _).trans hx
                    replace hl := hl.ext hx
                    replace hr := hr.ext hx
                    replace hP := hP.ext hx
                    replace hs := hs.ext hx
                    replace hk := hk.ext hx
                    replace hB15 := hB15.ext hx
                    have hE := Upd.refl (fun _ => False) W
                    refine id (X_move (v := v5) rfl ?_)
                    exact ⟨hE, rfl⟩
                  refine ⟨.det (fun val => (.int .i64 (((i : Nat) : Int)))), ⟨fun _ _ hv => rfl, fun _ _ _ _ _ => trivial⟩, fun val h_ W hx he => ⟨⟨106, rfl, rfl⟩, ?_⟩, ?_⟩
                  · replace hx := (Upd.drew _ _).trans hx
                    replace hl := hl.ext hx
                    replace hr := hr.ext hx
                    replace hP := hP.ext hx
                    replace hs := hs.ext hx
                    replace hk := hk.ext hx
                    replace hB15 := hB15.ext hx
                    have hE := Upd.refl (fun _ => False) W
                    refine id (X_move (v := (.int .i64 (((i : Nat) : Int)))) rfl ?_)
                    exact ⟨hE, rfl⟩
                  refine ⟨.det (fun val => (pof v5 ((((i : Nat) : Int) : Int).toNat * 6))), ⟨fun _ _ hv => rfl, fun _ _ _ _ _ => trivial⟩, fun val h_ W hx he => ⟨⟨106, rfl, rfl⟩, ?_⟩, ?_⟩
                  · replace hx := (Upd.drew _ _).trans hx
                    replace hl := hl.ext hx
                    replace hr := hr.ext hx
                    replace hP := hP.ext hx
                    replace hs := hs.ext hx
                    replace hk := hk.ext hx
                    replace hB15 := hB15.ext hx
                    have hE := Upd.refl (fun _ => False) W
                    refine id (X_idx (v := v5) (n := (fs ++ bs).length) (k := .i64) (i := ((i : Nat) : Int)) S22 rfl hP.sv rfl (by omega) (by omega) ?_)
                    exact ⟨hE, rfl⟩
                  refine ⟨.det (fun val => (pof v5 ((((i : Nat) : Int) : Int).toNat * 6 + 0))), ⟨fun _ _ hv => rfl, fun _ _ _ _ _ => trivial⟩, fun val h_ W hx he => ⟨⟨106, rfl, rfl⟩, ?_⟩, ?_⟩
                  · replace hx := (Upd.drew _ _).trans hx
                    replace hl := hl.ext hx
                    replace hr := hr.ext hx
                    replace hP := hP.ext hx
                    replace hs := hs.ext hx
                    replace hk := hk.ext hx
                    replace hB15 := hB15.ext hx
                    have hE := Upd.refl (fun _ => False) W
                    refine id (X_fldS (v := v5) (o := (((i : Nat) : Int) : Int).toNat * 6) Fd39_0 rfl hP.sv (by omega) ?_)
                    exact ⟨hE, rfl⟩
                  refine ⟨.det (fun val => y_.1), ⟨fun _ _ hv => rfl, fun _ _ _ _ _ => trivial⟩, fun val h_ W hx he => ⟨⟨106, rfl, rfl⟩, ?_⟩, ?_⟩
                  · replace hx := (Upd.drew _ _).trans hx
                    replace hl := hl.ext hx
                    replace hr := hr.ext hx
                    replace hP := hP.ext hx
                    replace hs := hs.ext hx
                    replace hk := hk.ext hx
                    replace hB15 := hB15.ext hx
                    have hE := Upd.refl (fun _ => False) W
                    refine id (X_load (v := y_.1) T23 rfl (kkey hP (Int.toNat_natCast _) hy_) ?_)
                    exact ⟨hE, rfl⟩
                  refine ⟨.det (fun val => (strV (y_.2.1))), ⟨fun _ _ hv => rfl, fun _ _ _ _ _ => trivial⟩, fun val h_ W hx he => ⟨⟨106, rfl, rfl⟩, ?_⟩, ?_⟩
                  · replace hx := (Upd.drew _ _).trans hx
                    replace hl := hl.ext hx
                    replace hr := hr.ext hx
                    replace hP := hP.ext hx
                    replace hs := hs.ext hx
                    replace hk := hk.ext hx
                    replace hB15 := hB15.ext hx
                    have hE := Upd.refl (fun _ => False) W
                    refine id (X_str (v := y_.1) (l := y_.2.1) Try.underlying23 Try.underlying5 Try.underlying9 rfl (krd hP hy_) ?_)
                    exact ⟨hE, rfl⟩
                  refine ⟨.det (fun val => (ptr b15 (0))), ⟨fun _ _ hv => rfl, fun _ _ _ _ _ => trivial⟩, fun val h_ W hx he => ⟨⟨106, rfl, rfl⟩, ?_⟩, ?_⟩
                  · replace hx := (Upd.drew _ _).trans hx
                    replace hl := hl.ext hx
                    replace hr := hr.ext hx
                    replace hP := hP.ext hx
                    replace hs := hs.ext hx
                    replace hk := hk.ext hx
                    replace hB15 := hB15.ext hx
                    have hE := Upd.refl (fun _ => False) W
                    refine id (X_fldP (b := b15) (o := 0) (r := 0) Fd39_0 rfl rfl ?_)
                    exact ⟨hE, rfl⟩
                  refine ⟨.det (fun val => e.1), ⟨fun _ _ hv => rfl, fun _ _ _ _ _ => trivial⟩, fun val h_ W hx he => ⟨⟨106, rfl, rfl⟩, ?_⟩, ?_⟩
                  · replace hx := (Upd.drew _ _).trans hx
                    replace hl := hl.ext hx
                    replace hr := hr.ext hx
                    replace hP := hP.ext hx
                    replace hs := hs.ext hx
                    replace hk := hk.ext hx
                    replace hB15 := hB15.ext hx
                    have hE := Upd.refl (fun _ => False) W
                    refine id (X_load (p := (ptr b15 (0))) (v := e.1) T23 rfl (hB15.at1 rfl) ?_)
                    exact ⟨hE, rfl⟩
                  refine ⟨.det (fun val => (strV (e.2.1))), ⟨fun _ _ hv => rfl, fun _ _ _ _ _ => trivial⟩, fun val h_ W hx he => ⟨⟨106, rfl, rfl⟩, ?_⟩, ?_⟩
                  · replace hx := (Upd.drew _ _).trans hx
                    replace hl := hl.ext hx
                    replace hr := hr.ext hx
                    replace hP := hP.ext hx
                    replace hs := hs.ext hx
                    replace hk := hk.ext hx
                    replace hB15 := hB15.ext hx
                    have hE := Upd.refl (fun _ => False) W
                    refine id (X_str (v := e.1) (l := e.2.1) Try.underlying23 Try.underlying5 Try.underlying9 rfl (krd hl hee) ?_)
                    exact ⟨hE, rfl⟩
                  refine ⟨.det (fun val => (.bool (false))), ⟨fun _ _ hv => rfl, fun _ _ _ _ _ => trivial⟩, fun val h_ W hx he => ⟨⟨106, rfl, rfl⟩, ?_⟩, ?_⟩
                  · replace hx := (Upd.drew _ _).trans hx
                    replace hl := hl.ext hx
                    replace hr := hr.ext hx
                    replace hP := hP.ext hx
                    replace hs := hs.ext hx
                    replace hk := hk.ext hx
                    replace hB15 := hB15.ext hx
                    have hE := Upd.refl (fun _ => False) W
                    refine id (X_scmp (a := y_.2.1) (b := e.2.1) (r := false) rfl rfl rfl (by show (!(y_.2.1 == e.2.1)) = false; rw [hxk, beq_self_eq_true]; rfl) ?_)
                    exact ⟨hE, rfl⟩
                  refine ⟨.det (fun val => (.bool (false))), ⟨fun _ _ hv => rfl, fun _ _ _ _ _ => trivial⟩, fun val h_ W hx he => ⟨⟨101, rfl, rfl⟩, ?_⟩, ?_⟩
                  · replace hx := (Upd.drew _ _).trans hx
                    replace hl := hl.ext hx
                    replace hr := hr.ext hx
                    replace hP := hP.ext hx
                    replace hs := hs.ext hx
                    replace hk := hk.ext hx
                    replace hB15 := hB15.ext hx
                    have hE := Upd.refl (fun _ => False) W
                    refine id (X_pick (t := true) (v := (.bool (false))) rfl rfl ?_)
                    exact ⟨hE, rfl⟩
                  refine ⟨.det (fun val => (.bool (false))), ⟨fun _ _ hv => rfl, fun _ _ _ _ _ => trivial⟩, fun val h_ W hx he => ⟨trivial, ?_⟩, ?_⟩
                  · replace hx := (Upd.drew _ _).trans hx
                    replace hl := hl.ext hx
                    replace hr := hr.ext hx
                    replace hP := hP.ext hx
                    replace hs := hs.ext hx
                    replace hk := hk.ext hx
                    replace hB15 := hB15.ext hx
                    have hE := Upd.refl (fun _ => False) W
                    refine id (X_pick (t := false) (v := (.bool (false))) rfl rfl ?_)
                    exact ⟨hE, rfl⟩
                  refine ⟨.det (fun val => (.bool (false))), ⟨fun _ _ hv => rfl, fun _ _ _ _ _ => trivial⟩, fun val h_ W hx he => ⟨trivial, ?_⟩, ?_⟩
                  · replace hx := (Upd.drew _ _).trans hx
                    replace hl := hl.ext hx
                    replace hr := hr.ext hx
                    replace hP := hP.ext hx
                    replace hs := hs.ext hx
                    replace hk := hk.ext hx
                    replace hB15 := hB15.ext hx
                    have hE := Upd.refl (fun _ => False) W
                    refine id (X_move (v := (.bool (false))) rfl ?_)
                    exact ⟨hE, rfl⟩
                  refine ⟨.det (fun val => (.int .i64 (((i : Nat) : Int)))), ⟨fun _ _ hv => rfl, fun _ _ _ _ _ => trivial⟩, fun val h_ W hx he => ⟨⟨119, rfl, rfl⟩, ?_⟩, ?_⟩
                  · replace hx := (Upd.drew _ _).trans hx
                    replace hl := hl.ext hx
                    replace hr := hr.ext hx
                    replace hP := hP.ext hx
                    replace hs := hs.ext hx
                    replace hk := hk.ext hx
                    replace hB15 := hB15.ext hx
                    have hE := Upd.refl (fun _ => False) W
                    refine id (X_move (v := (.int .i64 (((i : Nat) : Int)))) rfl ?_)
                    exact ⟨hE, rfl⟩
                  refine ⟨.det (fun val => a), ⟨fun _ _ hv => rfl, fun _ _ _ _ _ => trivial⟩, fun val h_ W hx he => ⟨⟨119, rfl, rfl⟩, ?_⟩, ?_⟩
                  · replace hx := (Upd.drew _ _).trans hx
                    replace hl := hl.ext hx
                    replace hr := hr.ext hx
                    replace hP := hP.ext hx
                    replace hs := hs.ext hx
                    replace hk := hk.ext hx
                    replace hB15 := hB15.ext hx
                    have hE := Upd.refl (fun _ => False) W
                    refine id (X_move (v := a) rfl ?_)
                    exact ⟨hE, rfl⟩
                  refine ⟨.det (fun val => (.int .i64 (((as_.length : Nat) : Int)))), ⟨fun _ _ hv => rfl, fun _ _ _ _ _ => trivial⟩, fun val h_ W hx he => ⟨⟨119, rfl, rfl⟩, ?_⟩, ?_⟩
                  · replace hx := (Upd.drew _ _).trans hx
                    replace hl := hl.ext hx
                    replace hr := hr.ext hx
                    replace hP := hP.ext hx
                    replace hs := hs.ext hx
                    replace hk := hk.ext hx
                    replace hB15 := hB15.ext hx
                    have hE := Upd.refl (fun _ => False) W
                    refine id (X_len (v := a) (n := as_.length) Try.underlying22 rfl hsv_a ?_)
                    exact ⟨hE, rfl⟩
                  refine ⟨.det (fun val => (.bool (false))), ⟨fun _ _ hv => rfl, fun _ _ _ _ _ => trivial⟩, fun val h_ W hx he => ⟨⟨119, rfl, rfl⟩, ?_⟩, ?_⟩
                  · replace hx := (Upd.drew _ _).trans hx
                    replace hl := hl.ext hx
                    replace hr := hr.ext hx
                    replace hP := hP.ext hx
                    replace hs := hs.ext hx
                    replace hk := hk.ext hx
                    replace hB15 := hB15.ext hx
                    have hE := Upd.refl (fun _ => False) W
                    refine id (X_cmp (k := .i64) (a := ((i : Nat) : Int)) (b := ((as_.length : Nat) : Int)) (r := false) rfl rfl rfl (decide_eq_false (p := (((i : Nat) : Int) = ((as_.length : Nat) : Int))) (by omega)) ?_)
                    exact ⟨hE, rfl⟩
                  refine ⟨.det (fun val => (.bool (false))), ⟨fun _ _ hv => rfl, fun _ _ _ _ _ => trivial⟩, fun val h_ W hx he => ⟨⟨119, rfl, rfl⟩, ?_⟩, ?_⟩
                  · replace hx := (Upd.drew _ _).trans hx
                    replace hl := hl.ext hx
                    replace hr := hr.ext hx
                    replace hP := hP.ext hx
                    replace hs := hs.ext hx
                    replace hk := hk.ext hx
                    replace hB15 := hB15.ext hx
                    have hE := Upd.refl (fun _ => False) W
                    refine id (X_move (v := (.bool (false))) rfl ?_)
                    exact ⟨hE, rfl⟩
                  refine ⟨.no, ⟨fun _ _ _ => trivial, fun _ _ _ _ _ => trivial⟩, fun val h_ W hx he => ⟨124, rfl, .inl rfl⟩, ?_⟩
                  refine ⟨.no, ⟨fun _ _ _ => trivial, fun _ _ _ _ _ => trivial⟩, fun val h_ W hx he => ⟨124, rfl, .inl rfl⟩, ?_⟩
                  refine ⟨.no, ⟨fun _ _ _ => trivial, fun _ _ _ _ _ => trivial⟩, fun val h_ W hx he => ⟨124, rfl, .inl rfl⟩, ?_⟩
                  refine ⟨.no, ⟨fun _ _ _ => trivial, fun _ _ _ _ _ => trivial⟩, fun val h_ W hx he => ⟨124, rfl, .inl rfl⟩, ?_⟩
                  refine ⟨.no, ⟨fun _ _ _ => trivial, fun _ _ _ _ _ => trivial⟩, fun val h_ W hx he => ⟨124, rfl, .inl rfl⟩, ?_⟩
                  refine ⟨.no, ⟨fun _ _ _ => trivial, fun _ _ _ _ _ => trivial⟩, fun val h_ W hx he => ⟨124, rfl, .inl rfl⟩, ?_⟩
                  refine ⟨.no, ⟨fun _ _ _ => trivial, fun _ _ _ _ _ => trivial⟩, fun val h_ W hx he => ⟨124, rfl, .inl rfl⟩, ?_⟩
                  refine ⟨.no, ⟨fun _ _ _ => trivial, fun _ _ _ _ _ => trivial⟩, fun val h_ W hx he => ⟨131, rfl, .inr rfl⟩, ?_⟩
                  refine ⟨.no, ⟨fun _ _ _ => trivial, fun _ _ _ _ _ => trivial⟩, fun val h_ W hx he => ⟨131, rfl, .inr rfl⟩, ?_⟩
                  intro val W23 hx23 he23
                  replace hx23 := (Upd.drew _ _).trans hx23
                  have hz23 := hx23.size
                  replace hl := hl.ext hx23
                  replace hr := hr.ext hx23
                  replace hP := hP.ext hx23
                  replace hs := hs.ext hx23
                  replace hk := hk.ext hx23
                  replace hU := hU.trans (Ext.upd hx23)
                  replace hB15 := hB15.ext hx23
                  refine L_gu (dj := 131) rfl rfl rfl ?_
                  refine L_gu (dj := 131) rfl rfl rfl ?_
                  refine L_gu (dj := 131) rfl rfl rfl ?_
                  refine L_gu (dj := 131) rfl rfl rfl ?_
                  refine L_gu (dj := 131) rfl rfl rfl ?_
                  refine L_gn (dj := 124) (t := false) rfl rfl rfl rfl ?_
                  refine L_gy (dj := 119) rfl rfl rfl (X_pick (t := false) (v := (.bool (false))) rfl rfl ?_)
                  refine L_op rfl (X_pick (t := false) (v := (.bool (false))) rfl rfl ?_)
                  refine L_nil ?_
                  refine T_n ?_
                  refine W_cf rfl ?_
                  refine W_skip ?_
                  refine B_n ?_
                  refine T_n ?_
                  refine W_reg ?_
                  refine L_op rfl (X_move (v := (.int .i64 (((i : Nat) : Int)))) rfl ?_)
                  refine L_op rfl (X_arith (k := .i64) (a := ((i : Nat) : Int)) (b := 1) (r := ((i + 1 : Nat) : Int)) rfl rfl rfl (iadd64 (by omega) (by omega) (by omega)) ?_)
                  refine L_op rfl (X_assign (v := (.int .i64 (((i + 1 : Nat) : Int)))) rfl ?_)
                  refine L_nil ?_
                  refine T_n ?_
                  exact ⟨rfl, i + 1, ⟨⟨hi, hl, hr, hP, hs, hk, hU, by omega⟩, (by show es.length + rs.length - (i + 1) < es.length + rs.length - i; omega)⟩, (Out.mk rfl), ⟨rfl, trivial⟩⟩
              · refine L_op rfl (X_cmp (k := .i64) (a := ((i : Nat) : Int)) (b := ((es.length : Nat) : Int)) (r := false) rfl rfl rfl (decide_eq_false (p := ((((i : Nat) : Int)) : Int) < ((((es.length : Nat) : Int)) : Int)) (by omega)) ?_)
                refine L_nil ?_
                refine T_n ?_
                refine W_cf rfl ?_
                refine W_reg ?_
                refine L_op rfl (X_move (v := r) rfl ?_)
                refine L_op rfl (X_move (v := (.int .i64 (((i : Nat) : Int)))) rfl ?_)
                refine L_op rfl (X_move (v := l) rfl ?_)
                refine L_op rfl (X_len (v := l) (n := es.length) Try.underlying22 rfl hl.sv ?_)
                refine L_op rfl (X_arith (k := .i64) (a := ((i : Nat) : Int)) (b := ((es.length : Nat) : Int)) (r := ((i - es.length : Nat) : Int)) rfl rfl rfl (isub64 (by omega) (by omega) (by omega)) ?_)
                refine L_op rfl (X_idx (v := r) (n := rs.length) (k := .i64) (i := ((i - es.length : Nat) : Int)) S22 rfl hr.sv rfl (by omega) (by omega) ?_)
                obtain ⟨e, hee⟩ : ∃ e, rs[i - es.length]? = some e := ⟨_, List.getElem?_eq_getElem (by omega)⟩
                have hde : d = if i = es.length then (m, e.2.2) else e.2 := by have h := join_r (m := m) (show es.length ≤ i by omega) hee; rw [← hJ, hd] at h; exact Option.some.inj h
                refine L_op rfl (X_loadA (xs := e.1 :: ptC e.2.2) A39 rfl (kall hr (Int.toNat_natCast _) hee) rfl ?_)
                refine L_op0 (X_storeW (b := b15) (ys := (e.1 :: ptC e.2.2)) A39 rfl rfl (kone hr hee) rfl hB15 rfl ?_)
                intro w26 hu26 hb26
                have hz26 := hu26.size
                replace hl := hl.upd hu26 fun i h1 h2 h => by have h : i = b15 := h; omega
                replace hr := hr.upd hu26 fun i h1 h2 h => by have h : i = b15 := h; omega
                replace hP := hP.upd hu26 fun i h1 h2 h => by have h : i = b15 := h; omega
                replace hs := hs.upd hu26 fun i h1 h2 h => by have h : i = b15 := h; omega
                replace hk := hk.upd hu26 fun i hi h => by have hi := hk_b _ hi; have h : i = b15 := h; omega
                replace hU := hU.trans (hu26.mono fun i _ h => by have h : i = b15 := h; show n0 ≤ i; omega)
                replace hB15 := hb26
                refine L_nil ?_
                refine T_n ?_
                refine W_seq ?_
                refine W_seq ?_
                refine W_reg ?_
                refine L_op rfl (X_move (v := (.int .i64 (((i : Nat) : Int)))) rfl ?_)
                refine L_op rfl (X_move (v := l) rfl ?_)
                refine L_op rfl (X_len (v := l) (n := es.length) Try.underlying22 rfl hl.sv ?_)
                by_cases hc27 : (((i : Nat) : Int) : Int) = (((es.length : Nat) : Int))
                · refine L_op rfl (X_cmp (k := .i64) (a := ((i : Nat) : Int)) (b := ((es.length : Nat) : Int)) (r := true) rfl rfl rfl (decide_eq_true (p := ((((i : Nat) : Int)) : Int) = ((((es.length : Nat) : Int)) : Int)) (by omega)) ?_)
                  refine L_nil ?_
                  refine T_n ?_
                  refine W_ct rfl ?_
                  refine W_reg ?_
                  refine L_op rfl (X_move (v := key) rfl ?_)
                  refine L_op rfl (X_fldP (b := b15) (o := 0) (r := 0) Fd39_0 rfl rfl ?_)
                  refine L_op0 (X_store (b := b15) (o := 0) (v := key) T23 rfl rfl hk.sv.one hB15 (by show (0 : Nat) < 6; decide) ?_)
                  intro w28 hu28 hb28
                  have hz28 := hu28.size
                  replace hl := hl.upd hu28 fun i h1 h2 h => by have h : i = b15 := h; omega
                  replace hr := hr.upd hu28 fun i h1 h2 h => by have h : i = b15 := h; omega
                  replace hP := hP.upd hu28 fun i h1 h2 h => by have h : i = b15 := h; omega
                  replace hs := hs.upd hu28 fun i h1 h2 h => by have h : i = b15 := h; omega
                  replace hk := hk.upd hu28 fun i hi h => by have hi := hk_b _ hi; have h : i = b15 := h; omega
                  replace hU := hU.trans (hu28.mono fun i _ h => by have h : i = b15 := h; show n0 ≤ i; omega)
                  replace hB15 : Blk w28 b15 (key :: ptC e.2.2).toArray 39 := hb28
                  refine L_nil ?_
                  refine T_n ?_
                  refine W_seq ?_
                  rcases Bool.eq_false_or_eq_true (decide (i = as_.length)) with hs29 | hs29
                  · have hdw : d = (m, e.2.2) := by rw [hde, if_pos (by omega)]
                    have hia := of_decide_eq_true hs29
                    rw [if_pos (by omega), hdw] at hxd
                    have hxp : y_.2.2 = e.2.2 := by rw [hxd]
                    have hx0 : y_.2.1.length = 0 := by rw [hxd]; rfl
                    have hsw : sl = m := by rw [hsl, ← show i = (es.length + rs.length + 1) / 2 by omega, headK_at hd, hdw]
                    refine W_draw 41 [[], [], [0, 1], [0, 1, 2], [0, 1, 2, 3], [], [5], [0, 1, 2, 3, 4, 5, 6], [0, 1, 2, 3, 4, 5, 6, 7], [0, 1, 2, 3, 4, 5, 6, 7, 8], [0, 1, 2, 3, 4, 5, 6, 7, 8], [0, 1, 2, 3, 4, 5, 6, 7, 8, 10], [0, 1, 2, 3, 4, 5, 6, 7, 8, 9, 10, 11], [0, 1, 2, 3, 4, 5, 6, 7, 8, 9, 10, 11, 12], [0, 1, 2, 3, 4, 5, 6, 7, 8, 9, 10, 11, 12, 13], [0, 1, 2, 3, 4, 5, 6, 7, 8, 9, 10, 11, 12, 13], [0, 1, 2, 3, 4, 5, 6, 7, 8, 9, 10, 11, 12, 13, 14, 15], [0, 1, 2, 3, 4, 5, 6, 7, 8, 9, 10, 11, 12, 13, 14, 15, 16], [0, 1, 2, 3, 4, 5, 6, 7, 8, 9, 10, 11, 12, 13, 14, 15, 16, 17], [0, 1, 2, 3, 4, 5, 6, 7, 8, 9, 10, 11, 12, 13, 14, 15, 16, 17, 18], [0, 1, 2, 3, 4, 5, 6, 7, 8, 9, 10, 11, 12, 13], [0, 1, 2, 3, 4, 5, 6, 7, 8, 9, 10, 11, 12, 13, 20], [0, 1, 2, 3, 4, 5, 6, 7, 8, 9, 10, 11, 12, 13, 20, 21], [0, 1, 2, 3, 4, 5, 6, 7, 8, 9, 10, 11, 12, 13, 14, 15, 16, 17, 18, 19, 20, 21, 22], [0, 1, 2, 3, 4, 5, 6, 7, 8, 9, 10, 11, 12, 13, 14, 15, 16, 17, 18, 19, 20, 21, 22, 23], [0, 1, 2, 3, 4, 5, 6, 7, 8, 9, 10, 11, 12, 13, 14, 15, 16, 17, 18, 19, 20, 21, 22, 23, 24], [0, 1, 2, 3, 4, 5, 6, 7, 8, 9, 10, 11, 12, 13, 14, 15, 16, 17, 18, 19, 20, 21, 22, 23, 24, 25], [0, 1, 2, 3, 4, 5, 6, 7, 8, 9, 10, 11, 12, 13, 14, 15, 16, 17, 18, 19, 20, 21, 22, 23, 24, 25, 26], [0, 1, 2, 3, 4, 5, 6, 7, 8, 9, 10, 11, 12, 13, 14, 15, 16, 17, 18, 19, 20, 21, 22, 23, 24, 25, 26], [0, 1, 2, 3, 4, 5, 6, 7, 8, 9, 10, 11, 12, 13, 14, 15, 16, 17, 18, 19, 20, 21, 22, 23, 24, 25, 26, 28], [0, 1, 2, 3, 4, 5, 6, 7, 8, 9, 10, 11, 12, 13, 14, 15, 16, 17, 18, 19, 20, 21, 22, 23, 24, 25, 26, 27, 28, 29], [0, 1, 2, 3, 4, 5, 6, 7, 8, 9, 10, 11, 12, 13, 14, 15, 16, 17, 18, 19, 20, 21, 22, 23, 24, 25, 26, 27, 28, 29, 30], [0, 1, 2, 3, 4, 5, 6, 7, 8, 9, 10, 11, 12, 13, 14, 15, 16, 17, 18, 19, 20, 21, 22, 23, 24, 25, 26, 27, 28, 29, 30, 31], [0, 1, 2, 3, 4, 5, 6, 7, 8, 9, 10, 11, 12, 13, 14, 15, 16, 17, 18, 19, 20, 21, 22, 23, 24, 25, 26, 27, 28, 29, 30, 31, 32], [0, 1, 2, 3, 4, 5, 6, 7, 8, 9, 10, 11, 12, 13, 14, 15, 16, 17, 18, 19, 20, 21, 22, 23, 24, 25, 26, 27, 28, 29, 30, 31], [0, 1, 2, 3, 4, 5, 6, 7, 8, 9, 10, 11, 12, 13, 14, 15, 16, 17, 18, 19, 20, 21, 22, 23, 24, 25, 26, 27, 28, 29, 30, 31, 34], [0, 1, 2, 3, 4, 5, 6, 7, 8, 9, 10, 11, 12, 13, 14, 15, 16, 17, 18, 19, 20, 21, 22, 23, 24, 25, 26, 27, 28, 29, 30, 31, 34, 35], [0, 1, 2, 3, 4, 5, 6, 7, 8, 9, 10, 11, 12, 13, 14, 15, 16, 17, 18, 19, 20, 21, 22, 23, 24, 25, 26, 27, 28, 29, 30, 31, 32, 33, 34, 35, 36], [0, 1, 2, 3, 4, 5, 6, 7, 8, 9, 10, 11, 12, 13, 14, 15, 16, 17, 18, 19, 20, 21, 22, 23, 24, 25, 26, 27, 28, 29, 30, 31, 32, 33, 34, 35, 36, 37], [0, 1, 2, 3, 4, 5, 6, 7, 8, 9, 10, 11, 12, 13, 14, 15, 16, 17, 18, 19, 20, 21, 22, 23, 24, 25, 26, 27, 28, 29, 30, 31, 32, 33, 34, 35, 36, 37, 38], [0, 1, 2, 3, 4, 5, 6, 7, 8, 9, 10, 11, 12, 13, 14, 15, 16, 17, 18, 19, 20, 21, 22, 23, 24, 25, 26, 27, 28, 29, 30, 31, 32, 33, 34, 35, 36, 37, 38], [0, 1, 2, 3, 4, 5, 6, 7, 8, 9, 10, 11, 12, 13, 14, 15, 16, 17, 18, 19, 20, 21, 22, 23, 24, 25, 26, 27, 28, 29, 30, 31, 32, 33, 34, 35, 36, 37, 38, 39, 40], [0, 1, 2, 3, 4, 5, 6, 7, 8, 9, 10, 11, 12, 13, 14, 15, 16, 17, 18, 19, 20, 21, 22, 23, 24, 25, 26, 27, 28, 29, 30, 31, 32, 33, 34, 35, 36, 37, 38, 39, 40, 41], [0, 1, 2, 3, 4, 5, 6, 7, 8, 9, 10, 11, 12, 13, 14, 15, 16, 17, 18, 19, 20, 21, 22, 23, 24, 25, 26, 27, 28, 29, 30, 31, 32, 33, 34, 35, 36, 37, 38, 39, 40, 41, 42], [0, 1, 2, 3, 4, 5, 6, 7, 8, 9, 10, 11, 12, 13, 14, 15, 16, 17, 18, 19, 20, 21, 22, 23, 24, 25, 26, 27, 28, 29, 30, 31, 32, 33, 34, 35, 36, 37, 38, 39, 40, 41, 42, 43], [0, 1, 2, 3, 4, 5, 6, 7, 8, 9, 10, 11, 12, 13, 14, 15, 16, 17, 18, 19, 20, 21, 22, 23, 24, 25, 26, 27, 28, 29, 30, 31, 32, 33, 34, 35, 36, 37, 38, 39, 40, 41, 42, 43, 44], [0, 1, 2, 3, 4, 5, 6, 7, 8, 9, 10, 11, 12, 13, 14, 15, 16, 17, 18, 19, 20, 21, 22, 23, 24, 25, 26, 27, 28, 29, 30, 31, 32, 33, 34, 35, 36, 37, 38, 39, 40, 41, 42, 43, 44, 45], [0, 1, 2, 3, 4, 5, 6, 7, 8, 9, 10, 11, 12, 13, 14, 15, 16, 17, 18, 19, 20, 21, 22, 23, 24, 25, 26, 27, 28, 29, 30, 31, 32, 33, 34, 35, 36, 37, 38, 39, 40, 41, 42, 43, 44, 45, 46], [0, 1, 2, 3, 4, 5, 6, 7, 8, 9, 10, 11, 12, 13, 14, 15, 16, 17, 18, 19, 20, 21, 22, 23, 24, 25, 26, 27, 28, 29, 30, 31, 32, 33, 34, 35, 36, 37, 38, 39, 40, 41, 42, 43, 44, 45, 46, 47]] mixed (by kernel_rfl) ?_
                    refine ⟨.det (fun val => v5), ⟨fun _ _ hv => rfl, fun _ _ _ _ _ => trivial⟩, fun val h_ W hx he => ⟨trivial, ?_⟩, ?_⟩
                    · replace hx := (Upd.drew _ _).trans hx
                      replace hl := hl.ext hx
                      replace hr := hr.ext hx
                      replace hP := hP.ext hx
                      replace hs := hs.ext hx
                      replace hk := hk.ext hx
                      replace hB15 := hB15.ext hx
                      have hE := Upd.refl (fun _ => False) W
                      refine id (X_move (v := v5) rfl ?_)
                      exact ⟨hE, rfl⟩
                    refine ⟨.det (fun val => (.int .i64 (((i : Nat) : Int)))), ⟨fun _ _ hv => rfl, fun _ _ _ _ _ => trivial⟩, fun val h_ W hx he => ⟨trivial, ?_⟩, ?_⟩
                    · replace hx := (Upd.drew _ _).trans hx
                      replace hl := hl.ext hx
                      replace hr := hr.ext hx
                      replace hP := hP.ext hx
                      replace hs := hs.ext hx
                      replace hk := hk.ext hx
                      replace hB15 := hB15.ext hx
                      have hE := Upd.refl (fun _ => False) W
                      refine id (X_move (v := (.int .i64 (((i : Nat) : Int)))) rfl ?_)
                      exact ⟨hE, rfl⟩
                    refine ⟨.det (fun val => (pof v5 ((((i : Nat) : Int) : Int).toNat * 6))), ⟨fun _ _ hv => rfl, fun _ _ _ _ _ => trivial⟩, fun val h_ W hx he => ⟨trivial, ?_⟩, ?_⟩
                    · replace hx := (Upd.drew _ _).trans hx
                      replace hl := hl.ext hx
                      replace hr := hr.ext hx
                      replace hP := hP.ext hx
                      replace hs := hs.ext hx
                      replace hk := hk.ext hx
                      replace hB15 := hB15.ext hx
                      have hE := Upd.refl (fun _ => False) W
                      refine id (X_idx (v := v5) (n := (fs ++ bs).length) (k := .i64) (i := ((i : Nat) : Int)) S22 rfl hP.sv rfl (by omega) (by omega) ?_)
                      exact ⟨hE, rfl⟩
                    refine ⟨.det (fun val => (pof v5 ((((i : Nat) : Int) : Int).toNat * 6 + 1))), ⟨fun _ _ hv => rfl, fun _ _ _ _ _ => trivial⟩, fun val h_ W hx he => ⟨trivial, ?_⟩, ?_⟩
                    · replace hx := (Upd.drew _ _).trans hx
                      replace hl := hl.ext hx
                      replace hr := hr.ext hx
                      replace hP := hP.ext hx
                      replace hs := hs.ext hx
                      replace hk := hk.ext hx
                      replace hB15 := hB15.ext hx
                      have hE := Upd.refl (fun _ => False) W
                      refine id (X_fldS (v := v5) (o := (((i : Nat) : Int) : Int).toNat * 6) Fd39_1 rfl hP.sv (by omega) ?_)
                      exact ⟨hE, rfl⟩
                    refine ⟨.det (fun val => (.agg (ptC y_.2.2).toArray)), ⟨fun _ _ hv => rfl, fun _ _ _ _ _ => trivial⟩, fun val h_ W hx he => ⟨trivial, ?_⟩, ?_⟩
                    · replace hx := (Upd.drew _ _).trans hx
                      replace hl := hl.ext hx
                      replace hr := hr.ext hx
                      replace hP := hP.ext hx
                      replace hs := hs.ext hx
                      replace hk := hk.ext hx
                      replace hB15 := hB15.ext hx
                      have hE := Upd.refl (fun _ => False) W
                      refine id (X_loadA (xs := ptC y_.2.2) A37 rfl (kptr hP (Int.toNat_natCast _) hy_) rfl ?_)
                      exact ⟨hE, rfl⟩
                    refine ⟨.det (fun val => (ptr b15 (1))), ⟨fun _ _ hv => rfl, fun _ _ _ _ _ => trivial⟩, fun val h_ W hx he => ⟨trivial, ?_⟩, ?_⟩
                    · replace hx := (Upd.drew _ _).trans hx
                      replace hl := hl.ext hx
                      replace hr := hr.ext hx
                      replace hP := hP.ext hx
                      replace hs := hs.ext hx
                      replace hk := hk.ext hx
                      replace hB15 := hB15.ext hx
                      have hE := Upd.refl (fun _ => False) W
                      refine id (X_fldP (b := b15) (o := 0) (r := 1) Fd39_1 rfl rfl ?_)
                      exact ⟨hE, rfl⟩
                    refine ⟨.det (fun val => (.agg (ptC e.2.2).toArray)), ⟨fun _ _ hv => rfl, fun _ _ _ _ _ => trivial⟩, fun val h_ W hx he => ⟨trivial, ?_⟩, ?_⟩
                    · replace hx := (Upd.drew _ _).trans hx
                      replace hl := hl.ext hx
                      replace hr := hr.ext hx
                      replace hP := hP.ext hx
                      replace hs := hs.ext hx
                      replace hk := hk.ext hx
                      replace hB15 := hB15.ext hx
                      have hE := Upd.refl (fun _ => False) W
                      refine id (X_loadA (xs := ptC e.2.2) A37 rfl (hB15.at_ 1 (ptC e.2.2) (fun j u hj => by rw [Nat.add_comm]; simpa using hj)) rfl ?_)
                      exact ⟨hE, rfl⟩
                    refine ⟨.det (fun val => (.bool (false))), ⟨fun _ _ hv => rfl, fun _ _ _ _ _ => trivial⟩, fun val h_ W hx he => ⟨trivial, ?_⟩, ?_⟩
                    · replace hx := (Upd.drew _ _).trans hx
                      replace hl := hl.ext hx
                      replace hr := hr.ext hx
                      replace hP := hP.ext hx
                      replace hs := hs.ext hx
                      replace hk := hk.ext hx
                      replace hB15 := hB15.ext hx
                      have hE := Upd.refl (fun _ => False) W
                      refine id (X_eqP (p := y_.2.2) (q := e.2.2) (r := false) Try.underlying37 u37 (by kernel_rfl) (by decide) ⟨rfl, rfl, rfl, rfl⟩ Try.underlying5 Try.underlying33 (by kernel_rfl) Try.underlying32 (ie := _) rfl (by kernel_rfl) Try.underlying34 Try.underlying35 (by kernel_rfl) rfl rfl (.inr ⟨rfl, by rw [hxp, beq_self_eq_true]; rfl⟩) ?_)
                      exact ⟨hE, rfl⟩
                    refine ⟨.det (fun val => (.bool (false))), ⟨fun _ _ hv => rfl, fun _ _ _ _ _ => trivial⟩, fun val h_ W hx he => ⟨trivial, ?_⟩, ?_⟩
                    · replace hx := (Upd.drew _ _).trans hx
                      replace hl := hl.ext hx
                      replace hr := hr.ext hx
                      replace hP := hP.ext hx
                      replace hs := hs.ext hx
                      replace hk := hk.ext hx
                      replace hB15 := hB15.ext hx
                      have hE := Upd.refl (fun _ => False) W
                      refine id (X_move (v := (.bool (false))) rfl ?_)
                      exact ⟨hE, rfl⟩
                    refine ⟨.det (fun val => (.int .i64 (((i : Nat) : Int)))), ⟨fun _ _ hv => rfl, fun _ _ _ _ _ => trivial⟩, fun val h_ W hx he => ⟨⟨101, rfl, rfl⟩, ?_⟩, ?_⟩
                    · replace hx := (Upd.drew _ _).trans hx
                      replace hl := hl.ext hx
                      replace hr := hr.ext hx
                      replace hP := hP.ext hx
                      replace hs := hs.ext hx
                      replace hk := hk.ext hx
                      replace hB15 := hB15.ext hx
                      have hE := Upd.refl (fun _ => False) W
                      refine id (X_move (v := (.int .i64 (((i : Nat) : Int)))) rfl ?_)
                      exact ⟨hE, rfl⟩
                    refine ⟨.det (fun val => a), ⟨fun _ _ hv => rfl, fun _ _ _ _ _ => trivial⟩, fun val h_ W hx he => ⟨⟨101, rfl, rfl⟩, ?_⟩, ?_⟩
                    · replace hx := (Upd.drew _ _).trans hx
                      replace hl := hl.ext hx
                      replace hr := hr.ext hx
                      replace hP := hP.ext hx
                      replace hs := hs.ext hx
                      replace hk := hk.ext hx
                      replace hB15 := hB15.ext hx
                      have hE := Upd.refl (fun _ => False) W
                      refine id (X_move (v := a) rfl ?_)
                      exact ⟨hE, rfl⟩
                    refine ⟨.det (fun val => (.int .i64 (((as_.length : Nat) : Int)))), ⟨fun _ _ hv => rfl, fun _ _ _ _ _ => trivial⟩, fun val h_ W hx he => ⟨⟨101, rfl, rfl⟩, ?_⟩, ?_⟩
                    · replace hx := (Upd.drew _ _).trans hx
                      replace hl := hl.ext hx
                      replace hr := hr.ext hx
                      replace hP := hP.ext hx
                      replace hs := hs.ext hx
                      replace hk := hk.ext hx
                      replace hB15 := hB15.ext hx
                      have hE := Upd.refl (fun _ => False) W
                      refine id (X_len (v := a) (n := as_.length) Try.underlying22 rfl hsv_a ?_)
                      exact ⟨hE, rfl⟩
                    refine ⟨.det (fun val => (.bool (false))), ⟨fun _ _ hv => rfl, fun _ _ _ _ _ => trivial⟩, fun val h_ W hx he => ⟨⟨101, rfl, rfl⟩, ?_⟩, ?_⟩
                    · replace hx := (Upd.drew _ _).trans hx
                      replace hl := hl.ext hx
                      replace hr := hr.ext hx
                      replace hP := hP.ext hx
                      replace hs := hs.ext hx
                      replace hk := hk.ext hx
                      replace hB15 := hB15.ext hx
                      have hE := Upd.refl (fun _ => False) W
                      refine id (X_cmp (k := .i64) (a := ((i : Nat) : Int)) (b := ((as_.length : Nat) : Int)) (r := false) rfl rfl rfl (decide_eq_false (p := (((i : Nat) : Int) ≠ ((as_.length : Nat) : Int))) (by omega)) ?_)
                      exact ⟨hE, rfl⟩
                    refine ⟨.det (fun val => (.bool (false))), ⟨fun _ _ hv => rfl, fun _ _ _ _ _ => trivial⟩, fun val h_ W hx he => ⟨⟨101, rfl, rfl⟩, ?_⟩, ?_⟩
                    · replace hx := (Upd.drew _ _).trans hx
                      replace hl := hl.ext hx
                      replace hr := hr.ext hx
                      replace hP := hP.ext hx
                      replace hs := hs.ext hx
                      replace hk := hk.ext hx
                      replace hB15 := hB15.ext hx
                      have hE := Upd.refl (fun _ => False) W
                      refine id (X_move (v := (.bool (false))) rfl ?_)
                      exact ⟨hE, rfl⟩
                    refine ⟨.no, ⟨fun _ _ _ => trivial, fun _ _ _ _ _ => trivial⟩, fun val h_ W hx he => ⟨106, rfl, .inl rfl⟩, ?_⟩
                    refine ⟨.no, ⟨fun _ _ _ => trivial, fun _ _ _ _ _ => trivial⟩, fun val h_ W hx he => ⟨106, rfl, .inl rfl⟩, ?_⟩
                    refine ⟨.no, ⟨fun _ _ _ => trivial, fun _ _ _ _ _ => trivial⟩, fun val h_ W hx he => ⟨106, rfl, .inl rfl⟩, ?_⟩
                    refine ⟨.no, ⟨fun _ _ _ => trivial, fun _ _ _ _ _ => trivial⟩, fun val h_ W hx he => ⟨106, rfl, .inl rfl⟩, ?_⟩
                    refine ⟨.no, ⟨fun _ _ _ => trivial, fun _ _ _ _ _ => trivial⟩, fun val h_ W hx he => ⟨106, rfl, .inl rfl⟩, ?_⟩
                    refine ⟨.no, ⟨fun _ _ _ => trivial, fun _ _ _ _ _ => trivial⟩, fun val h_ W hx he => ⟨106, rfl, .inl rfl⟩, ?_⟩
                    refine ⟨.no, ⟨fun _ _ _ => trivial, fun _ _ _ _ _ => trivial⟩, fun val h_ W hx he => ⟨106, rfl, .inl rfl⟩, ?_⟩
                    refine ⟨.no, ⟨fun _ _ _ => trivial, fun _ _ _ _ _ => trivial⟩, fun val h_ W hx he => ⟨106, rfl, .inl rfl⟩, ?_⟩
                    refine ⟨.no, ⟨fun _ _ _ => trivial, fun _ _ _ _ _ => trivial⟩, fun val h_ W hx he => ⟨106, rfl, .inl rfl⟩, ?_⟩
                    refine ⟨.no, ⟨fun _ _ _ => trivial, fun _ _ _ _ _ => trivial⟩, fun val h_ W hx he => ⟨106, rfl, .inl rfl⟩, ?_⟩
                    refine ⟨.det (fun val => (.bool (false))), ⟨fun _ _ hv => rfl, fun _ _ _ _ _ => trivial⟩, fun val h_ W hx he => ⟨⟨101, rfl, rfl⟩, ?_⟩, ?_⟩
                    · replace hx := (Upd.drew _ _).trans hx
                      replace hl := hl.ext hx
                      replace hr := hr.ext hx
                      replace hP := hP.ext hx
                      replace hs := hs.ext hx
                      replace hk := hk.ext hx
                      replace hB15 := hB15.ext hx
                      have hE := Upd.refl (fun _ => False) W
                      refine id (X_pick (t := false) (v := (.bool (false))) rfl rfl ?_)
                      exact ⟨hE, rfl⟩
                    refine ⟨.det (fun val => (.bool (false))), ⟨fun _ _ hv => rfl, fun _ _ _ _ _ => trivial⟩, fun val h_ W hx he => ⟨trivial, ?_⟩, ?_⟩
                    · replace hx := (Upd.drew _ _).trans hx
                      replace hl := hl.ext hx
                      replace hr := hr.ext hx
                      replace hP := hP.ext hx
                      replace hs := hs.ext hx
                      replace hk := hk.ext hx
                      replace hB15 := hB15.ext hx
                      have hE := Upd.refl (fun _ => False) W
                      refine id (X_pick (t := false) (v := (.bool (false))) rfl rfl ?_)
                      exact ⟨hE, rfl⟩
                    refine ⟨.det (fun val => (.bool (false))), ⟨fun _ _ hv => rfl, fun _ _ _ _ _ => trivial⟩, fun val h_ W hx he => ⟨trivial, ?_⟩, ?_⟩
                    · replace hx := (Upd.drew _ _).trans hx
                      replace hl := hl.ext hx
                      replace hr := hr.ext hx
                      replace hP := hP.ext hx
                      replace hs := hs.ext hx
                      replace hk := hk.ext hx
                      replace hB15 := hB15.ext hx
                      have hE := Upd.refl (fun _ => False) W
                      refine id (X_move (v := (.bool (false))) rfl ?_)
                      exact ⟨hE, rfl⟩
                    refine ⟨.det (fun val => (.int .i64 (((i : Nat) : Int)))), ⟨fun _ _ hv => rfl, fun _ _ _ _ _ => trivial⟩, fun val h_ W hx he => ⟨⟨119, rfl, rfl⟩, ?_⟩, ?_⟩
                    · replace hx := (Upd.drew _ _).trans hx
                      replace hl := hl.ext hx
                      replace hr := hr.ext hx
                      replace hP := hP.ext hx
                      replace hs := hs.ext hx
                      replace hk := hk.ext hx
                      replace hB15 := hB15.ext hx
                      have hE := Upd.refl (fun _ => False) W
                      refine id (X_move (v := (.int .i64 (((i : Nat) : Int)))) rfl ?_)
                      exact ⟨hE, rfl⟩
                    refine ⟨.det (fun val => a), ⟨fun _ _ hv => rfl, fun _ _ _ _ _ => trivial⟩, fun val h_ W hx he => ⟨⟨119, rfl, rfl⟩, ?_⟩, ?_⟩
                    · replace hx := (Upd.drew _ _).trans hx
                      replace hl := hl.ext hx
                      replace hr := hr.ext hx
                      replace hP := hP.ext hx
                      replace hs := hs.ext hx
                      replace hk := hk.ext hx
                      replace hB15 := hB15.ext hx
                      have hE := Upd.refl (fun _ => False) W
                      refine id (X_move (v := a) rfl ?_)
                      exact ⟨hE, rfl⟩
                    refine ⟨.det (fun val => (.int .i64 (((as_.length : Nat) : Int)))), ⟨fun _ _ hv => rfl, fun _ _ _ _ _ => trivial⟩, fun val h_ W hx he => ⟨⟨119, rfl, rfl⟩, ?_⟩, ?_⟩
                    · replace hx := (Upd.drew _ _).trans hx
                      replace hl := hl.ext hx
                      replace hr := hr.ext hx
                      replace hP := hP.ext hx
                      replace hs := hs.ext hx
                      replace hk := hk.ext hx
                      replace hB15 := hB15.ext hx
                      have hE := Upd.refl (fun _ => False) W
                      refine id (X_len (v := a) (n := as_.length) Try.underlying22 rfl hsv_a ?_)
                      exact ⟨hE, rfl⟩
                    refine ⟨.det (fun val => (.bool (true))), ⟨fun _ _ hv => rfl, fun _ _ _ _ _ => trivial⟩, fun val h_ W hx he => ⟨⟨119, rfl, rfl⟩, ?_⟩, ?_⟩
                    · replace hx := (Upd.drew _ _).trans hx
                      replace hl := hl.ext hx
                      replace hr := hr.ext hx
                      replace hP := hP.ext hx
                      replace hs := hs.ext hx
                      replace hk := hk.ext hx
                      replace hB15 := hB15.ext hx
                      have hE := Upd.refl (fun _ => False) W
                      refine id (X_cmp (k := .i64) (a := ((i : Nat) : Int)) (b := ((as_.length : Nat) : Int)) (r := true) rfl rfl rfl (decide_eq_true (p := (((i : Nat) : Int) = ((as_.length : Nat) : Int))) (by omega)) ?_)
                      exact ⟨hE, rfl⟩
                    refine ⟨.det (fun val => (.bool (true))), ⟨fun _ _ hv => rfl, fun _ _ _ _ _ => trivial⟩, fun val h_ W hx he => ⟨⟨119, rfl, rfl⟩, ?_⟩, ?_⟩
                    · replace hx := (Upd.drew _ _).trans hx
                      replace hl := hl.ext hx
                      replace hr := hr.ext hx
                      replace hP := hP.ext hx
                      replace hs := hs.ext hx
                      replace hk := hk.ext hx
                      replace hB15 := hB15.ext hx
                      have hE := Upd.refl (fun _ => False) W
                      refine id (X_move (v := (.bool (true))) rfl ?_)
                      exact ⟨hE, rfl⟩
                    refine ⟨.det (fun val => s), ⟨fun _ _ hv => rfl, fun _ _ _ _ _ => trivial⟩, fun val h_ W hx he => ⟨⟨124, rfl, rfl⟩, ?_⟩, ?_⟩
                    · replace hx := (Upd.drew _ _).trans hx
                      replace hl := hl.ext hx
                      replace hr := hr.ext hx
                      replace hP := hP.ext hx
                      replace hs := hs.ext hx
                      replace hk := hk.ext hx
                      replace hB15 := hB15.ext hx
                      have hE := Upd.refl (fun _ => False) W
                      refine id (X_move (v := s) rfl ?_)
                      exact ⟨hE, rfl⟩
                    refine ⟨.det (fun val => (strV (sl))), ⟨fun _ _ hv => rfl, fun _ _ _ _ _ => trivial⟩, fun val h_ W hx he => ⟨⟨124, rfl, rfl⟩, ?_⟩, ?_⟩
                    · replace hx := (Upd.drew _ _).trans hx
                      replace hl := hl.ext hx
                      replace hr := hr.ext hx
                      replace hP := hP.ext hx
                      replace hs := hs.ext hx
                      replace hk := hk.ext hx
                      replace hB15 := hB15.ext hx
                      have hE := Upd.refl (fun _ => False) W
                      refine id (X_str (v := s) (l := sl) Try.underlying23 Try.underlying5 Try.underlying9 rfl hs.1 ?_)
                      exact ⟨hE, rfl⟩
                    refine ⟨.det (fun val => (ptr b15 (0))), ⟨fun _ _ hv => rfl, fun _ _ _ _ _ => trivial⟩, fun val h_ W hx he => ⟨⟨124, rfl, rfl⟩, ?_⟩, ?_⟩
                    · replace hx := (Upd.drew _ _).trans hx
                      replace hl := hl.ext hx
                      replace hr := hr.ext hx
                      replace hP := hP.ext hx
                      replace hs := hs.ext hx
                      replace hk := hk.ext hx
                      replace hB15 := hB15.ext hx
                      have hE := Upd.refl (fun _ => False) W
                      refine id (X_fldP (b := b15) (o := 0) (r := 0) Fd39_0 rfl rfl ?_)
                      exact ⟨hE, rfl⟩
                    refine ⟨.det (fun val => key), ⟨fun _ _ hv => rfl, fun _ _ _ _ _ => trivial⟩, fun val h_ W hx he => ⟨⟨124, rfl, rfl⟩, ?_⟩, ?_⟩
                    · replace hx := (Upd.drew _ _).trans hx
                      replace hl := hl.ext hx
                      replace hr := hr.ext hx
                      replace hP := hP.ext hx
                      replace hs := hs.ext hx
                      replace hk := hk.ext hx
                      replace hB15 := hB15.ext hx
                      have hE := Upd.refl (fun _ => False) W
                      refine id (X_load (p := (ptr b15 (0))) (v := key) T23 rfl (hB15.at1 rfl) ?_)
                      exact ⟨hE, rfl⟩
                    refine ⟨.det (fun val => (strV (m))), ⟨fun _ _ hv => rfl, fun _ _ _ _ _ => trivial⟩, fun val h_ W hx he => ⟨⟨124, rfl, rfl⟩, ?_⟩, ?_⟩
                    · replace hx := (Upd.drew _ _).trans hx
                      replace hl := hl.ext hx
                      replace hr := hr.ext hx
                      replace hP := hP.ext hx
                      replace hs := hs.ext hx
                      replace hk := hk.ext hx
                      replace hB15 := hB15.ext hx
                      have hE := Upd.refl (fun _ => False) W
                      refine id (X_str (v := key) (l := m) Try.underlying23 Try.underlying5 Try.underlying9 rfl hk ?_)
                      exact ⟨hE, rfl⟩
                    refine ⟨.det (fun val => (.bool (false))), ⟨fun _ _ hv => rfl, fun _ _ _ _ _ => trivial⟩, fun val h_ W hx he => ⟨⟨124, rfl, rfl⟩, ?_⟩, ?_⟩
                    · replace hx := (Upd.drew _ _).trans hx
                      replace hl := hl.ext hx
                      replace hr := hr.ext hx
                      replace hP := hP.ext hx
                      replace hs := hs.ext hx
                      replace hk := hk.ext hx
                      replace hB15 := hB15.ext hx
                      have hE := Upd.refl (fun _ => False) W
                      refine id (X_scmp (a := sl) (b := m) (r := false) rfl rfl rfl (by show (!(sl == m)) = false; rw [hsw, beq_self_eq_true]; rfl) ?_)
                      exact ⟨hE, rfl⟩
                    refine ⟨.det (fun val => (.bool (false))), ⟨fun _ _ hv => rfl, fun _ _ _ _ _ => trivial⟩, fun val h_ W hx he => ⟨⟨124, rfl, rfl⟩, ?_⟩, ?_⟩
                    · replace hx := (Upd.drew _ _).trans hx
                      replace hl := hl.ext hx
                      replace hr := hr.ext hx
                      replace hP := hP.ext hx
                      replace hs := hs.ext hx
                      replace hk := hk.ext hx
                      replace hB15 := hB15.ext hx
                      have hE := Upd.refl (fun _ => False) W
                      refine id (X_move (v := (.bool (false))) rfl ?_)
                      exact ⟨hE, rfl⟩
                    refine ⟨.det (fun val => v5), ⟨fun _ _ hv => rfl, fun _ _ _ _ _ => trivial⟩, fun val h_ W hx he => ⟨⟨131, rfl, rfl⟩, ?_⟩, ?_⟩
                    · replace hx := (Upd.drew _ _).trans hx
                      replace hl := hl.ext hx
                      replace hr := hr.ext hx
                      replace hP := hP.ext hx
                      replace hs := hs.ext hx
                      replace hk := hk.ext hx
                      replace hB15 := hB15.ext hx
                      have hE := Upd.refl (fun _ => False) W
                      refine id (X_move (v := v5) rfl ?_)
                      exact ⟨hE, rfl⟩
                    refine ⟨.det (fun val => (.int .i64 (((i : Nat) : Int)))), ⟨fun _ _ hv => rfl, fun _ _ _ _ _ => trivial⟩, fun val h_ W hx he => ⟨⟨131, rfl, rfl⟩, ?_⟩, ?_⟩
                    · replace hx := (Upd.drew _ _).trans hx
                      replace hl := hl.ext hx
                      replace hr := hr.ext hx
                      replace hP := hP.ext hx
                      replace hs := hs.ext hx
                      replace hk := hk.ext hx
                      replace hB15 := hB15.ext hx
                      have hE := Upd.refl (fun _ => False) W
                      refine id (X_move (v := (.int .i64 (((i : Nat) : Int)))) rfl ?_)
                      exact ⟨hE, rfl⟩
                    intro val W30 hx30 he30
                    replace hx30 := (Upd.drew _ _).trans hx30
                    have hz30 := hx30.size
                    replace hl := hl.ext hx30
                    replace hr := hr.ext hx30
                    replace hP := hP.ext hx30
                    replace hs := hs.ext hx30
                    replace hk := hk.ext hx30
                    replace hU := hU.trans (Ext.upd hx30)
                    replace hB15 := hB15.ext hx30
                    refine L_gy (dj := 131) rfl rfl rfl (X_idx (v := v5) (n := (fs ++ bs).length) (k := .i64) (i := ((i : Nat) : Int)) S22 rfl hP.sv rfl (by omega) (by omega) ?_)
                    refine L_gy (dj := 131) rfl rfl rfl (X_fldS (v := v5) (o := (((i : Nat) : Int) : Int).toNat * 6) Fd39_0 rfl hP.sv (by omega) ?_)
                    refine L_gy (dj := 131) rfl rfl rfl (X_load (v := y_.1) T23 rfl (kkey hP (Int.toNat_natCast _) hy_) ?_)
                    refine L_gy (dj := 131) rfl rfl rfl (X_len (v := y_.1) (n := y_.2.1.length) Try.underlying23 rfl (krd hP hy_).sv ?_)
                    refine L_gy (dj := 131) rfl rfl rfl (X_cmp (k := .i64) (a := ((y_.2.1.length : Nat) : Int)) (b := 0) (r := false) rfl rfl rfl (decide_eq_false (p := ((((y_.2.1.length : Nat) : Int)) : Int) ≠ ((0) : Int)) (by omega)) ?_)
                    refine L_gy (dj := 124) rfl rfl rfl (X_pick (t := false) (v := (.bool (false))) rfl rfl ?_)
                    refine L_gy (dj := 119) rfl rfl rfl (X_pick (t := true) (v := (.bool (false))) rfl rfl ?_)
                    refine L_op rfl (X_pick (t := false) (v := (.bool (false))) rfl rfl ?_)
                    refine L_nil ?_
                    refine T_n ?_
                    refine W_cf rfl ?_
                    refine W_skip ?_
                    refine B_n ?_
                    refine T_n ?_
                    refine W_reg ?_
                    refine L_op rfl (X_move (v := (.int .i64 (((i : Nat) : Int)))) rfl ?_)
                    refine L_op rfl (X_arith (k := .i64) (a := ((i : Nat) : Int)) (b := 1) (r := ((i + 1 : Nat) : Int)) rfl rfl rfl (iadd64 (by omega) (by omega) (by omega)) ?_)
                    refine L_op rfl (X_assign (v := (.int .i64 (((i + 1 : Nat) : Int)))) rfl ?_)
                    refine L_nil ?_
                    refine T_n ?_
                    exact ⟨rfl, i + 1, ⟨⟨hi, hl, hr, hP, hs, hk, hU, by omega⟩, (by show es.length + rs.length - (i + 1) < es.length + rs.length - i; omega)⟩, (Out.mk rfl), ⟨rfl, trivial⟩⟩
                  · have hdw : d = (m, e.2.2) := by rw [hde, if_pos (by omega)]
                    have hia := of_decide_eq_false hs29
                    rw [if_neg (by omega), hdw] at hxd
                    have hxp : y_.2.2 = e.2.2 := by rw [hxd]
                    have hxk : y_.2.1 = m := by rw [hxd]
                    refine W_draw 41 [[], [], [0, 1], [0, 1, 2], [0, 1, 2, 3], [], [5], [0, 1, 2, 3, 4, 5, 6], [0, 1, 2, 3, 4, 5, 6, 7], [0, 1, 2, 3, 4, 5, 6, 7, 8], [0, 1, 2, 3, 4, 5, 6, 7, 8], [0, 1, 2, 3, 4, 5, 6, 7, 8, 10], [0, 1, 2, 3, 4, 5, 6, 7, 8, 9, 10, 11], [0, 1, 2, 3, 4, 5, 6, 7, 8, 9, 10, 11, 12], [0, 1, 2, 3, 4, 5, 6, 7, 8, 9, 10, 11, 12, 13], [0, 1, 2, 3, 4, 5, 6, 7, 8, 9, 10, 11, 12, 13], [0, 1, 2, 3, 4, 5, 6, 7, 8, 9, 10, 11, 12, 13, 14, 15], [0, 1, 2, 3, 4, 5, 6, 7, 8, 9, 10, 11, 12, 13, 14, 15, 16], [0, 1, 2, 3, 4, 5, 6, 7, 8, 9, 10, 11, 12, 13, 14, 15, 16, 17], [0, 1, 2, 3, 4, 5, 6, 7, 8, 9, 10, 11, 12, 13, 14, 15, 16, 17, 18], [0, 1, 2, 3, 4, 5, 6, 7, 8, 9, 10, 11, 12, 13], [0, 1, 2, 3, 4, 5, 6, 7, 8, 9, 10, 11, 12, 13, 20], [0, 1, 2, 3, 4, 5, 6, 7, 8, 9, 10, 11, 12, 13, 20, 21], [0, 1, 2, 3, 4, 5, 6, 7, 8, 9, 10, 11, 12, 13, 14, 15, 16, 17, 18, 19, 20, 21, 22], [0, 1, 2, 3, 4, 5, 6, 7, 8, 9, 10, 11, 12, 13, 14, 15, 16, 17, 18, 19, 20, 21, 22, 23], [0, 1, 2, 3, 4, 5, 6, 7, 8, 9, 10, 11, 12, 13, 14, 15, 16, 17, 18, 19, 20, 21, 22, 23, 24], [0, 1, 2, 3, 4, 5, 6, 7, 8, 9, 10, 11, 12, 13, 14, 15, 16, 17, 18, 19, 20, 21, 22, 23, 24, 25], [0, 1, 2, 3, 4, 5, 6, 7, 8, 9, 10, 11, 12, 13, 14, 15, 16, 17, 18, 19, 20, 21, 22, 23, 24, 25, 26], [0, 1, 2, 3, 4, 5, 6, 7, 8, 9, 10, 11, 12, 13, 14, 15, 16, 17, 18, 19, 20, 21, 22, 23, 24, 25, 26], [0, 1, 2, 3, 4, 5, 6, 7, 8, 9, 10, 11, 12, 13, 14, 15, 16, 17, 18, 19, 20, 21, 22, 23, 24, 25, 26, 28], [0, 1, 2, 3, 4, 5, 6, 7, 8, 9, 10, 11, 12, 13, 14, 15, 16, 17, 18, 19, 20, 21, 22, 23, 24, 25, 26, 27, 28, 29], [0, 1, 2, 3, 4, 5, 6, 7, 8, 9, 10, 11, 12, 13, 14, 15, 16, 17, 18, 19, 20, 21, 22, 23, 24, 25, 26, 27, 28, 29, 30], [0, 1, 2, 3, 4, 5, 6, 7, 8, 9, 10, 11, 12, 13, 14, 15, 16, 17, 18, 19, 20, 21, 22, 23, 24, 25, 26, 27, 28, 29, 30, 31], [0, 1, 2, 3, 4, 5, 6, 7, 8, 9, 10, 11, 12, 13, 14, 15, 16, 17, 18, 19, 20, 21, 22, 23, 24, 25, 26, 27, 28, 29, 30, 31, 32], [0, 1, 2, 3, 4, 5, 6, 7, 8, 9, 10, 11, 12, 13, 14, 15, 16, 17, 18, 19, 20, 21, 22, 23, 24, 25, 26, 27, 28, 29, 30, 31], [0, 1, 2, 3, 4, 5, 6, 7, 8, 9, 10, 11, 12, 13, 14, 15, 16, 17, 18, 19, 20, 21, 22, 23, 24, 25, 26, 27, 28, 29, 30, 31, 34], [0, 1, 2, 3, 4, 5, 6, 7, 8, 9, 10, 11, 12, 13, 14, 15, 16, 17, 18, 19, 20, 21, 22, 23, 24, 25, 26, 27, 28, 29, 30, 31, 34, 35], [0, 1, 2, 3, 4, 5, 6, 7, 8, 9, 10, 11, 12, 13, 14, 15, 16, 17, 18, 19, 20, 21, 22, 23, 24, 25, 26, 27, 28, 29, 30, 31, 32, 33, 34, 35, 36], [0, 1, 2, 3, 4, 5, 6, 7, 8, 9, 10, 11, 12, 13, 14, 15, 16, 17, 18, 19, 20, 21, 22, 23, 24, 25, 26, 27, 28, 29, 30, 31, 32, 33, 34, 35, 36, 37], [0, 1, 2, 3, 4, 5, 6, 7, 8, 9, 10, 11, 12, 13, 14, 15, 16, 17, 18, 19, 20, 21, 22, 23, 24, 25, 26, 27, 28, 29, 30, 31, 32, 33, 34, 35, 36, 37, 38], [0, 1, 2, 3, 4, 5, 6, 7, 8, 9, 10, 11, 12, 13, 14, 15, 16, 17, 18, 19, 20, 21, 22, 23, 24, 25, 26, 27, 28, 29, 30, 31, 32, 33, 34, 35, 36, 37, 38], [0, 1, 2, 3, 4, 5, 6, 7, 8, 9, 10, 11, 12, 13, 14, 15, 16, 17, 18, 19, 20, 21, 22, 23, 24, 25, 26, 27, 28, 29, 30, 31, 32, 33, 34, 35, 36, 37, 38, 39, 40], [0, 1, 2, 3, 4, 5, 6, 7, 8, 9, 10, 11, 12, 13, 14, 15, 16, 17, 18, 19, 20, 21, 22, 23, 24, 25, 26, 27, 28, 29, 30, 31, 32, 33, 34, 35, 36, 37, 38, 39, 40, 41], [0, 1, 2, 3, 4, 5, 6, 7, 8, 9, 10, 11, 12, 13, 14, 15, 16, 17, 18, 19, 20, 21, 22, 23, 24, 25, 26, 27, 28, 29, 30, 31, 32, 33, 34, 35, 36, 37, 38, 39, 40, 41, 42], [0, 1, 2, 3, 4, 5, 6, 7, 8, 9, 10, 11, 12, 13, 14, 15, 16, 17, 18, 19, 20, 21, 22, 23, 24, 25, 26, 27, 28, 29, 30, 31, 32, 33, 34, 35, 36, 37, 38, 39, 40, 41, 42, 43], [0, 1, 2, 3, 4, 5, 6, 7, 8, 9, 10, 11, 12, 13, 14, 15, 16, 17, 18, 19, 20, 21, 22, 23, 24, 25, 26, 27, 28, 29, 30, 31, 32, 33, 34, 35, 36, 37, 38, 39, 40, 41, 42, 43, 44], [0, 1, 2, 3, 4, 5, 6, 7, 8, 9, 10, 11, 12, 13, 14, 15, 16, 17, 18, 19, 20, 21, 22, 23, 24, 25, 26, 27, 28, 29, 30, 31, 32, 33, 34, 35, 36, 37, 38, 39, 40, 41, 42, 43, 44, 45], [0, 1, 2, 3, 4, 5, 6, 7, 8, 9, 10, 11, 12, 13, 14, 15, 16, 17, 18, 19, 20, 21, 22, 23, 24, 25, 26, 27, 28, 29, 30, 31, 32, 33, 34, 35, 36, 37, 38, 39, 40, 41, 42, 43, 44, 45, 46], [0, 1, 2, 3, 4, 5, 6, 7, 8, 9, 10, 11, 12, 13, 14, 15, 16, 17, 18, 19, 20, 21, 22, 23, 24, 25, 26, 27, 28, 29, 30, 31, 32, 33, 34, 35, 36, 37, 38, 39, 40, 41, 42, 43, 44, 45, 46, 47]] mixed (by kernel_rfl) ?_
                    refine ⟨.det (fun val => v5), ⟨fun _ _ hv => rfl, fun _ _ _ _ _ => trivial⟩, fun val h_ W hx he => ⟨trivial, ?_⟩, ?_⟩
                    · replace hx := (Upd.drew _ _).trans hx
                      replace hl := hl.ext hx
                      replace hr := hr.ext hx
                      replace hP := hP.ext hx
                      replace hs := hs.ext hx
                      replace hk := hk.ext hx
                      replace hB15 := hB15.ext hx
                      have hE := Upd.refl (fun _ => False) W
                      refine id (X_move (v := v5) rfl ?_)
                      exact ⟨hE, rfl⟩
                    refine ⟨.det (fun val => (.int .i64 (((i : Nat) : Int)))), ⟨fun _ _ hv => rfl, fun _ _ _ _ _ => trivial⟩, fun val h_ W hx he => ⟨trivial, ?_⟩, ?_⟩
                    · replace hx := (Upd.drew _ _).trans hx
                      replace hl := hl.ext hx
                      replace hr := hr.ext hx
                      replace hP := hP.ext hx
                      replace hs := hs.ext hx
                      replace hk := hk.ext hx
                      replace hB15 := hB15.ext hx
                      have hE := Upd.refl (fun _ => False) W
                      refine id (X_move (v := (.int .i64 (((i : Nat) : Int)))) rfl ?_)
                      exact ⟨hE, rfl⟩
                    refine ⟨.det (fun val => (pof v5 ((((i : Nat) : Int) : Int).toNat * 6))), ⟨fun _ _ hv => rfl, fun _ _ _ _ _ => trivial⟩, fun val h_ W hx he => ⟨trivial, ?_⟩, ?_⟩
                    · replace hx := (Upd.drew _ _).trans hx
                      replace hl := hl.ext hx
                      replace hr := hr.ext hx
                      replace hP := hP.ext hx
                      replace hs := hs.ext hx
                      replace hk := hk.ext hx
                      replace hB15 := hB15.ext hx
                      have hE := Upd.refl (fun _ => False) W
                      refine id (X_idx (v := v5) (n := (fs ++ bs).length) (k := .i64) (i := ((i : Nat) : Int)) S22 rfl hP.sv rfl (by omega) (by omega) ?_)
                      exact ⟨hE, rfl⟩
                    refine ⟨.det (fun val => (pof v5 ((((i : Nat) : Int) : Int).toNat * 6 + 1))), ⟨fun _ _ hv => rfl, fun _ _ _ _ _ => trivial⟩, fun val h_ W hx he => ⟨trivial, ?_⟩, ?_⟩
                    · replace hx := (Upd.drew _ _).trans hx
                      replace hl := hl.ext hx
                      replace hr := hr.ext hx
                      replace hP := hP.ext hx
                      replace hs := hs.ext hx
                      replace hk := hk.ext hx
                      replace hB15 := hB15.ext hx
                      have hE := Upd.refl (fun _ => False) W
                      refine id (X_fldS (v := v5) (o := (((i : Nat) : Int) : Int).toNat * 6) Fd39_1 rfl hP.sv (by omega) ?_)
                      exact ⟨hE, rfl⟩
                    refine ⟨.det (fun val => (.agg (ptC y_.2.2).toArray)), ⟨fun _ _ hv => rfl, fun _ _ _ _ _ => trivial⟩, fun val h_ W hx he => ⟨trivial, ?_⟩, ?_⟩
                    · replace hx := (Upd.drew _ _).trans hx
                      replace hl := hl.ext hx
                      replace hr := hr.ext hx
                      replace hP := hP.ext hx
                      replace hs := hs.ext hx
                      replace hk := hk.ext hx
                      replace hB15 := hB15.ext hx
                      have hE := Upd.refl (fun _ => False) W
                      refine id (X_loadA (xs := ptC y_.2.2) A37 rfl (kptr hP (Int.toNat_natCast _) hy_) rfl ?_)
                      exact ⟨hE, rfl⟩
                    refine ⟨.det (fun val => (ptr b15 (1))), ⟨fun _ _ hv => rfl, fun _ _ _ _ _ => trivial⟩, fun val h_ W hx he => ⟨trivial, ?_⟩, ?_⟩
                    · replace hx := (Upd.drew _ _).trans hx
                      replace hl := hl.ext hx
                      replace hr := hr.ext hx
                      replace hP := hP.ext hx
                      replace hs := hs.ext hx
                      replace hk := hk.ext hx
                      replace hB15 := hB15.ext hx
                      have hE := Upd.refl (fun _ => False) W
                      refine id (X_fldP (b := b15) (o := 0) (r := 1) Fd39_1 rfl rfl ?_)
                      exact ⟨hE, rfl⟩
                    refine ⟨.det (fun val => (.agg (ptC e.2.2).toArray)), ⟨fun _ _ hv => rfl, fun _ _ _ _ _ => trivial⟩, fun val h_ W hx he => ⟨trivial, ?_⟩, ?_⟩
                    · replace hx := (Upd.drew _ _).trans hx
                      replace hl := hl.ext hx
                      replace hr := hr.ext hx
                      replace hP := hP.ext hx
                      replace hs := hs.ext hx
                      replace hk := hk.ext hx
                      replace hB15 := hB15.ext hx
                      have hE := Upd.refl (fun _ => False) W
                      refine id (X_loadA (xs := ptC e.2.2) A37 rfl (hB15.at_ 1 (ptC e.2.2) (fun j u hj => by rw [Nat.add_comm]; simpa using hj)) rfl ?_)
                      exact ⟨hE, rfl⟩
                    refine ⟨.det (fun val => (.bool (false))), ⟨fun _ _ hv => rfl, fun _ _ _ _ _ => trivial⟩, fun val h_ W hx he => ⟨trivial, ?_⟩, ?_⟩
                    · replace hx := (Upd.drew _ _).trans hx
                      replace hl := hl.ext hx
                      replace hr := hr.ext hx
                      replace hP := hP.ext hx
                      replace hs := hs.ext hx
                      replace hk := hk.ext hx
                      replace hB15 := hB15.ext hx
                      have hE := Upd.refl (fun _ => False) W
                      refine id (X_eqP (p := y_.2.2) (q := e.2.2) (r := false) Try.underlying37 u37 (by kernel_rfl) (by decide) ⟨rfl, rfl, rfl, rfl⟩ Try.underlying5 Try.underlying33 (by kernel_rfl) Try.underlying32 (ie := _) rfl (by kernel_rfl) Try.underlying34 Try.underlying35 (by kernel_rfl) rfl rfl (.inr ⟨rfl, by rw [hxp, beq_self_eq_true]; rfl⟩) ?_)
                      exact ⟨hE, rfl⟩
                    refine ⟨.det (fun val => (.bool (false))), ⟨fun _ _ hv => rfl, fun _ _ _ _ _ => trivial⟩, fun val h_ W hx he => ⟨trivial, ?_⟩, ?_⟩
                    · replace hx := (Upd.drew _ _).trans hx
                      replace hl := hl.ext hx
                      replace hr := hr.ext hx
                      replace hP := hP.ext hx
                      replace hs := hs.ext hx
                      replace hk := hk.ext hx
                      replace hB15 := hB15.ext hx
                      have hE := Upd.refl (fun _ => False) W
                      refine id (X_move (v := (.bool (false))) rfl ?_)
                      exact ⟨hE, rfl⟩
                    refine ⟨.det (fun val => (.int .i64 (((i : Nat) : Int)))), ⟨fun _ _ hv => rfl, fun _ _ _ _ _ => trivial⟩, fun val h_ W hx he => ⟨⟨101, rfl, rfl⟩, ?_⟩, ?_⟩
                    · replace hx := (Upd.drew _ _).trans hx
                      replace hl := hl.ext hx
                      replace hr := hr.ext hx
                      replace hP := hP.ext hx
                      replace hs := hs.ext hx
                      replace hk := hk.ext hx
                      replace hB15 := hB15.ext hx
                      have hE := Upd.refl (fun _ => False) W
                      refine id (X_move (v := (.int .i64 (((i : Nat) : Int)))) rfl ?_)
                      exact ⟨hE, rfl⟩
                    refine ⟨.det (fun val => a), ⟨fun _ _ hv => rfl, fun _ _ _ _ _ => trivial⟩, fun val h_ W hx he => ⟨⟨101, rfl, rfl⟩, ?_⟩, ?_⟩
                    · replace hx := (Upd.drew _ _).trans hx
                      replace hl := hl.ext hx
                      replace hr := hr.ext hx
                      replace hP := hP.ext hx
                      replace hs := hs.ext hx
                      replace hk := hk.ext hx
                      replace hB15 := hB15.ext hx
                      have hE := Upd.refl (fun _ => False) W
                      refine id (X_move (v := a) rfl ?_)
                      exact ⟨hE, rfl⟩
                    refine ⟨.det (fun val => (.int .i64 (((as_.length : Nat) : Int)))), ⟨fun _ _ hv => rfl, fun _ _ _ _ _ => trivial⟩, fun val h_ W hx he => ⟨⟨101, rfl, rfl⟩, ?_⟩, ?_⟩
                    · replace hx := (Upd.drew _ _).trans hx
                      replace hl := hl.ext hx
                      replace hr := hr.ext hx
                      replace hP := hP.ext hx
                      replace hs := hs.ext hx
                      replace hk := hk.ext hx
                      replace hB15 := hB15.ext hx
                      have hE := Upd.refl (fun _ => False) W
                      refine id (X_len (v := a) (n := as_.length) Try.underlying22 rfl hsv_a ?_)
                      exact ⟨hE, rfl⟩
                    refine ⟨.det (fun val => (.bool (true))), ⟨fun _ _ hv => rfl, fun _ _ _ _ _ => trivial⟩, fun val h_ W hx he => ⟨⟨101, rfl, rfl⟩, ?_⟩, ?_⟩
                    · replace hx := (Upd.drew _ _).trans hx
                      replace hl := hl.ext hx
                      replace hr := hr.ext hx
                      replace hP := hP.ext hx
                      replace hs := hs.ext hx
                      replace hk := hk.ext hx
                      replace hB15 := hB15.ext hx
                      have hE := Upd.refl (fun _ => False) W
                      refine id (X_cmp (k := .i64) (a := ((i : Nat) : Int)) (b := ((as_.length : Nat) : Int)) (r := true) rfl rfl rfl (decide_eq_true (p := (((i : Nat) : Int) ≠ ((as_.length : Nat) : Int))) (by omega)) ?_)
                      exact ⟨hE, rfl⟩
                    refine ⟨.det (fun val => (.bool (true))), ⟨fun _ _ hv => rfl, fun _ _ _ _ _ => trivial⟩, fun val h_ W hx he => ⟨⟨101, rfl, rfl⟩, ?_⟩, ?_⟩
                    · replace hx := (Upd.drew _ _).trans hx
                      replace hl := hl.ext hx
                      replace hr := hr.ext hx
                      replace hP := hP.ext hx
                      replace hs := hs.ext hx
                      replace hk := hk.ext hx
                      replace hB15 := hB15.ext hx
                      have hE := Upd.refl (fun _ => False) W
                      refine id (X_move (v := (.bool (true))) rfl ?_)
                      exact ⟨hE, rfl⟩
                    refine ⟨.det (fun val => v5), ⟨fun _ _ hv => rfl, fun _ _ _ _ _ => trivial⟩, fun val h_ W hx he => ⟨⟨106, rfl, rfl⟩, ?_⟩, ?_⟩
                    · replace hx := (Upd.drew _ _).trans hx
                      replace hl := hl.ext hx
                      replace hr := hr.ext hx
                      replace hP := hP.ext hx
                      replace hs := hs.ext hx
                      replace hk := hk.ext hx
                      replace hB15 := hB15.ext hx
                      have hE := Upd.refl (fun _ => False) W
                      refine id (X_move (v := v5) rfl ?_)
                      exact ⟨hE, rfl⟩
                    refine ⟨.det (fun val => (.int .i64 (((i : Nat) : Int)))), ⟨fun _ _ hv => rfl, fun _ _ _ _ _ => trivial⟩, fun val h_ W hx he => ⟨⟨106, rfl, rfl⟩, ?_⟩, ?_⟩
                    · replace hx := (Upd.drew _ _).trans hx
                      replace hl := hl.ext hx
                      replace hr := hr.ext hx
                      replace hP := hP.ext hx
                      replace hs := hs.ext hx
                      replace hk := hk.ext hx
                      replace hB15 := hB15.ext hx
                      have hE := Upd.refl (fun _ => False) W
                      refine id (X_move (v := (.int .i64 (((i : Nat) : Int)))) rfl ?_)
                      exact ⟨hE, rfl⟩
                    refine ⟨.det (fun val => (pof v5 ((((i : Nat) : Int) : Int).toNat * 6))), ⟨fun _ _ hv => rfl, fun _ _ _ _ _ => trivial⟩, fun val h_ W hx he => ⟨⟨106, rfl, rfl⟩, ?_⟩, ?_⟩
                    · replace hx := (Upd.drew _ _).trans hx
                      replace hl := hl.ext hx
                      replace hr := hr.ext hx
                      replace hP := hP.ext hx
                      replace hs := hs.ext hx
                      replace hk := hk.ext hx
                      replace hB15 := hB15.ext hx
                      have hE := Upd.refl (fun _ => False) W
                      refine id (X_idx (v := v5) (n := (fs ++ bs).length) (k := .i64) (i := ((i : Nat) : Int)) S22 rfl hP.sv rfl (by omega) (by omega) ?_)
                      exact ⟨hE, rfl⟩
                    refine ⟨.det (fun val => (pof v5 ((((i : Nat) : Int) : Int).toNat * 6 + 0))), ⟨fun _ _ hv => rfl, fun _ _ _ _ _ => trivial⟩, fun val h_ W hx he => ⟨⟨106, rfl, rfl⟩, ?_⟩, ?_⟩
                    · replace hx := (Upd.drew _ _).trans hx
                      replace hl := hl.ext hx
                      replace hr := hr.ext hx
                      replace hP := hP.ext hx
                      replace hs := hs.ext hx
                      replace hk := hk.ext hx
                      replace hB15 := hB15.ext hx
                      have hE := Upd.refl (fun _ => False) W
                      refine id (X_fldS (v := v5) (o := (((i : Nat) : Int) : Int).toNat * 6) Fd39_0 rfl hP.sv (by omega) ?_)
                      exact ⟨hE, rfl⟩
                    refine ⟨.det (fun val => y_.1), ⟨fun _ _ hv => rfl, fun _ _ _ _ _ => trivial⟩, fun val h_ W hx he => ⟨⟨106, rfl, rfl⟩, ?_⟩, ?_⟩
                    · replace hx := (Upd.drew _ _).trans hx
                      replace hl := hl.ext hx
                      replace hr := hr.ext hx
                      replace hP := hP.ext hx
                      replace hs := hs.ext hx
                      replace hk := hk.ext hx
                      replace hB15 := hB15.ext hx
                      have hE := Upd.refl (fun _ => False) W
                      refine id (X_load (v := y_.1) T23 rfl (kkey hP (Int.toNat_natCast _) hy_) ?_)
                      exact ⟨hE, rfl⟩
                    refine ⟨.det (fun val => (strV (y_.2.1))), ⟨fun _ _ hv => rfl, fun _ _ _ _ _ => trivial⟩, fun val h_ W hx he => ⟨⟨106, rfl, rfl⟩, ?_⟩, ?_⟩
                    · replace hx := (Upd.drew _ _).trans hx
                      replace hl := hl.ext hx
                      replace hr := hr.ext hx
                      replace hP := hP.ext hx
                      replace hs := hs.ext hx
                      replace hk := hk.ext hx
                      replace hB15 := hB15.ext hx
                      have hE := Upd.refl (fun _ => False) W
                      refine id (X_str (v := y_.1) (l := y_.2.1) Try.underlying23 Try.underlying5 Try.underlying9 rfl (krd hP hy_) ?_)
                      exact ⟨hE, rfl⟩
                    refine ⟨.det (fun val => (ptr b15 (0))), ⟨fun _ _ hv => rfl, fun _ _ _ _ _ => trivial⟩, fun val h_ W hx he => ⟨⟨106, rfl, rfl⟩, ?_⟩, ?_⟩
                    · replace hx := (Upd.drew _ _).trans hx
                      replace hl := hl.ext hx
                      replace hr := hr.ext hx
                      replace hP := hP.ext hx
                      replace hs := hs.ext hx
                      replace hk := hk.ext hx
                      replace hB15 := hB15.ext hx
                      have hE := Upd.refl (fun _ => False) W
                      refine id (X_fldP (b := b15) (o := 0) (r := 0) Fd39_0 rfl rfl ?_)
                      exact ⟨hE, rfl⟩
                    refine ⟨.det (fun val => key), ⟨fun _ _ hv => rfl, fun _ _ _ _ _ => trivial⟩, fun val h_ W hx he => ⟨⟨106, rfl, rfl⟩, ?_⟩, ?_⟩
                    · replace hx := (Upd.drew _ _).trans hx
                      replace hl := hl.ext hx
                      replace hr := hr.ext hx
                      replace hP := hP.ext hx
                      replace hs := hs.ext hx
                      replace hk := hk.ext hx
                      replace hB15 := hB15.ext hx
                      have hE := Upd.refl (fun _ => False) W
                      refine id (X_load (p := (ptr b15 (0))) (v := key) T23 rfl (hB15.at1 rfl) ?_)
                      exact ⟨hE, rfl⟩
                    refine ⟨.det (fun val => (strV (m))), ⟨fun _ _ hv => rfl, fun _ _ _ _ _ => trivial⟩, fun val h_ W hx he => ⟨⟨106, rfl, rfl⟩, ?_⟩, ?_⟩
                    · replace hx := (Upd.drew _ _).trans hx
                      replace hl := hl.ext hx
                      replace hr := hr.ext hx
                      replace hP := hP.ext hx
                      replace hs := hs.ext hx
                      replace hk := hk.ext hx
                      replace hB15 := hB15.ext hx
                      have hE := Upd.refl (fun _ => False) W
                      refine id (X_str (v := key) (l := m) Try.underlying23 Try.underlying5 Try.underlying9 rfl hk ?_)
                      exact ⟨hE, rfl⟩
                    refine ⟨.det (fun val => (.bool (false))), ⟨fun _ _ hv => rfl, fun _ _ _ _ _ => trivial⟩, fun val h_ W hx he => ⟨⟨106, rfl, rfl⟩, ?_⟩, ?_⟩
                    · replace hx := (Upd.drew _ _).trans hx
                      replace hl := hl.ext hx
                      replace hr := hr.ext hx
                      replace hP := hP.ext hx
                      replace hs := hs.ext hx
                      replace hk := hk.ext hx
                      replace hB15 := hB15.ext hx
                      have hE := Upd.refl (fun _ => False) W
                      refine id (X_scmp (a := y_.2.1) (b := m) (r := false) rfl rfl rfl (by show (!(y_.2.1 == m)) = false; rw [hxk, beq_self_eq_true]; rfl) ?_)
                      exact ⟨hE, rfl⟩
                    refine ⟨.det (fun val => (.bool (false))), ⟨fun _ _ hv => rfl, fun _ _ _ _ _ => trivial⟩, fun val h_ W hx he => ⟨⟨101, rfl, rfl⟩, ?_⟩, ?_⟩
                    · replace hx := (Upd.drew _ _).trans hx
                      replace hl := hl.ext hx
                      replace hr := hr.ext hx
                      replace hP := hP.ext hx
                      replace hs := hs.ext hx
                      replace hk := hk.ext hx
                      replace hB15 := hB15.ext hx
                      have hE := Upd.refl (fun _ => False) W
                      refine id (X_pick (t := true) (v := (.bool (false))) rfl rfl ?_)
                      exact ⟨hE, rfl⟩
                    refine ⟨.det (fun val => (.bool (false))), ⟨fun _ _ hv => rfl, fun _ _ _ _ _ => trivial⟩, fun val h_ W hx he => ⟨trivial, ?_⟩, ?_⟩
                    · replace hx := (Upd.drew _ _).trans hx
                      replace hl := hl.ext hx
                      replace hr := hr.ext hx
                      replace hP := hP.ext hx
                      replace hs := hs.ext hx
                      replace hk := hk.ext hx
                      replace hB15 := hB15.ext hx
                      have hE := Upd.refl (fun _ => False) W
                      refine id (X_pick (t := false) (v := (.bool (false))) rfl rfl ?_)
                      exact ⟨hE, rfl⟩
                    refine ⟨.det (fun val => (.bool (false))), ⟨fun _ _ hv => rfl, fun _ _ _ _ _ => trivial⟩, fun val h_ W hx he => ⟨trivial, ?_⟩, ?_⟩
                    · replace hx := (Upd.drew _ _).trans hx
                      replace hl := hl.ext hx
                      replace hr := hr.ext hx
                      replace hP := hP.ext hx
                      replace hs := hs.ext hx
                      replace hk := hk.ext hx
                      replace hB15 := hB15.ext hx
                      have hE := Upd.refl (fun _ => False) W
                      refine id (X_move (v := (.bool (false))) rfl ?_)
                      exact ⟨hE, rfl⟩
                    refine ⟨.det (fun val => (.int .i64 (((i : Nat) : Int)))), ⟨fun _ _ hv => rfl, fun _ _ _ _ _ => trivial⟩, fun val h_ W hx he => ⟨⟨119, rfl, rfl⟩, ?_⟩, ?_⟩
                    · replace hx := (Upd.drew _ _).trans hx
                      replace hl := hl.ext hx
                      replace hr := hr.ext hx
                      replace hP := hP.ext hx
                      replace hs := hs.ext hx
                      replace hk := hk.ext hx
                      replace hB15 := hB15.ext hx
                      have hE := Upd.refl (fun _ => False) W
                      refine id (X_move (v := (.int .i64 (((i : Nat) : Int)))) rfl ?_)
                      exact ⟨hE, rfl⟩
                    refine ⟨.det (fun val => a), ⟨fun _ _ hv => rfl, fun _ _ _ _ _ => trivial⟩, fun val h_ W hx he => ⟨⟨119, rfl, rfl⟩, ?_⟩, ?_⟩
                    · replace hx := (Upd.drew _ _).trans hx
                      replace hl := hl.ext hx
                      replace hr := hr.ext hx
                      replace hP := hP.ext hx
                      replace hs := hs.ext hx
                      replace hk := hk.ext hx
                      replace hB15 := hB15.ext hx
                      have hE := Upd.refl (fun _ => False) W
                      refine id (X_move (v := a) rfl ?_)
                      exact ⟨hE, rfl⟩
                    refine ⟨.det (fun val => (.int .i64 (((as_.length : Nat) : Int)))), ⟨fun _ _ hv => rfl, fun _ _ _ _ _ => trivial⟩, fun val h_ W hx he => ⟨⟨119, rfl, rfl⟩, ?_⟩, ?_⟩
                    · replace hx := (Upd.drew _ _).trans hx
                      replace hl := hl.ext hx
                      replace hr := hr.ext hx
                      replace hP := hP.ext hx
                      replace hs := hs.ext hx
                      replace hk := hk.ext hx
                      replace hB15 := hB15.ext hx
                      have hE := Upd.refl (fun _ => False) W
                      refine id (X_len (v := a) (n := as_.length) Try.underlying22 rfl hsv_a ?_)
                      exact ⟨hE, rfl⟩
                    refine ⟨.det (fun val => (.bool (false))), ⟨fun _ _ hv => rfl, fun _ _ _ _ _ => trivial⟩, fun val h_ W hx he => ⟨⟨119, rfl, rfl⟩, ?_⟩, ?_⟩
                    · replace hx := (Upd.drew _ _).trans hx
                      replace hl := hl.ext hx
                      replace hr := hr.ext hx
                      replace hP := hP.ext hx
                      replace hs := hs.ext hx
                      replace hk := hk.ext hx
                      replace hB15 := hB15.ext hx
                      have hE := Upd.refl (fun _ => False) W
                      refine id (X_cmp (k := .i64) (a := ((i : Nat) : Int)) (b := ((as_.length : Nat) : Int)) (r := false) rfl rfl rfl (decide_eq_false (p := (((i : Nat) : Int) = ((as_.length : Nat) : Int))) (by omega)) ?_)
                      exact ⟨hE, rfl⟩
                    refine ⟨.det (fun val => (.bool (false))), ⟨fun _ _ hv => rfl, fun _ _ _ _ _ => trivial⟩, fun val h_ W hx he => ⟨⟨119, rfl, rfl⟩, ?_⟩, ?_⟩
                    · replace hx := (Upd.drew _ _).trans hx
                      replace hl := hl.ext hx
                      replace hr := hr.ext hx
                      replace hP := hP.ext hx
                      replace hs := hs.ext hx
                      replace hk := hk.ext hx
                      replace hB15 := hB15.ext hx
                      have hE := Upd.refl (fun _ => False) W
                      refine id (X_move (v := (.bool (false))) rfl ?_)
                      exact ⟨hE, rfl⟩
                    refine ⟨.no, ⟨fun _ _ _ => trivial, fun _ _ _ _ _ => trivial⟩, fun val h_ W hx he => ⟨124, rfl, .inl rfl⟩, ?_⟩
                    refine ⟨.no, ⟨fun _ _ _ => trivial, fun _ _ _ _ _ => trivial⟩, fun val h_ W hx he => ⟨124, rfl, .inl rfl⟩, ?_⟩
                    refine ⟨.no, ⟨fun _ _ _ => trivial, fun _ _ _ _ _ => trivial⟩, fun val h_ W hx he => ⟨124, rfl, .inl rfl⟩, ?_⟩
                    refine ⟨.no, ⟨fun _ _ _ => trivial, fun _ _ _ _ _ => trivial⟩, fun val h_ W hx he => ⟨124, rfl, .inl rfl⟩, ?_⟩
                    refine ⟨.no, ⟨fun _ _ _ => trivial, fun _ _ _ _ _ => trivial⟩, fun val h_ W hx he => ⟨124, rfl, .inl rfl⟩, ?_⟩
                    refine ⟨.no, ⟨fun _ _ _ => trivial, fun _ _ _ _ _ => trivial⟩, fun val h_ W hx he => ⟨124, rfl, .inl rfl⟩, ?_⟩
                    refine ⟨.no, ⟨fun _ _ _ => trivial, fun _ _ _ _ _ => trivial⟩, fun val h_ W hx he => ⟨124, rfl, .inl rfl⟩, ?_⟩
                    refine ⟨.no, ⟨fun _ _ _ => trivial, fun _ _ _ _ _ => trivial⟩, fun val h_ W hx he => ⟨131, rfl, .inr rfl⟩, ?_⟩
                    refine ⟨.no, ⟨fun _ _ _ => trivial, fun _ _ _ _ _ => trivial⟩, fun val h_ W hx he => ⟨131, rfl, .inr rfl⟩, ?_⟩
                    intro val W33 hx33 he33
                    replace hx33 := (Upd.drew _ _).trans hx33
                    have hz33 := hx33.size
                    replace hl := hl.ext hx33
                    replace hr := hr.ext hx33
                    replace hP := hP.ext hx33
                    replace hs := hs.ext hx33
                    replace hk := hk.ext hx33
                    replace hU := hU.trans (Ext.upd hx33)
                    replace hB15 := hB15.ext hx33
                    refine L_gu (dj := 131) rfl rfl rfl ?_
                    refine L_gu (dj := 131) rfl rfl rfl ?_
                    refine L_gu (dj := 131) rfl rfl rfl ?_
                    refine L_gu (dj := 131) rfl rfl rfl ?_
                    refine L_gu (dj := 131) rfl rfl rfl ?_
                    refine L_gn (dj := 124) (t := false) rfl rfl rfl rfl ?_
                    refine L_gy (dj := 119) rfl rfl rfl (X_pick (t := false) (v := (.bool (false))) rfl rfl ?_)
                    refine L_op rfl (X_pick (t := false) (v := (.bool (false))) rfl rfl ?_)
                    refine L_nil ?_
                    refine T_n ?_
                    refine W_cf rfl ?_
                    refine W_skip ?_
                    refine B_n ?_
                    refine T_n ?_
                    refine W_reg ?_
                    refine L_op rfl (X_move (v := (.int .i64 (((i : Nat) : Int)))) rfl ?_)
                    refine L_op rfl (X_arith (k := .i64) (a := ((i : Nat) : Int)) (b := 1) (r := ((i + 1 : Nat) : Int)) rfl rfl rfl (iadd64 (by omega) (by omega) (by omega)) ?_)
                    refine L_op rfl (X_assign (v := (.int .i64 (((i + 1 : Nat) : Int)))) rfl ?_)
                    refine L_nil ?_
                    refine T_n ?_
                    exact ⟨rfl, i + 1, ⟨⟨hi, hl, hr, hP, hs, hk, hU, by omega⟩, (by show es.length + rs.length - (i + 1) < es.length + rs.length - i; omega)⟩, (Out.mk rfl), ⟨rfl, trivial⟩⟩
                · refine L_op rfl (X_cmp (k := .i64) (a := ((i : Nat) : Int)) (b := ((es.length : Nat) : Int)) (r := false) rfl rfl rfl (decide_eq_false (p := ((((i : Nat) : Int)) : Int) = ((((es.length : Nat) : Int)) : Int)) (by omega)) ?_)
                  refine L_nil ?_
                  refine T_n ?_
                  refine W_cf rfl ?_
                  refine W_skip ?_
                  refine T_n ?_
                  refine W_seq ?_
                  rcases Bool.eq_false_or_eq_true (decide (i = as_.length)) with hs36 | hs36
                  · have hdw : d = (e.2.1, e.2.2) := by rw [hde, if_neg (by omega)]
                    have hia := of_decide_eq_true hs36
                    rw [if_pos (by omega), hdw] at hxd
                    have hxp : y_.2.2 = e.2.2 := by rw [hxd]
                    have hx0 : y_.2.1.length = 0 := by rw [hxd]; rfl
                    have hsw : sl = e.2.1 := by rw [hsl, ← show i = (es.length + rs.length + 1) / 2 by omega, headK_at hd, hdw]
                    refine W_draw 41 [[], [], [0, 1], [0, 1, 2], [0, 1, 2, 3], [], [5], [0, 1, 2, 3, 4, 5, 6], [0, 1, 2, 3, 4, 5, 6, 7], [0, 1, 2, 3, 4, 5, 6, 7, 8], [0, 1, 2, 3, 4, 5, 6, 7, 8], [0, 1, 2, 3, 4, 5, 6, 7, 8, 10], [0, 1, 2, 3, 4, 5, 6, 7, 8, 9, 10, 11], [0, 1, 2, 3, 4, 5, 6, 7, 8, 9, 10, 11, 12], [0, 1, 2, 3, 4, 5, 6, 7, 8, 9, 10, 11, 12, 13], [0, 1, 2, 3, 4, 5, 6, 7, 8, 9, 10, 11, 12, 13], [0, 1, 2, 3, 4, 5, 6, 7, 8, 9, 10, 11, 12, 13, 14, 15], [0, 1, 2, 3, 4, 5, 6, 7, 8, 9, 10, 11, 12, 13, 14, 15, 16], [0, 1, 2, 3, 4, 5, 6, 7, 8, 9, 10, 11, 12, 13, 14, 15, 16, 17], [0, 1, 2, 3, 4, 5, 6, 7, 8, 9, 10, 11, 12, 13, 14, 15, 16, 17, 18], [0, 1, 2, 3, 4, 5, 6, 7, 8, 9, 10, 11, 12, 13], [0, 1, 2, 3, 4, 5, 6, 7, 8, 9, 10, 11, 12, 13, 20], [0, 1, 2, 3, 4, 5, 6, 7, 8, 9, 10, 11, 12, 13, 20, 21], [0, 1, 2, 3, 4, 5, 6, 7, 8, 9, 10, 11, 12, 13, 14, 15, 16, 17, 18, 19, 20, 21, 22], [0, 1, 2, 3, 4, 5, 6, 7, 8, 9, 10, 11, 12, 13, 14, 15, 16, 17, 18, 19, 20, 21, 22, 23], [0, 1, 2, 3, 4, 5, 6, 7, 8, 9, 10, 11, 12, 13, 14, 15, 16, 17, 18, 19, 20, 21, 22, 23, 24], [0, 1, 2, 3, 4, 5, 6, 7, 8, 9, 10, 11, 12, 13, 14, 15, 16, 17, 18, 19, 20, 21, 22, 23, 24, 25], [0, 1, 2, 3, 4, 5, 6, 7, 8, 9, 10, 11, 12, 13, 14, 15, 16, 17, 18, 19, 20, 21, 22, 23, 24, 25, 26], [0, 1, 2, 3, 4, 5, 6, 7, 8, 9, 10, 11, 12, 13, 14, 15, 16, 17, 18, 19, 20, 21, 22, 23, 24, 25, 26], [0, 1, 2, 3, 4, 5, 6, 7, 8, 9, 10, 11, 12, 13, 14, 15, 16, 17, 18, 19, 20, 21, 22, 23, 24, 25, 26, 28], [0, 1, 2, 3, 4, 5, 6, 7, 8, 9, 10, 11, 12, 13, 14, 15, 16, 17, 18, 19, 20, 21, 22, 23, 24, 25, 26, 27, 28, 29], [0, 1, 2, 3, 4, 5, 6, 7, 8, 9, 10, 11, 12, 13, 14, 15, 16, 17, 18, 19, 20, 21, 22, 23, 24, 25, 26, 27, 28, 29, 30], [0, 1, 2, 3, 4, 5, 6, 7, 8, 9, 10, 11, 12, 13, 14, 15, 16, 17, 18, 19, 20, 21, 22, 23, 24, 25, 26, 27, 28, 29, 30, 31], [0, 1, 2, 3, 4, 5, 6, 7, 8, 9, 10, 11, 12, 13, 14, 15, 16, 17, 18, 19, 20, 21, 22, 23, 24, 25, 26, 27, 28, 29, 30, 31, 32], [0, 1, 2, 3, 4, 5, 6, 7, 8, 9, 10, 11, 12, 13, 14, 15, 16, 17, 18, 19, 20, 21, 22, 23, 24, 25, 26, 27, 28, 29, 30, 31], [0, 1, 2, 3, 4, 5, 6, 7, 8, 9, 10, 11, 12, 13, 14, 15, 16, 17, 18, 19, 20, 21, 22, 23, 24, 25, 26, 27, 28, 29, 30, 31, 34], [0, 1, 2, 3, 4, 5, 6, 7, 8, 9, 10, 11, 12, 13, 14, 15, 16, 17, 18, 19, 20, 21, 22, 23, 24, 25, 26, 27, 28, 29, 30, 31, 34, 35], [0, 1, 2, 3, 4, 5, 6, 7, 8, 9, 10, 11, 12, 13, 14, 15, 16, 17, 18, 19, 20, 21, 22, 23, 24, 25, 26, 27, 28, 29, 30, 31, 32, 33, 34, 35, 36], [0, 1, 2, 3, 4, 5, 6, 7, 8, 9, 10, 11, 12, 13, 14, 15, 16, 17, 18, 19, 20, 21, 22, 23, 24, 25, 26, 27, 28, 29, 30, 31, 32, 33, 34, 35, 36, 37], [0, 1, 2, 3, 4, 5, 6, 7, 8, 9, 10, 11, 12, 13, 14, 15, 16, 17, 18, 19, 20, 21, 22, 23, 24, 25, 26, 27, 28, 29, 30, 31, 32, 33, 34, 35, 36, 37, 38], [0, 1, 2, 3, 4, 5, 6, 7, 8, 9, 10, 11, 12, 13, 14, 15, 16, 17, 18, 19, 20, 21, 22, 23, 24, 25, 26, 27, 28, 29, 30, 31, 32, 33, 34, 35, 36, 37, 38], [0, 1, 2, 3, 4, 5, 6, 7, 8, 9, 10, 11, 12, 13, 14, 15, 16, 17, 18, 19, 20, 21, 22, 23, 24, 25, 26, 27, 28, 29, 30, 31, 32, 33, 34, 35, 36, 37, 38, 39, 40], [0, 1, 2, 3, 4, 5, 6, 7, 8, 9, 10, 11, 12, 13, 14, 15, 16, 17, 18, 19, 20, 21, 22, 23, 24, 25, 26, 27, 28, 29, 30, 31, 32, 33, 34, 35, 36, 37, 38, 39, 40, 41], [0, 1, 2, 3, 4, 5, 6, 7, 8, 9, 10, 11, 12, 13, 14, 15, 16, 17, 18, 19, 20, 21, 22, 23, 24, 25, 26, 27, 28, 29, 30, 31, 32, 33, 34, 35, 36, 37, 38, 39, 40, 41, 42], [0, 1, 2, 3, 4, 5, 6, 7, 8, 9, 10, 11, 12, 13, 14, 15, 16, 17, 18, 19, 20, 21, 22, 23, 24, 25, 26, 27, 28, 29, 30, 31, 32, 33, 34, 35, 36, 37, 38, 39, 40, 41, 42, 43], [0, 1, 2, 3, 4, 5, 6, 7, 8, 9, 10, 11, 12, 13, 14, 15, 16, 17, 18, 19, 20, 21, 22, 23, 24, 25, 26, 27, 28, 29, 30, 31, 32, 33, 34, 35, 36, 37, 38, 39, 40, 41, 42, 43, 44], [0, 1, 2, 3, 4, 5, 6, 7, 8, 9, 10, 11, 12, 13, 14, 15, 16, 17, 18, 19, 20, 21, 22, 23, 24, 25, 26, 27, 28, 29, 30, 31, 32, 33, 34, 35, 36, 37, 38, 39, 40, 41, 42, 43, 44, 45], [0, 1, 2, 3, 4, 5, 6, 7, 8, 9, 10, 11, 12, 13, 14, 15, 16, 17, 18, 19, 20, 21, 22, 23, 24, 25, 26, 27, 28, 29, 30, 31, 32, 33, 34, 35, 36, 37, 38, 39, 40, 41, 42, 43, 44, 45, 46], [0, 1, 2, 3, 4, 5, 6, 7, 8, 9, 10, 11, 12, 13, 14, 15, 16, 17, 18, 19, 20, 21, 22, 23, 24, 25, 26, 27, 28, 29, 30, 31, 32, 33, 34, 35, 36, 37, 38, 39, 40, 41, 42, 43, 44, 45, 46, 47]] mixed (by kernel_rfl) ?_
                    refine ⟨.det (fun val => v5), ⟨fun _ _ hv => rfl, fun _ _ _ _ _ => trivial⟩, fun val h_ W hx he => ⟨trivial, ?_⟩, ?_⟩
                    · replace hx := (Upd.drew _ _).trans hx
                      replace hl := hl.ext hx
                      replace hr := hr.ext hx
                      replace hP := hP.ext hx
                      replace hs := hs.ext hx
                      replace hk := hk.ext hx
                      replace hB15 := hB15.ext hx
                      have hE := Upd.refl (fun _ => False) W
                      refine id (X_move (v := v5) rfl ?_)
                      exact ⟨hE, rfl⟩
                    refine ⟨.det (fun val => (.int .i64 (((i : Nat) : Int)))), ⟨fun _ _ hv => rfl, fun _ _ _ _ _ => trivial⟩, fun val h_ W hx he => ⟨trivial, ?_⟩, ?_⟩
                    · replace hx := (Upd.drew _ _).trans hx
                      replace hl := hl.ext hx
                      replace hr := hr.ext hx
                      replace hP := hP.ext hx
                      replace hs := hs.ext hx
                      replace hk := hk.ext hx
                      replace hB15 := hB15.ext hx
                      have hE := Upd.refl (fun _ => False) W
                      refine id (X_move (v := (.int .i64 (((i : Nat) : Int)))) rfl ?_)
                      exact ⟨hE, rfl⟩
                    refine ⟨.det (fun val => (pof v5 ((((i : Nat) : Int) : Int).toNat * 6))), ⟨fun _ _ hv => rfl, fun _ _ _ _ _ => trivial⟩, fun val h_ W hx he => ⟨trivial, ?_⟩, ?_⟩
                    · replace hx := (Upd.drew _ _).trans hx
                      replace hl := hl.ext hx
                      replace hr := hr.ext hx
                      replace hP := hP.ext hx
                      replace hs := hs.ext hx
                      replace hk := hk.ext hx
                      replace hB15 := hB15.ext hx
                      have hE := Upd.refl (fun _ => False) W
                      refine id (X_idx (v := v5) (n := (fs ++ bs).length) (k := .i64) (i := ((i : Nat) : Int)) S22 rfl hP.sv rfl (by omega) (by omega) ?_)
                      exact ⟨hE, rfl⟩
                    refine ⟨.det (fun val => (pof v5 ((((i : Nat) : Int) : Int).toNat * 6 + 1))), ⟨fun _ _ hv => rfl, fun _ _ _ _ _ => trivial⟩, fun val h_ W hx he => ⟨trivial, ?_⟩, ?_⟩
                    · replace hx := (Upd.drew _ _).trans hx
                      replace hl := hl.ext hx
                      replace hr := hr.ext hx
                      replace hP := hP.ext hx
                      replace hs := hs.ext hx
                      replace hk := hk.ext hx
                      replace hB15 := hB15.ext hx
                      have hE := Upd.refl (fun _ => False) W
                      refine id (X_fldS (v := v5) (o := (((i : Nat) : Int) : Int).toNat * 6) Fd39_1 rfl hP.sv (by omega) ?_)
                      exact ⟨hE, rfl⟩
                    refine ⟨.det (fun val => (.agg (ptC y_.2.2).toArray)), ⟨fun _ _ hv => rfl, fun _ _ _ _ _ => trivial⟩, fun val h_ W hx he => ⟨trivial, ?_⟩, ?_⟩
                    · replace hx := (Upd.drew _ _).trans hx
                      replace hl := hl.ext hx
                      replace hr := hr.ext hx
                      replace hP := hP.ext hx
                      replace hs := hs.ext hx
                      replace hk := hk.ext hx
                      replace hB15 := hB15.ext hx
                      have hE := Upd.refl (fun _ => False) W
                      refine id (X_loadA (xs := ptC y_.2.2) A37 rfl (kptr hP (Int.toNat_natCast _) hy_) rfl ?_)
                      exact ⟨hE, rfl⟩
                    refine ⟨.det (fun val => (ptr b15 (1))), ⟨fun _ _ hv => rfl, fun _ _ _ _ _ => trivial⟩, fun val h_ W hx he => ⟨trivial, ?_⟩, ?_⟩
                    · replace hx := (Upd.drew _ _).trans hx
                      replace hl := hl.ext hx
                      replace hr := hr.ext hx
                      replace hP := hP.ext hx
                      replace hs := hs.ext hx
                      replace hk := hk.ext hx
                      replace hB15 := hB15.ext hx
                      have hE := Upd.refl (fun _ => False) W
                      refine id (X_fldP (b := b15) (o := 0) (r := 1) Fd39_1 rfl rfl ?_)
                      exact ⟨hE, rfl⟩
                    refine ⟨.det (fun val => (.agg (ptC e.2.2).toArray)), ⟨fun _ _ hv => rfl, fun _ _ _ _ _ => trivial⟩, fun val h_ W hx he => ⟨trivial, ?_⟩, ?_⟩
                    · replace hx := (Upd.drew _ _).trans hx
                      replace hl := hl.ext hx
                      replace hr := hr.ext hx
                      replace hP := hP.ext hx
                      replace hs := hs.ext hx
                      replace hk := hk.ext hx
                      replace hB15 := hB15.ext hx
                      have hE := Upd.refl (fun _ => False) W
                      refine id (X_loadA (xs := ptC e.2.2) A37 rfl (hB15.at_ 1 (ptC e.2.2) (fun j u hj => by rw [Nat.add_comm]; simpa using hj)) rfl ?_)
                      exact ⟨hE, rfl⟩
                    refine ⟨.det (fun val => (.bool (false))), ⟨fun _ _ hv => rfl, fun _ _ _ _ _ => trivial⟩, fun val h_ W hx he => ⟨trivial, ?_⟩, ?_⟩
                    · replace hx := (Upd.drew _ _).trans hx
                      replace hl := hl.ext hx
                      replace hr := hr.ext hx
                      replace hP := hP.ext hx
                      replace hs := hs.ext hx
                      replace hk := hk.ext hx
                      replace hB15 := hB15.ext hx
                      have hE := Upd.refl (fun _ => False) W
                      refine id (X_eqP (p := y_.2.2) (q := e.2.2) (r := false) Try.underlying37 u37 (by kernel_rfl) (by decide) ⟨rfl, rfl, rfl, rfl⟩ Try.underlying5 Try.underlying33 (by kernel_rfl) Try.underlying32 (ie := _) rfl (by kernel_rfl) Try.underlying34 Try.underlying35 (by kernel_rfl) rfl rfl (.inr ⟨rfl, by rw [hxp, beq_self_eq_true]; rfl⟩) ?_)
                      exact ⟨hE, rfl⟩
                    refine ⟨.det (fun val => (.bool (false))), ⟨fun _ _ hv => rfl, fun _ _ _ _ _ => trivial⟩, fun val h_ W hx he => ⟨trivial, ?_⟩, ?_⟩
                    · replace hx := (Upd.drew _ _).trans hx
                      replace hl := hl.ext hx
                      replace hr := hr.ext hx
                      replace hP := hP.ext hx
                      replace hs := hs.ext hx
                      replace hk := hk.ext hx
                      replace hB15 := hB15.ext hx
                      have hE := Upd.refl (fun _ => False) W
                      refine id (X_move (v := (.bool (false))) rfl ?_)
                      exact ⟨hE, rfl⟩
                    refine ⟨.det (fun val => (.int .i64 (((i : Nat) : Int)))), ⟨fun _ _ hv => rfl, fun _ _ _ _ _ => trivial⟩, fun val h_ W hx he => ⟨⟨101, rfl, rfl⟩, ?_⟩, ?_⟩
                    · replace hx := (Upd.drew _ _).trans hx
                      replace hl := hl.ext hx
                      replace hr := hr.ext hx
                      replace hP := hP.ext hx
                      replace hs := hs.ext hx
                      replace hk := hk.ext hx
                      replace hB15 := hB15.ext hx
                      have hE := Upd.refl (fun _ => False) W
                      refine id (X_move (v := (.int .i64 (((i : Nat) : Int)))) rfl ?_)
                      exact ⟨hE, rfl⟩
                    refine ⟨.det (fun val => a), ⟨fun _ _ hv => rfl, fun _ _ _ _ _ => trivial⟩, fun val h_ W hx he => ⟨⟨101, rfl, rfl⟩, ?_⟩, ?_⟩
                    · replace hx := (Upd.drew _ _).trans hx
                      replace hl := hl.ext hx
                      replace hr := hr.ext hx
                      replace hP := hP.ext hx
                      replace hs := hs.ext hx
                      replace hk := hk.ext hx
                      replace hB15 := hB15.ext hx
                      have hE := Upd.refl (fun _ => False) W
                      refine id (X_move (v := a) rfl ?_)
                      exact ⟨hE, rfl⟩
                    refine ⟨.det (fun val => (.int .i64 (((as_.length : Nat) : Int)))), ⟨fun _ _ hv => rfl, fun _ _ _ _ _ => trivial⟩, fun val h_ W hx he => ⟨⟨101, rfl, rfl⟩, ?_⟩, ?_⟩
                    · replace hx := (Upd.drew _ _).trans hx
                      replace hl := hl.ext hx
                      replace hr := hr.ext hx
                      replace hP := hP.ext hx
                      replace hs := hs.ext hx
                      replace hk := hk.ext hx
                      replace hB15 := hB15.ext hx
                      have hE := Upd.refl (fun _ => False) W
                      refine id (X_len (v := a) (n := as_.length) Try.underlying22 rfl hsv_a ?_)
                      exact ⟨hE, rfl⟩
                    refine ⟨.det (fun val => (.bool (false))), ⟨fun _ _ hv => rfl, fun _ _ _ _ _ => trivial⟩, fun val h_ W hx he => ⟨⟨101, rfl, rfl⟩, ?_⟩, ?_⟩
                    · replace hx := (Upd.drew _ _).trans hx
                      replace hl := hl.ext hx
                      replace hr := hr.ext hx
                      replace hP := hP.ext hx
                      replace hs := hs.ext hx
                      replace hk := hk.ext hx
                      replace hB15 := hB15.ext hx
                      have hE := Upd.refl (fun _ => False) W
                      refine id (X_cmp (k := .i64) (a := ((i : Nat) : Int)) (b := ((as_.length : Nat) : Int)) (r := false) rfl rfl rfl (decide_eq_false (p := (((i : Nat) : Int) ≠ ((as_.length : Nat) : Int))) (by omega)) ?_)
                      exact ⟨hE, rfl⟩
                    refine ⟨.det (fun val => (.bool (false))), ⟨fun _ _ hv => rfl, fun _ _ _ _ _ => trivial⟩, fun val h_ W hx he => ⟨⟨101, rfl, rfl⟩, ?_⟩, ?_⟩
                    · replace hx := (Upd.drew _ _).trans hx
                      replace hl := hl.ext hx
                      replace hr := hr.ext hx
                      replace hP := hP.ext hx
                      replace hs := hs.ext hx
                      replace hk := hk.ext hx
                      replace hB15 := hB15.ext hx
                      have hE := Upd.refl (fun _ => False) W
                      refine id (X_move (v := (.bool (false))) rfl ?_)
                      exact ⟨hE, rfl⟩
                    refine ⟨.no, ⟨fun _ _ _ => trivial, fun _ _ _ _ _ => trivial⟩, fun val h_ W hx he => ⟨106, rfl, .inl rfl⟩, ?_⟩
                    refine ⟨.no, ⟨fun _ _ _ => trivial, fun _ _ _ _ _ => trivial⟩, fun val h_ W hx he => ⟨106, rfl, .inl rfl⟩, ?_⟩
                    refine ⟨.no, ⟨fun _ _ _ => trivial, fun _ _ _ _ _ => trivial⟩, fun val h_ W hx he => ⟨106, rfl, .inl rfl⟩, ?_⟩
                    refine ⟨.no, ⟨fun _ _ _ => trivial, fun _ _ _ _ _ => trivial⟩, fun val h_ W hx he => ⟨106, rfl, .inl rfl⟩, ?_⟩
                    refine ⟨.no, ⟨fun _ _ _ => trivial, fun _ _ _ _ _ => trivial⟩, fun val h_ W hx he => ⟨106, rfl, .inl rfl⟩, ?_⟩
                    refine ⟨.no, ⟨fun _ _ _ => trivial, fun _ _ _ _ _ => trivial⟩, fun val h_ W hx he => ⟨106, rfl, .inl rfl⟩, ?_⟩
                    refine ⟨.no, ⟨fun _ _ _ => trivial, fun _ _ _ _ _ => trivial⟩, fun val h_ W hx he => ⟨106, rfl, .inl rfl⟩, ?_⟩
                    refine ⟨.no, ⟨fun _ _ _ => trivial, fun _ _ _ _ _ => trivial⟩, fun val h_ W hx he => ⟨106, rfl, .inl rfl⟩, ?_⟩
                    refine ⟨.no, ⟨fun _ _ _ => trivial, fun _ _ _ _ _ => trivial⟩, fun val h_ W hx he => ⟨106, rfl, .inl rfl⟩, ?_⟩
                    refine ⟨.no, ⟨fun _ _ _ => trivial, fun _ _ _ _ _ => trivial⟩, fun val h_ W hx he => ⟨106, rfl, .inl rfl⟩, ?_⟩
                    refine ⟨.det (fun val => (.bool (false))), ⟨fun _ _ hv => rfl, fun _ _ _ _ _ => trivial⟩, fun val h_ W hx he => ⟨⟨101, rfl, rfl⟩, ?_⟩, ?_⟩
                    · replace hx := (Upd.drew _ _).trans hx
                      replace hl := hl.ext hx
                      replace hr := hr.ext hx
                      replace hP := hP.ext hx
                      replace hs := hs.ext hx
                      replace hk := hk.ext hx
                      replace hB15 := hB15.ext hx
                      have hE := Upd.refl (fun _ => False) W
                      refine id (X_pick (t := false) (v := (.bool (false))) rfl rfl ?_)
                      exact ⟨hE, rfl⟩
                    refine ⟨.det (fun val => (.bool (false))), ⟨fun _ _ hv => rfl, fun _ _ _ _ _ => trivial⟩, fun val h_ W hx he => ⟨trivial, ?_⟩, ?_⟩
                    · replace hx := (Upd.drew _ _).trans hx
                      replace hl := hl.ext hx
                      replace hr := hr.ext hx
                      replace hP := hP.ext hx
                      replace hs := hs.ext hx
                      replace hk := hk.ext hx
                      replace hB15 := hB15.ext hx
                      have hE := Upd.refl (fun _ => False) W
                      refine id (X_pick (t := false) (v := (.bool (false))) rfl rfl ?_)
                      exact ⟨hE, rfl⟩
                    refine ⟨.det (fun val => (.bool (false))), ⟨fun _ _ hv => rfl, fun _ _ _ _ _ => trivial⟩, fun val h_ W hx he => ⟨trivial, ?_⟩, ?_⟩
                    · replace hx := (Upd.drew _ _).trans hx
                      replace hl := hl.ext hx
                      replace hr := hr.ext hx
                      replace hP := hP.ext hx
                      replace hs := hs.ext hx
                      replace hk := hk.ext hx
                      replace hB15 := hB15.ext hx
                      have hE := Upd.refl (fun _ => False) W
                      refine id (X_move (v := (.bool (false))) rfl ?_)
                      exact ⟨hE, rfl⟩
                    refine ⟨.det (fun val => (.int .i64 (((i : Nat) : Int)))), ⟨fun _ _ hv => rfl, fun _ _ _ _ _ => trivial⟩, fun val h_ W hx he => ⟨⟨119, rfl, rfl⟩, ?_⟩, ?_⟩
                    · replace hx := (Upd.drew _ _).trans hx
                      replace hl := hl.ext hx
                      replace hr := hr.ext hx
                      replace hP := hP.ext hx
                      replace hs := hs.ext hx
                      replace hk := hk.ext hx
                      replace hB15 := hB15.ext hx
                      have hE := Upd.refl (fun _ => False) W
                      refine id (X_move (v := (.int .i64 (((i : Nat) : Int)))) rfl ?_)
                      exact ⟨hE, rfl⟩
                    refine ⟨.det (fun val => a), ⟨fun _ _ hv => rfl, fun _ _ _ _ _ => trivial⟩, fun val h_ W hx he => ⟨⟨119, rfl, rfl⟩, ?_⟩, ?_⟩
                    · replace hx := (Upd.drew _ _).trans hx
                      replace hl := hl.ext hx
                      replace hr := hr.ext hx
                      replace hP := hP.ext hx
                      replace hs := hs.ext hx
                      replace hk := hk.ext hx
                      replace hB15 := hB15.ext hx
                      have hE := Upd.refl (fun _ => False) W
                      refine id (X_move (v := a) rfl ?_)
                      exact ⟨hE, rfl⟩
                    refine ⟨.det (fun val => (.int .i64 (((as_.length : Nat) : Int)))), ⟨fun _ _ hv => rfl, fun _ _ _ _ _ => trivial⟩, fun val h_ W hx he => ⟨⟨119, rfl, rfl⟩, ?_⟩, ?_⟩
                    · replace hx := (Upd.drew _ _).trans hx
                      replace hl := hl.ext hx
                      replace hr := hr.ext hx
                      replace hP := hP.ext hx
                      replace hs := hs.ext hx
                      replace hk := hk.ext hx
                      replace hB15 := hB15.ext hx
                      have hE := Upd.refl (fun _ => False) W
                      refine id (X_len (v := a) (n := as_.length) Try.underlying22 rfl hsv_a ?_)
                      exact ⟨hE, rfl⟩
                    refine ⟨.det (fun val => (.bool (true))), ⟨fun _ _ hv => rfl, fun _ _ _ _ _ => trivial⟩, fun val h_ W hx he => ⟨⟨119, rfl, rfl⟩, ?_⟩, ?_⟩
                    · replace hx := (Upd.drew _ _).trans hx
                      replace hl := hl.ext hx
                      replace hr := hr.ext hx
                      replace hP := hP.ext hx
                      replace hs := hs.ext hx
                      replace hk := hk.ext hx
                      replace hB15 := hB15.ext hx
                      have hE := Upd.refl (fun _ => False) W
                      refine id (X_cmp (k := .i64) (a := ((i : Nat) : Int)) (b := ((as_.length : Nat) : Int)) (r := true) rfl rfl rfl (decide_eq_true (p := (((i : Nat) : Int) = ((as_.length : Nat) : Int))) (by omega)) ?_)
                      exact ⟨hE, rfl⟩
                    refine ⟨.det (fun val => (.bool (true))), ⟨fun _ _ hv => rfl, fun _ _ _ _ _ => trivial⟩, fun val h_ W hx he => ⟨⟨119, rfl, rfl⟩, ?_⟩, ?_⟩
                    · replace hx := (Upd.drew _ _).trans hx
                      replace hl := hl.ext hx
                      replace hr := hr.ext hx
                      replace hP := hP.ext hx
                      replace hs := hs.ext hx
                      replace hk := hk.ext hx
                      replace hB15 := hB15.ext hx
                      have hE := Upd.refl (fun _ => False) W
                      refine id (X_move (v := (.bool (true))) rfl ?_)
                      exact ⟨hE, rfl⟩
                    refine ⟨.det (fun val => s), ⟨fun _ _ hv => rfl, fun _ _ _ _ _ => trivial⟩, fun val h_ W hx he => ⟨⟨124, rfl, rfl⟩, ?_⟩, ?_⟩
                    · replace hx := (Upd.drew _ _).trans hx
                      replace hl := hl.ext hx
                      replace hr := hr.ext hx
                      replace hP := hP.ext hx
                      replace hs := hs.ext hx
                      replace hk := hk.ext hx
                      replace hB15 := hB15.ext hx
                      have hE := Upd.refl (fun _ => False) W
                      refine id (X_move (v := s) rfl ?_)
                      exact ⟨hE, rfl⟩
                    refine ⟨.det (fun val => (strV (sl))), ⟨fun _ _ hv => rfl, fun _ _ _ _ _ => trivial⟩, fun val h_ W hx he => ⟨⟨124, rfl, rfl⟩, ?_⟩, ?_⟩
                    · replace hx := (Upd.drew _ _).trans hx
                      replace hl := hl.ext hx
                      replace hr := hr.ext hx
                      replace hP := hP.ext hx
                      replace hs := hs.ext hx
                      replace hk := hk.ext hx
                      replace hB15 := hB15.ext hx
                      have hE := Upd.refl (fun _ => False) W
                      refine id (X_str (v := s) (l := sl) Try.underlying23 Try.underlying5 Try.underlying9 rfl hs.1 ?_)
                      exact ⟨hE, rfl⟩
                    refine ⟨.det (fun val => (ptr b15 (0))), ⟨fun _ _ hv => rfl, fun _ _ _ _ _ => trivial⟩, fun val h_ W hx he => ⟨⟨124, rfl, rfl⟩, ?_⟩, ?_⟩
                    · replace hx := (Upd.drew _ _).trans hx
                      replace hl := hl.ext hx
                      replace hr := hr.ext hx
                      replace hP := hP.ext hx
                      replace hs := hs.ext hx
                      replace hk := hk.ext hx
                      replace hB15 := hB15.ext hx
                      have hE := Upd.refl (fun _ => False) W
                      refine id (X_fldP (b := b15) (o := 0) (r := 0) Fd39_0 rfl rfl ?_)
                      exact ⟨hE, rfl⟩
                    refine ⟨.det (fun val => e.1), ⟨fun _ _ hv => rfl, fun _ _ _ _ _ => trivial⟩, fun val h_ W hx he => ⟨⟨124, rfl, rfl⟩, ?_⟩, ?_⟩
                    · replace hx := (Upd.drew _ _).trans hx
                      replace hl := hl.ext hx
                      replace hr := hr.ext hx
                      replace hP := hP.ext hx
                      replace hs := hs.ext hx
                      replace hk := hk.ext hx
                      replace hB15 := hB15.ext hx
                      have hE := Upd.refl (fun _ => False) W
                      refine id (X_load (p := (ptr b15 (0))) (v := e.1) T23 rfl (hB15.at1 rfl) ?_)
                      exact ⟨hE, rfl⟩
                    refine ⟨.det (fun val => (strV (e.2.1))), ⟨fun _ _ hv => rfl, fun _ _ _ _ _ => trivial⟩, fun val h_ W hx he => ⟨⟨124, rfl, rfl⟩, ?_⟩, ?_⟩
                    · replace hx := (Upd.drew _ _).trans hx
                      replace hl := hl.ext hx
                      replace hr := hr.ext hx
                      replace hP := hP.ext hx
                      replace hs := hs.ext hx
                      replace hk := hk.ext hx
                      replace hB15 := hB15.ext hx
                      have hE := Upd.refl (fun _ => False) W
                      refine id (X_str (v := e.1) (l := e.2.1) Try.underlying23 Try.underlying5 Try.underlying9 rfl (krd hr hee) ?_)
                      exact ⟨hE, rfl⟩
                    refine ⟨.det (fun val => (.bool (false))), ⟨fun _ _ hv => rfl, fun _ _ _ _ _ => trivial⟩, fun val h_ W hx he => ⟨⟨124, rfl, rfl⟩, ?_⟩, ?_⟩
                    · replace hx := (Upd.drew _ _).trans hx
                      replace hl := hl.ext hx
                      replace hr := hr.ext hx
                      replace hP := hP.ext hx
                      replace hs := hs.ext hx
                      replace hk := hk.ext hx
                      replace hB15 := hB15.ext hx
                      have hE := Upd.refl (fun _ => False) W
                      refine id (X_scmp (a := sl) (b := e.2.1) (r := false) rfl rfl rfl (by show (!(sl == e.2.1)) = false; rw [hsw, beq_self_eq_true]; rfl) ?_)
                      exact ⟨hE, rfl⟩
                    refine ⟨.det (fun val => (.bool (false))), ⟨fun _ _ hv => rfl, fun _ _ _ _ _ => trivial⟩, fun val h_ W hx he => ⟨⟨124, rfl, rfl⟩, ?_⟩, ?_⟩
                    · replace hx := (Upd.drew _ _).trans hx
                      replace hl := hl.ext hx
                      replace hr := hr.ext hx
                      replace hP := hP.ext hx
                      replace hs := hs.ext hx
                      replace hk := hk.ext hx
                      replace hB15 := hB15.ext hx
                      have hE := Upd.refl (fun _ => False) W
                      refine id (X_move (v := (.bool (false))) rfl ?_)
                      exact ⟨hE, rfl⟩
                    refine ⟨.det (fun val => v5), ⟨fun _ _ hv => rfl, fun _ _ _ _ _ => trivial⟩, fun val h_ W hx he => ⟨⟨131, rfl, rfl⟩, ?_⟩, ?_⟩
                    · replace hx := (Upd.drew _ _).trans hx
                      replace hl := hl.ext hx
                      replace hr := hr.ext hx
                      replace hP := hP.ext hx
                      replace hs := hs.ext hx
                      replace hk := hk.ext hx
                      replace hB15 := hB15.ext hx
                      have hE := Upd.refl (fun _ => False) W
                      refine id (X_move (v := v5) rfl ?_)
                      exact ⟨hE, rfl⟩
                    refine ⟨.det (fun val => (.int .i64 (((i : Nat) : Int)))), ⟨fun _ _ hv => rfl, fun _ _ _ _ _ => trivial⟩, fun val h_ W hx he => ⟨⟨131, rfl, rfl⟩, ?_⟩, ?_⟩
                    · replace hx := (Upd.drew _ _).trans hx
                      replace hl := hl.ext hx
                      replace hr := hr.ext hx
                      replace hP := hP.ext hx
                      replace hs := hs.ext hx
                      replace hk := hk.ext hx
                      replace hB15 := hB15.ext hx
                      have hE := Upd.refl (fun _ => False) W
                      refine id (X_move (v := (.int .i64 (((i : Nat) : Int)))) rfl ?_)
                      exact ⟨hE, rfl⟩
                    intro val W37 hx37 he37
                    replace hx37 := (Upd.drew _ _).trans hx37
                    have hz37 := hx37.size
                    replace hl := hl.ext hx37
                    replace hr := hr.ext hx37
                    replace hP := hP.ext hx37
                    replace hs := hs.ext hx37
                    replace hk := hk.ext hx37
                    replace hU := hU.trans (Ext.upd hx37)
                    replace hB15 := hB15.ext hx37
                    refine L_gy (dj := 131) rfl rfl rfl (X_idx (v := v5) (n := (fs ++ bs).length) (k := .i64) (i := ((i : Nat) : Int)) S22 rfl hP.sv rfl (by omega) (by omega) ?_)
                    refine L_gy (dj := 131) rfl rfl rfl (X_fldS (v := v5) (o := (((i : Nat) : Int) : Int).toNat * 6) Fd39_0 rfl hP.sv (by omega) ?_)
                    refine L_gy (dj := 131) rfl rfl rfl (X_load (v := y_.1) T23 rfl (kkey hP (Int.toNat_natCast _) hy_) ?_)
                    refine L_gy (dj := 131) rfl rfl rfl (X_len (v := y_.1) (n := y_.2.1.length) Try.underlying23 rfl (krd hP hy_).sv ?_)
                    refine L_gy (dj := 131) rfl rfl rfl (X_cmp (k := .i64) (a := ((y_.2.1.length : Nat) : Int)) (b := 0) (r := false) rfl rfl rfl (decide_eq_false (p := ((((y_.2.1.length : Nat) : Int)) : Int) ≠ ((0) : Int)) (by omega)) ?_)
                    refine L_gy (dj := 124) rfl rfl rfl (X_pick (t := false) (v := (.bool (false))) rfl rfl ?_)
                    refine L_gy (dj := 119) rfl rfl rfl (X_pick (t := true) (v := (.bool (false))) rfl rfl ?_)
                    refine L_op rfl (X_pick (t := false) (v := (.bool (false))) rfl rfl ?_)
                    refine L_nil ?_
                    refine T_n ?_
                    refine W_cf rfl ?_
                    refine W_skip ?_
                    refine B_n ?_
                    refine T_n ?_
                    refine W_reg ?_
                    refine L_op rfl (X_move (v := (.int .i64 (((i : Nat) : Int)))) rfl ?_)
                    refine L_op rfl (X_arith (k := .i64) (a := ((i : Nat) : Int)) (b := 1) (r := ((i + 1 : Nat) : Int)) rfl rfl rfl (iadd64 (by omega) (by omega) (by omega)) ?_)
                    refine L_op rfl (X_assign (v := (.int .i64 (((i + 1 : Nat) : Int)))) rfl ?_)
                    refine L_nil ?_
                    refine T_n ?_
                    exact ⟨rfl, i + 1, ⟨⟨hi, hl, hr, hP, hs, hk, hU, by omega⟩, (by show es.length + rs.length - (i + 1) < es.length + rs.length - i; omega)⟩, (Out.mk rfl), ⟨rfl, trivial⟩⟩
                  · have hdw : d = (e.2.1, e.2.2) := by rw [hde, if_neg (by omega)]
                    have hia := of_decide_eq_false hs36
                    rw [if_neg (by omega), hdw] at hxd
                    have hxp : y_.2.2 = e.2.2 := by rw [hxd]
                    have hxk : y_.2.1 = e.2.1 := by rw [hxd]
                    refine W_draw 41 [[], [], [0, 1], [0, 1, 2], [0, 1, 2, 3], [], [5], [0, 1, 2, 3, 4, 5, 6], [0, 1, 2, 3, 4, 5, 6, 7], [0, 1, 2, 3, 4, 5, 6, 7, 8], [0, 1, 2, 3, 4, 5, 6, 7, 8], [0, 1, 2, 3, 4, 5, 6, 7, 8, 10], [0, 1, 2, 3, 4, 5, 6, 7, 8, 9, 10, 11], [0, 1, 2, 3, 4, 5, 6, 7, 8, 9, 10, 11, 12], [0, 1, 2, 3, 4, 5, 6, 7, 8, 9, 10, 11, 12, 13], [0, 1, 2, 3, 4, 5, 6, 7, 8, 9, 10, 11, 12, 13], [0, 1, 2, 3, 4, 5, 6, 7, 8, 9, 10, 11, 12, 13, 14, 15], [0, 1, 2, 3, 4, 5, 6, 7, 8, 9, 10, 11, 12, 13, 14, 15, 16], [0, 1, 2, 3, 4, 5, 6, 7, 8, 9, 10, 11, 12, 13, 14, 15, 16, 17], [0, 1, 2, 3, 4, 5, 6, 7, 8, 9, 10, 11, 12, 13, 14, 15, 16, 17, 18], [0, 1, 2, 3, 4, 5, 6, 7, 8, 9, 10, 11, 12, 13], [0, 1, 2, 3, 4, 5, 6, 7, 8, 9, 10, 11, 12, 13, 20], [0, 1, 2, 3, 4, 5, 6, 7, 8, 9, 10, 11, 12, 13, 20, 21], [0, 1, 2, 3, 4, 5, 6, 7, 8, 9, 10, 11, 12, 13, 14, 15, 16, 17, 18, 19, 20, 21, 22], [0, 1, 2, 3, 4, 5, 6, 7, 8, 9, 10, 11, 12, 13, 14, 15, 16, 17, 18, 19, 20, 21, 22, 23], [0, 1, 2, 3, 4, 5, 6, 7, 8, 9, 10, 11, 12, 13, 14, 15, 16, 17, 18, 19, 20, 21, 22, 23, 24], [0, 1, 2, 3, 4, 5, 6, 7, 8, 9, 10, 11, 12, 13, 14, 15, 16, 17, 18, 19, 20, 21, 22, 23, 24, 25], [0, 1, 2, 3, 4, 5, 6, 7, 8, 9, 10, 11, 12, 13, 14, 15, 16, 17, 18, 19, 20, 21, 22, 23, 24, 25, 26], [0, 1, 2, 3, 4, 5, 6, 7, 8, 9, 10, 11, 12, 13, 14, 15, 16, 17, 18, 19, 20, 21, 22, 23, 24, 25, 26], [0, 1, 2, 3, 4, 5, 6, 7, 8, 9, 10, 11, 12, 13, 14, 15, 16, 17, 18, 19, 20, 21, 22, 23, 24, 25, 26, 28], [0, 1, 2, 3, 4, 5, 6, 7, 8, 9, 10, 11, 12, 13, 14, 15, 16, 17, 18, 19, 20, 21, 22, 23, 24, 25, 26, 27, 28, 29], [0, 1, 2, 3, 4, 5, 6, 7, 8, 9, 10, 11, 12, 13, 14, 15, 16, 17, 18, 19, 20, 21, 22, 23, 24, 25, 26, 27, 28, 29, 30], [0, 1, 2, 3, 4, 5, 6, 7, 8, 9, 10, 11, 12, 13, 14, 15, 16, 17, 18, 19, 20, 21, 22, 23, 24, 25, 26, 27, 28, 29, 30, 31], [0, 1, 2, 3, 4, 5, 6, 7, 8, 9, 10, 11, 12, 13, 14, 15, 16, 17, 18, 19, 20, 21, 22, 23, 24, 25, 26, 27, 28, 29, 30, 31, 32], [0, 1, 2, 3, 4, 5, 6, 7, 8, 9, 10, 11, 12, 13, 14, 15, 16, 17, 18, 19, 20, 21, 22, 23, 24, 25, 26, 27, 28, 29, 30, 31], [0, 1, 2, 3, 4, 5, 6, 7, 8, 9, 10, 11, 12, 13, 14, 15, 16, 17, 18, 19, 20, 21, 22, 23, 24, 25, 26, 27, 28, 29, 30, 31, 34], [0, 1, 2, 3, 4, 5, 6, 7, 8, 9, 10, 11, 12, 13, 14, 15, 16, 17, 18, 19, 20, 21, 22, 23, 24, 25, 26, 27, 28, 29, 30, 31, 34, 35], [0, 1, 2, 3, 4, 5, 6, 7, 8, 9, 10, 11, 12, 13, 14, 15, 16, 17, 18, 19, 20, 21, 22, 23, 24, 25, 26, 27, 28, 29, 30, 31, 32, 33, 34, 35, 36], [0, 1, 2, 3, 4, 5, 6, 7, 8, 9, 10, 11, 12, 13, 14, 15, 16, 17, 18, 19, 20, 21, 22, 23, 24, 25, 26, 27, 28, 29, 30, 31, 32, 33, 34, 35, 36, 37], [0, 1, 2, 3, 4, 5, 6, 7, 8, 9, 10, 11, 12, 13, 14, 15, 16, 17, 18, 19, 20, 21, 22, 23, 24, 25, 26, 27, 28, 29, 30, 31, 32, 33, 34, 35, 36, 37, 38], [0, 1, 2, 3, 4, 5, 6, 7, 8, 9, 10, 11, 12, 13, 14, 15, 16, 17, 18, 19, 20, 21, 22, 23, 24, 25, 26, 27, 28, 29, 30, 31, 32, 33, 34, 35, 36, 37, 38], [0, 1, 2, 3, 4, 5, 6, 7, 8, 9, 10, 11, 12, 13, 14, 15, 16, 17, 18, 19, 20, 21, 22, 23, 24, 25, 26, 27, 28, 29, 30, 31, 32, 33, 34, 35, 36, 37, 38, 39, 40], [0, 1, 2, 3, 4, 5, 6, 7, 8, 9, 10, 11, 12, 13, 14, 15, 16, 17, 18, 19, 20, 21, 22, 23, 24, 25, 26, 27, 28, 29, 30, 31, 32, 33, 34, 35, 36, 37, 38, 39, 40, 41], [0, 1, 2, 3, 4, 5, 6, 7, 8, 9, 10, 11, 12, 13, 14, 15, 16, 17, 18, 19, 20, 21, 22, 23, 24, 25, 26, 27, 28, 29, 30, 31, 32, 33, 34, 35, 36, 37, 38, 39, 40, 41, 42], [0, 1, 2, 3, 4, 5, 6, 7, 8, 9, 10, 11, 12, 13, 14, 15, 16, 17, 18, 19, 20, 21, 22, 23, 24, 25, 26, 27, 28, 29, 30, 31, 32, 33, 34, 35, 36, 37, 38, 39, 40, 41, 42, 43], [0, 1, 2, 3, 4, 5, 6, 7, 8, 9, 10, 11, 12, 13, 14, 15, 16, 17, 18, 19, 20, 21, 22, 23, 24, 25, 26, 27, 28, 29, 30, 31, 32, 33, 34, 35, 36, 37, 38, 39, 40, 41, 42, 43, 44], [0, 1, 2, 3, 4, 5, 6, 7, 8, 9, 10, 11, 12, 13, 14, 15, 16, 17, 18, 19, 20, 21, 22, 23, 24, 25, 26, 27, 28, 29, 30, 31, 32, 33, 34, 35, 36, 37, 38, 39, 40, 41, 42, 43, 44, 45], [0, 1, 2, 3, 4, 5, 6, 7, 8, 9, 10, 11, 12, 13, 14, 15, 16, 17, 18, 19, 20, 21, 22, 23, 24, 25, 26, 27, 28, 29, 30, 31, 32, 33, 34, 35, 36, 37, 38, 39, 40, 41, 42, 43, 44, 45, 46], [0, 1, 2, 3, 4, 5, 6, 7, 8, 9, 10, 11, 12, 13, 14, 15, 16, 17, 18, 19, 20, 21, 22, 23, 24, 25, 26, 27, 28, 29, 30, 31, 32, 33, 34, 35, 36, 37, 38, 39, 40, 41, 42, 43, 44, 45, 46, 47]] mixed (by kernel_rfl) ?_
                    refine ⟨.det (fun val => v5), ⟨fun _ _ hv => rfl, fun _ _ _ _ _ => trivial⟩, fun val h_ W hx he => ⟨trivial, ?_⟩, ?_⟩
                    · replace hx := (Upd.drew _ _).trans hx
                      replace hl := hl.ext hx
                      replace hr := hr.ext hx
                      replace hP := hP.ext hx
                      replace hs := hs.ext hx
                      replace hk := hk.ext hx
                      replace hB15 := hB15.ext hx
                      have hE := Upd.refl (fun _ => False) W
                      refine id (X_move (v := v5) rfl ?_)
                      exact ⟨hE, rfl⟩
                    refine ⟨.det (fun val => (.int .i64 (((i : Nat) : Int)))), ⟨fun _ _ hv => rfl, fun _ _ _ _ _ => trivial⟩, fun val h_ W hx he => ⟨trivial, ?_⟩, ?_⟩
                    · replace hx := (Upd.drew _ _).trans hx
                      replace hl := hl.ext hx
                      replace hr := hr.ext hx
                      replace hP := hP.ext hx
                      replace hs := hs.ext hx
                      replace hk := hk.ext hx
                      replace hB15 := hB15.ext hx
                      have hE := Upd.refl (fun _ => False) W
                      refine id (X_move (v := (.int .i64 (((i : Nat) : Int)))) rfl ?_)
                      exact ⟨hE, rfl⟩
                    refine ⟨.det (fun val => (pof v5 ((((i : Nat) : Int) : Int).toNat * 6))), ⟨fun _ _ hv => rfl, fun _ _ _ _ _ => trivial⟩, fun val h_ W hx he => ⟨trivial, ?_⟩, ?_⟩
                    · replace hx := (Upd.drew _ _).trans hx
                      replace hl := hl.ext hx
                      replace hr := hr.ext hx
                      replace hP := hP.ext hx
                      replace hs := hs.ext hx
                      replace hk := hk.ext hx
                      replace hB15 := hB15.ext hx
                      have hE := Upd.refl (fun _ => False) W
                      refine id (X_idx (v := v5) (n := (fs ++ bs).length) (k := .i64) (i := ((i : Nat) : Int)) S22 rfl hP.sv rfl (by omega) (by omega) ?_)
                      exact ⟨hE, rfl⟩
                    refine ⟨.det (fun val => (pof v5 ((((i : Nat) : Int) : Int).toNat * 6 + 1))), ⟨fun _ _ hv => rfl, fun _ _ _ _ _ => trivial⟩, fun val h_ W hx he => ⟨trivial, ?_⟩, ?_⟩
                    · replace hx := (Upd.drew _ _).trans hx
                      replace hl := hl.ext hx
                      replace hr := hr.ext hx
                      replace hP := hP.ext hx
                      replace hs := hs.ext hx
                      replace hk := hk.ext hx
                      replace hB15 := hB15.ext hx
                      have hE := Upd.refl (fun _ => False) W
                      refine id (X_fldS (v := v5) (o := (((i : Nat) : Int) : Int).toNat * 6) Fd39_1 rfl hP.sv (by omega) ?_)
                      exact ⟨hE, rfl⟩
                    refine ⟨.det (fun val => (.agg (ptC y_.2.2).toArray)), ⟨fun _ _ hv => rfl, fun _ _ _ _ _ => trivial⟩, fun val h_ W hx he => ⟨trivial, ?_⟩, ?_⟩
                    · replace hx := (Upd.drew _ _).trans hx
                      replace hl := hl.ext hx
                      replace hr := hr.ext hx
                      replace hP := hP.ext hx
                      replace hs := hs.ext hx
                      replace hk := hk.ext hx
                      replace hB15 := hB15.ext hx
                      have hE := Upd.refl (fun _ => False) W
                      refine id (X_loadA (xs := ptC y_.2.2) A37 rfl (kptr hP (Int.toNat_natCast _) hy_) rfl ?_)
                      exact ⟨hE, rfl⟩
                    refine ⟨.det (fun val => (ptr b15 (1))), ⟨fun _ _ hv => rfl, fun _ _ _ _ _ => trivial⟩, fun val h_ W hx he => ⟨trivial, ?_⟩, ?_⟩
                    · replace hx := (Upd.drew _ _).trans hx
                      replace hl := hl.ext hx
                      replace hr := hr.ext hx
                      replace hP := hP.ext hx
                      replace hs := hs.ext hx
                      replace hk := hk.ext hx
                      replace hB15 := hB15.ext hx
                      have hE := Upd.refl (fun _ => False) W
                      refine id (X_fldP (b := b15) (o := 0) (r := 1) Fd39_1 rfl rfl ?_)
                      exact ⟨hE, rfl⟩
                    refine ⟨.det (fun val => (.agg (ptC e.2.2).toArray)), ⟨fun _ _ hv => rfl, fun _ _ _ _ _ => trivial⟩, fun val h_ W hx he => ⟨trivial, ?_⟩, ?_⟩
                    · replace hx := (Upd.drew _ _).trans hx
                      replace hl := hl.ext hx
                      replace hr := hr.ext hx
                      replace hP := hP.ext hx
                      replace hs := hs.ext hx
                      replace hk := hk.ext hx
                      replace hB15 := hB15.ext hx
                      have hE := Upd.refl (fun _ => False) W
                      refine id (X_loadA (xs := ptC e.2.2) A37 rfl (hB15.at_ 1 (ptC e.2.2) (fun j u hj => by rw [Nat.add_comm]; simpa using hj)) rfl ?_)
                      exact ⟨hE, rfl⟩
                    refine ⟨.det (fun val => (.bool (false))), ⟨fun _ _ hv => rfl, fun _ _ _ _ _ => trivial⟩, fun val h_ W hx he => ⟨trivial, ?_⟩, ?_⟩
                    · replace hx := (Upd.drew _ _).trans hx
                      replace hl := hl.ext hx
                      replace hr := hr.ext hx
                      replace hP := hP.ext hx
                      replace hs := hs.ext hx
                      replace hk := hk.ext hx
                      replace hB15 := hB15.ext hx
                      have hE := Upd.refl (fun _ => False) W
                      refine id (X_eqP (p := y_.2.2) (q := e.2.2) (r := false) Try.underlying37 u37 (by kernel_rfl) (by decide) ⟨rfl, rfl, rfl, rfl⟩ Try.underlying5 Try.underlying33 (by kernel_rfl) Try.underlying32 (ie := _) rfl (by kernel_rfl) Try.underlying34 Try.underlying35 (by kernel_rfl) rfl rfl (.inr ⟨rfl, by rw [hxp, beq_self_eq_true]; rfl⟩) ?_)
                      exact ⟨hE, rfl⟩
                    refine ⟨.det (fun val => (.bool (false))), ⟨fun _ _ hv => rfl, fun _ _ _ _ _ => trivial⟩, fun val h_ W hx he => ⟨trivial, ?_⟩, ?_⟩
                    · replace hx := (Upd.drew _ _).trans hx
                      replace hl := hl.ext hx
                      replace hr := hr.ext hx
                      replace hP := hP.ext hx
                      replace hs := hs.ext hx
                      replace hk := hk.ext hx
                      replace hB15 := hB15.ext hx
                      have hE := Upd.refl (fun _ => False) W
                      refine id (X_move (v := (.bool (false))) rfl ?_)
                      exact ⟨hE, rfl⟩
                    refine ⟨.det (fun val => (.int .i64 (((i : Nat) : Int)))), ⟨fun _ _ hv => rfl, fun _ _ _ _ _ => trivial⟩, fun val h_ W hx he => ⟨⟨101, rfl, rfl⟩, ?_⟩, ?_⟩
                    · replace hx := (Upd.drew _ _).trans hx
                      replace hl := hl.ext hx
                      replace hr := hr.ext hx
                      replace hP := hP.ext hx
                      replace hs := hs.ext hx
                      replace hk := hk.ext hx
                      replace hB15 := hB15.ext hx
                      have hE := Upd.refl (fun _ => False) W
                      refine id (X_move (v := (.int .i64 (((i : Nat) : Int)))) rfl ?_)
                      exact ⟨hE, rfl⟩
                    refine ⟨.det (fun val => a), ⟨fun _ _ hv => rfl, fun _ _ _ _ _ => trivial⟩, fun val h_ W hx he => ⟨⟨101, rfl, rfl⟩, ?_⟩, ?_⟩
                    · replace hx := (Upd.drew _ _).trans hx
                      replace hl := hl.ext hx
                      replace hr := hr.ext hx
                      replace hP := hP.ext hx
                      replace hs := hs.ext hx
                      replace hk := hk.ext hx
                      replace hB15 := hB15.ext hx
                      have hE := Upd.refl (fun _ => False) W
                      refine id (X_move (v := a) rfl ?_)
                      exact ⟨hE, rfl⟩
                    refine ⟨.det (fun val => (.int .i64 (((as_.length : Nat) : Int)))), ⟨fun _ _ hv => rfl, fun _ _ _ _ _ => trivial⟩, fun val h_ W hx he => ⟨⟨101, rfl, rfl⟩, ?_⟩, ?_⟩
                    · replace hx := (Upd.drew _ _).trans hx
                      replace hl := hl.ext hx
                      replace hr := hr.ext hx
                      replace hP := hP.ext hx
                      replace hs := hs.ext hx
                      replace hk := hk.ext hx
                      replace hB15 := hB15.ext hx
                      have hE := Upd.refl (fun _ => False) W
                      refine id (X_len (v := a) (n := as_.length) Try.underlying22 rfl hsv_a ?_)
                      exact ⟨hE, rfl⟩
                    refine ⟨.det (fun val => (.bool (true))), ⟨fun _ _ hv => rfl, fun _ _ _ _ _ => trivial⟩, fun val h_ W hx he => ⟨⟨101, rfl, rfl⟩, ?_⟩, ?_⟩
                    · replace hx := (Upd.drew _ _).trans hx
                      replace hl := hl.ext hx
                      replace hr := hr.ext hx
                      replace hP := hP.ext hx
                      replace hs := hs.ext hx
                      replace hk := hk.ext hx
                      replace hB15 := hB15.ext hx
                      have hE := Upd.refl (fun _ => False) W
                      refine id (X_cmp (k := .i64) (a := ((i : Nat) : Int)) (b := ((as_.length : Nat) : Int)) (r := true) rfl rfl rfl (decide_eq_true (p := (((i : Nat) : Int) ≠ ((as_.length : Nat) : Int))) (by omega)) ?_)
                      exact ⟨hE, rfl⟩
                    refine ⟨.det (fun val => (.bool (true))), ⟨fun _ _ hv => rfl, fun _ _ _ _ _ => trivial⟩, fun val h_ W hx he => ⟨⟨101, rfl, rfl⟩, ?_⟩, ?_⟩
                    · replace hx := (Upd.drew _ _).trans hx
                      replace hl := hl.ext hx
                      replace hr := hr.ext hx
                      replace hP := hP.ext hx
                      replace hs := hs.ext hx
                      replace hk := hk.ext hx
                      replace hB15 := hB15.ext hx
                      have hE := Upd.refl (fun _ => False) W
                      refine id (X_move (v := (.bool (true))) rfl ?_)
                      exact ⟨hE, rfl⟩
                    refine ⟨.det (fun val => v5), ⟨fun _ _ hv => rfl, fun _ _ _ _ _ => trivial⟩, fun val h_ W hx he => ⟨⟨106, rfl, rfl⟩, ?_⟩, ?_⟩
                    · replace hx := (Upd.drew _ _).trans hx
                      replace hl := hl.ext hx
                      replace hr := hr.ext hx
                      replace hP := hP.ext hx
                      replace hs := hs.ext hx
                      replace hk := hk.ext hx
                      replace hB15 := hB15.ext hx
                      have hE := Upd.refl (fun _ => False) W
                      refine id (X_move (v := v5) rfl ?_)
                      exact ⟨hE, rfl⟩
                    refine ⟨.det (fun val => (.int .i64 (((i : Nat) : Int)))), ⟨fun _ _ hv => rfl, fun _ _ _ _ _ => trivial⟩, fun val h_ W hx he => ⟨⟨106, rfl, rfl⟩, ?_⟩, ?_⟩
                    · replace hx := (Upd.drew _ _).trans hx
                      replace hl := hl.ext hx
                      replace hr := hr.ext hx
                      replace hP := hP.ext hx
                      replace hs := hs.ext hx
                      replace hk := hk.ext hx
                      replace hB15 := hB15.ext hx
                      have hE := Upd.refl (fun _ => False) W
                      refine id (X_move (v := (.int .i64 (((i : Nat) : Int)))) rfl ?_)
                      exact ⟨hE, rfl⟩
                    refine ⟨.det (fun val => (pof v5 ((((i : Nat) : Int) : Int).toNat * 6))), ⟨fun _ _ hv => rfl, fun _ _ _ _ _ => trivial⟩, fun val h_ W hx he => ⟨⟨106, rfl, rfl⟩, ?_⟩, ?_⟩
                    · replace hx := (Upd.drew _ _).trans hx
                      replace hl := hl.ext hx
                      replace hr := hr.ext hx
                      replace hP := hP.ext hx
                      replace hs := hs.ext hx
                      replace hk := hk.ext hx
                      replace hB15 := hB15.ext hx
                      have hE := Upd.refl (fun _ => False) W
                      refine id (X_idx (v := v5) (n := (fs ++ bs).length) (k := .i64) (i := ((i : Nat) : Int)) S22 rfl hP.sv rfl (by omega) (by omega) ?_)
                      exact ⟨hE, rfl⟩
                    refine ⟨.det (fun val => (pof v5 ((((i : Nat) : Int) : Int).toNat * 6 + 0))), ⟨fun _ _ hv => rfl, fun _ _ _ _ _ => trivial⟩, fun val h_ W hx he => ⟨⟨106, rfl, rfl⟩, ?_⟩, ?_⟩
                    · replace hx := (Upd.drew _ _).trans hx
                      replace hl := hl.ext hx
                      replace hr := hr.ext hx
                      replace hP := hP.ext hx
                      replace hs := hs.ext hx
                      replace hk := hk.ext hx
                      replace hB15 := hB15.ext hx
                      have hE := Upd.refl (fun _ => False) W
                      refine id (X_fldS (v := v5) (o := (((i : Nat) : Int) : Int).toNat * 6) Fd39_0 rfl hP.sv (by omega) ?_)
                      exact ⟨hE, rfl⟩
                    refine ⟨.det (fun val => y_.1), ⟨fun _ _ hv => rfl, fun _ _ _ _ _ => trivial⟩, fun val h_ W hx he => ⟨⟨106, rfl, rfl⟩, ?_⟩, ?_⟩
                    · replace hx := (Upd.drew _ _).trans hx
                      replace hl := hl.ext hx
                      replace hr := hr.ext hx
                      replace hP := hP.ext hx
                      replace hs := hs.ext hx
                      replace hk := hk.ext hx
                      replace hB15 := hB15.ext hx
                      have hE := Upd.refl (fun _ => False) W
                      refine id (X_load (v := y_.1) T23 rfl (kkey hP (Int.toNat_natCast _) hy_) ?_)
                      exact ⟨hE, rfl⟩
                    refine ⟨.det (fun val => (strV (y_.2.1))), ⟨fun _ _ hv => rfl, fun _ _ _ _ _ => trivial⟩, fun val h_ W hx he => ⟨⟨106, rfl, rfl⟩, ?_⟩, ?_⟩
                    · replace hx := (Upd.drew _ _).trans hx
                      replace hl := hl.ext hx
                      replace hr := hr.ext hx
                      replace hP := hP.ext hx
                      replace hs := hs.ext hx
                      replace hk := hk.ext hx
                      replace hB15 := hB15.ext hx
                      have hE := Upd.refl (fun _ => False) W
                      refine id (X_str (v := y_.1) (l := y_.2.1) Try.underlying23 Try.underlying5 Try.underlying9 rfl (krd hP hy_) ?_)
                      exact ⟨hE, rfl⟩
                    refine ⟨.det (fun val => (ptr b15 (0))), ⟨fun _ _ hv => rfl, fun _ _ _ _ _ => trivial⟩, fun val h_ W hx he => ⟨⟨106, rfl, rfl⟩, ?_⟩, ?_⟩
                    · replace hx := (Upd.drew _ _).trans hx
                      replace hl := hl.ext hx
                      replace hr := hr.ext hx
                      replace hP := hP.ext hx
                      replace hs := hs.ext hx
                      replace hk := hk.ext hx
                      replace hB15 := hB15.ext hx
                      have hE := Upd.refl (fun _ => False) W
                      refine id (X_fldP (b := b15) (o := 0) (r := 0) Fd39_0 rfl rfl ?_)
                      exact ⟨hE, rfl⟩
                    refine ⟨.det (fun val => e.1), ⟨fun _ _ hv => rfl, fun _ _ _ _ _ => trivial⟩, fun val h_ W hx he => ⟨⟨106, rfl, rfl⟩, ?_⟩, ?_⟩
                    · replace hx := (Upd.drew _ _).trans hx
                      replace hl := hl.ext hx
                      replace hr := hr.ext hx
                      replace hP := hP.ext hx
                      replace hs := hs.ext hx
                      replace hk := hk.ext hx
                      replace hB15 := hB15.ext hx
                      have hE := Upd.refl (fun _ => False) W
                      refine id (X_load (p := (ptr b15 (0))) (v := e.1) T23 rfl (hB15.at1 rfl) ?_)
                      exact ⟨hE, rfl⟩
                    refine ⟨.det (fun val => (strV (e.2.1))), ⟨fun _ _ hv => rfl, fun _ _ _ _ _ => trivial⟩, fun val h_ W hx he => ⟨⟨106, rfl, rfl⟩, ?_⟩, ?_⟩
                    · replace hx := (Upd.drew _ _).trans hx
                      replace hl := hl.ext hx
                      replace hr := hr.ext hx
                      replace hP := hP.ext hx
                      replace hs := hs.ext hx
                      replace hk := hk.ext hx
                      replace hB15 := hB15.ext hx
                      have hE := Upd.refl (fun _ => False) W
                      refine id (X_str (v := e.1) (l := e.2.1) Try.underlying23 Try.underlying5 Try.underlying9 rfl (krd hr hee) ?_)
                      exact ⟨hE, rfl⟩
                    refine ⟨.det (fun val => (.bool (false))), ⟨fun _ _ hv => rfl, fun _ _ _ _ _ => trivial⟩, fun val h_ W hx he => ⟨⟨106, rfl, rfl⟩, ?_⟩, ?_⟩
                    · replace hx := (Upd.drew _ _).trans hx
                      replace hl := hl.ext hx
                      replace hr := hr.ext hx
                      replace hP := hP.ext hx
                      replace hs := hs.ext hx
                      replace hk := hk.ext hx
                      replace hB15 := hB15.ext hx
                      have hE := Upd.refl (fun _ => False) W
                      refine id (X_scmp (a := y_.2.1) (b := e.2.1) (r := false) rfl rfl rfl (by show (!(y_.2.1 == e.2.1)) = false; rw [hxk, beq_self_eq_true]; rfl) ?_)
                      exact ⟨hE, rfl⟩
                    refine ⟨.det (fun val => (.bool (false))), ⟨fun _ _ hv => rfl, fun _ _ _ _ _ => trivial⟩, fun val h_ W hx he => ⟨⟨101, rfl, rfl⟩, ?_⟩, ?_⟩
                    · replace hx := (Upd.drew _ _).trans hx
                      replace hl := hl.ext hx
                      replace hr := hr.ext hx
                      replace hP := hP.ext hx
                      replace hs := hs.ext hx
                      replace hk := hk.ext hx
                      replace hB15 := hB15.ext hx
                      have hE := Upd.refl (fun _ => False) W
                      refine id (X_pick (t := true) (v := (.bool (false))) rfl rfl ?_)
                      exact ⟨hE, rfl⟩
                    refine ⟨.det (fun val => (.bool (false))), ⟨fun _ _ hv => rfl, fun _ _ _ _ _ => trivial⟩, fun val h_ W hx he => ⟨trivial, ?_⟩, ?_⟩
                    · replace hx := (Upd.drew _ _).trans hx
                      replace hl := hl.ext hx
                      replace hr := hr.ext hx
                      replace hP := hP.ext hx
                      replace hs := hs.ext hx
                      replace hk := hk.ext hx
                      replace hB15 := hB15.ext hx
                      have hE := Upd.refl (fun _ => False) W
                      refine id (X_pick (t := false) (v := (.bool (false))) rfl rfl ?_)
                      exact ⟨hE, rfl⟩
                    refine ⟨.det (fun val => (.bool (false))), ⟨fun _ _ hv => rfl, fun _ _ _ _ _ => trivial⟩, fun val h_ W hx he => ⟨trivial, ?_⟩, ?_⟩
                    · replace hx := (Upd.drew _ _).trans hx
                      replace hl := hl.ext hx
                      replace hr := hr.ext hx
                      replace hP := hP.ext hx
                      replace hs := hs.ext hx
                      replace hk := hk.ext hx
                      replace hB15 := hB15.ext hx
                      have hE := Upd.refl (fun _ => False) W
                      refine id (X_move (v := (.bool (false))) rfl ?_)
                      exact ⟨hE, rfl⟩
                    refine ⟨.det (fun val => (.int .i64 (((i : Nat) : Int)))), ⟨fun _ _ hv => rfl, fun _ _ _ _ _ => trivial⟩, fun val h_ W hx he => ⟨⟨119, rfl, rfl⟩, ?_⟩, ?_⟩
                    · replace hx := (Upd.drew _ _).trans hx
                      replace hl := hl.ext hx
                      replace hr := hr.ext hx
                      replace hP := hP.ext hx
                      replace hs := hs.ext hx
                      replace hk := hk.ext hx
                      replace hB15 := hB15.ext hx
                      have hE := Upd.refl (fun _ => False) W
                      refine id (X_move (v := (.int .i64 (((i : Nat) : Int)))) rfl ?_)
                      exact ⟨hE, rfl⟩
                    refine ⟨.det (fun val => a), ⟨fun _ _ hv => rfl, fun _ _ _ _ _ => trivial⟩, fun val h_ W hx he => ⟨⟨119, rfl, rfl⟩, ?_⟩, ?_⟩
                    · replace hx := (Upd.drew _ _).trans hx
                      replace hl := hl.ext hx
                      replace hr := hr.ext hx
                      replace hP := hP.ext hx
                      replace hs := hs.ext hx
                      replace hk := hk.ext hx
                      replace hB15 := hB15.ext hx
                      have hE := Upd.refl (fun _ => False) W
                      refine id (X_move (v := a) rfl ?_)
                      exact ⟨hE, rfl⟩
                    refine ⟨.det (fun val => (.int .i64 (((as_.length : Nat) : Int)))), ⟨fun _ _ hv => rfl, fun _ _ _ _ _ => trivial⟩, fun val h_ W hx he => ⟨⟨119, rfl, rfl⟩, ?_⟩, ?_⟩
                    · replace hx := (Upd.drew _ _).trans hx
                      replace hl := hl.ext hx
                      replace hr := hr.ext hx
                      replace hP := hP.ext hx
                      replace hs := hs.ext hx
                      replace hk := hk.ext hx
                      replace hB15 := hB15.ext hx
                      have hE := Upd.refl (fun _ => False) W
                      refine id (X_len (v := a) (n := as_.length) Try.underlying22 rfl hsv_a ?_)
                      exact ⟨hE, rfl⟩
                    refine ⟨.det (fun val => (.bool (false))), ⟨fun _ _ hv => rfl, fun _ _ _ _ _ => trivial⟩, fun val h_ W hx he => ⟨⟨119, rfl, rfl⟩, ?_⟩, ?_⟩
                    · replace hx := (Upd.drew _ _).trans hx
                      replace hl := hl.ext hx
                      replace hr := hr.ext hx
                      replace hP := hP.ext hx
                      replace hs := hs.ext hx
                      replace hk := hk.ext hx
                      replace hB15 := hB15.ext hx
                      have hE := Upd.refl (fun _ => False) W
                      refine id (X_cmp (k := .i64) (a := ((i : Nat) : Int)) (b := ((as_.length : Nat) : Int)) (r := false) rfl rfl rfl (decide_eq_false (p := (((i : Nat) : Int) = ((as_.length : Nat) : Int))) (by omega)) ?_)
                      exact ⟨hE, rfl⟩
                    refine ⟨.det (fun val => (.bool (false))), ⟨fun _ _ hv => rfl, fun _ _ _ _ _ => trivial⟩, fun val h_ W hx he => ⟨⟨119, rfl, rfl⟩, ?_⟩, ?_⟩
                    · replace hx := (Upd.drew _ _).trans hx
                      replace hl := hl.ext hx
                      replace hr := hr.ext hx
                      replace hP := hP.ext hx
                      replace hs := hs.ext hx
                      replace hk := hk.ext hx
                      replace hB15 := hB15.ext hx
                      have hE := Upd.refl (fun _ => False) W
                      refine id (X_move (v := (.bool (false))) rfl ?_)
                      exact ⟨hE, rfl⟩
                    refine ⟨.no, ⟨fun _ _ _ => trivial, fun _ _ _ _ _ => trivial⟩, fun val h_ W hx he => ⟨124, rfl, .inl rfl⟩, ?_⟩
                    refine ⟨.no, ⟨fun _ _ _ => trivial, fun _ _ _ _ _ => trivial⟩, fun val h_ W hx he => ⟨124, rfl, .inl rfl⟩, ?_⟩
                    refine ⟨.no, ⟨fun _ _ _ => trivial, fun _ _ _ _ _ => trivial⟩, fun val h_ W hx he => ⟨124, rfl, .inl rfl⟩, ?_⟩
                    refine ⟨.no, ⟨fun _ _ _ => trivial, fun _ _ _ _ _ => trivial⟩, fun val h_ W hx he => ⟨124, rfl, .inl rfl⟩, ?_⟩
                    refine ⟨.no, ⟨fun _ _ _ => trivial, fun _ _ _ _ _ => trivial⟩, fun val h_ W hx he => ⟨124, rfl, .inl rfl⟩, ?_⟩
                    refine ⟨.no, ⟨fun _ _ _ => trivial, fun _ _ _ _ _ => trivial⟩, fun val h_ W hx he => ⟨124, rfl, .inl rfl⟩, ?_⟩
                    refine ⟨.no, ⟨fun _ _ _ => trivial, fun _ _ _ _ _ => trivial⟩, fun val h_ W hx he => ⟨124, rfl, .inl rfl⟩, ?_⟩
                    refine ⟨.no, ⟨fun _ _ _ => trivial, fun _ _ _ _ _ => trivial⟩, fun val h_ W hx he => ⟨131, rfl, .inr rfl⟩, ?_⟩
                    refine ⟨.no, ⟨fun _ _ _ => trivial, fun _ _ _ _ _ => trivial⟩, fun val h_ W hx he => ⟨131, rfl, .inr rfl⟩, ?_⟩
                    intro val W40 hx40 he40
                    replace hx40 := (Upd.drew _ _).trans hx40
                    have hz40 := hx40.size
                    replace hl := hl.ext hx40
                    replace hr := hr.ext hx40
                    replace hP := hP.ext hx40
                    replace hs := hs.ext hx40
                    replace hk := hk.ext hx40
                    replace hU := hU.trans (Ext.upd hx40)
                    replace hB15 := hB15.ext hx40
                    refine L_gu (dj := 131) rfl rfl rfl ?_
                    refine L_gu (dj := 131) rfl rfl rfl ?_
                    refine L_gu (dj := 131) rfl rfl rfl ?_
                    refine L_gu (dj := 131) rfl rfl rfl ?_
                    refine L_gu (dj := 131) rfl rfl rfl ?_
                    refine L_gn (dj := 124) (t := false) rfl rfl rfl rfl ?_
                    refine L_gy (dj := 119) rfl rfl rfl (X_pick (t := false) (v := (.bool (false))) rfl rfl ?_)
                    refine L_op rfl (X_pick (t := false) (v := (.bool (false))) rfl rfl ?_)
                    refine L_nil ?_
                    refine T_n ?_
                    refine W_cf rfl ?_
                    refine W_skip ?_
                    refine B_n ?_
                    refine T_n ?_
                    refine W_reg ?_
                    refine L_op rfl (X_move (v := (.int .i64 (((i : Nat) : Int)))) rfl ?_)
                    refine L_op rfl (X_arith (k := .i64) (a := ((i : Nat) : Int)) (b := 1) (r := ((i + 1 : Nat) : Int)) rfl rfl rfl (iadd64 (by omega) (by omega) (by omega)) ?_)
                    refine L_op rfl (X_assign (v := (.int .i64 (((i + 1 : Nat) : Int)))) rfl ?_)
                    refine L_nil ?_
                    refine T_n ?_
                    exact ⟨rfl, i + 1, ⟨⟨hi, hl, hr, hP, hs, hk, hU, by omega⟩, (by show es.length + rs.length - (i + 1) < es.length + rs.length - i; omega)⟩, (Out.mk rfl), ⟨rfl, trivial⟩⟩
            · refine L_op rfl (X_cmp (k := .i64) (a := ((i : Nat) : Int)) (b := ((es.length : Nat) : Int) + ((rs.length : Nat) : Int)) (r := false) rfl rfl rfl (decide_eq_false (p := ((((i : Nat) : Int)) : Int) < ((((es.length : Nat) : Int) + ((rs.length : Nat) : Int)) : Int)) (by omega)) ?_)
              refine L_nil ?_
              refine T_n ?_
              refine W_cf rfl ?_
              refine W_exit ?_
              refine T_e ?_
              refine T_e ?_
              refine B_x ?_
              refine T_n ?_
              refine W_seq ?_
              refine W_reg ?_
              refine L_op rfl (X_fn (vs := []) en9 rfl (CT.mono (c_wakes _) ?_))
              rintro vb43 w43 ⟨hvb43, hu43⟩
              have hz43 := hu43.size
              replace hl := hl.ext hu43
              replace hr := hr.ext hu43
              replace hP := hP.ext hu43
              replace hs := hs.ext hu43
              replace hk := hk.ext hu43
              replace hU := hU.trans (Ext.upd hu43)
              subst hvb43
              refine L_op rfl (X_assign (v := (.bool (true))) rfl ?_)
              refine L_nil ?_
              refine T_n ?_
              refine W_ret ?_
              exact BQ_r (End_1 Try.results6 (v := .bool true) rfl ⟨rfl, hU.own hn0⟩)
end Go.Proofs.Ytpjhadhniokgjaa
