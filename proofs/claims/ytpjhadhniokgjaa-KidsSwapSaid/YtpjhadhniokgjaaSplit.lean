/-
  The walk of KidsSplit. (Printed by wip/gen/t16splitw.py of this repo.)
-/
import Derived.Test.YtpjhadhniokgjaaSplitLaw
namespace Go.Proofs.Ytpjhadhniokgjaa
open Go Go.SL Go.Proofs

theorem built39z (a : Option Addr) (n c : Nat) : Try.prog.built 39 [(0, .slice a n c)] = some (Value.slice a n c :: ptC (0, 0, 0, 0, 0)).toArray := by kernel_rfl
theorem built39z' {v : Value} {n : Nat} (h : SV v n) : Try.prog.built 39 [(0, v)] = some (v :: ptC (0, 0, 0, 0, 0)).toArray := by
  obtain ⟨a, c, rfl, _⟩ := h
  exact built39z a n c
theorem bareK_length (l : List KD) : (bareK l).length = l.length := by cases l <;> rfl
theorem key_take {es as_ : List KE} {k : Nat} (h : KeyOK es) (ha : as_.map (·.2) = (es.map (·.2)).take k) : KeyOK as_ := fun j e he => by
  have h1 := map_at ha he
  rw [List.getElem?_take] at h1
  split at h1
  · obtain ⟨e', he', h2⟩ := at_map rfl h1
    rw [← h2]; exact h j e' he'
  · cases h1
theorem key_bare {es bs : List KE} {k : Nat} (h : KeyOK es) (hb : bs.map (·.2) = bareK ((es.map (·.2)).drop k)) : KeyOK bs := fun j e he => by
  have h1 := map_at hb he
  cases j with
  | zero =>
    cases hl : (es.map (·.2)).drop k with
    | nil => rw [hl] at h1; simp [bareK] at h1
    | cons x r => rw [hl] at h1; simp [bareK] at h1; rw [← h1]; exact Nat.zero_le _
  | succ j =>
    have h2 := bare_back (Nat.succ_pos j) h1
    rw [List.getElem?_drop] at h2
    obtain ⟨e', he', h3⟩ := at_map rfl h2
    rw [← h3]; exact h _ e' he'
theorem pushR {w w' : World} {er eb lo up lo2 up2 : Nat} {v v5 : Value} {es : List KE} {e : KE} (hne : er ≠ eb) (h : NOwn LK w er eb lo up v es) (hO : Own w' lo er 6 v5 (es.length + 1) (es.flatMap LK.cel ++ LK.cel e)) (hu : Upd (fun b => obk v = some b) w w')
    (hk : BRd w lo2 up2 (e.1, e.2.1)) (h2 : up2 ≤ lo) (h3 : lo ≤ up) (h4 : up ≤ w'.heap.size) : NRd LK w' 0 w'.heap.size v5 (es ++ [e]) := by
  refine ⟨(hO.eq (by rw [List.length_append]; rfl) (by rw [List.flatMap_append]; simp) : Own w' lo er 6 v5 (es ++ [e]).length ((es ++ [e]).flatMap LK.cel)).rd, fun b hb => ⟨Nat.zero_le _, (hO.lt (hO.rbk_obk hb)).2⟩, fun e' he s hs => ?_⟩
  rcases List.mem_append.1 he with he | he
  · exact ((h.sub_keep hne he hs hu).rd).mono (Nat.zero_le _) h4
  · have h5 : e' = e := by simpa using he
    subst h5
    have h6 : s = (e'.1, e'.2.1) := by simpa [LK] using hs
    subst h6
    exact ⟨hk.1.upd hu fun b hb hd => by have := (hk.2 b hb).2; have := (h.1.lt hd).1; omega, fun b hb => ⟨Nat.zero_le _, by have := (hk.2 b hb).2; omega⟩⟩

theorem c_kidsSplit (l key : Value) (es : List KE) (m : List UInt8) (w : World) (hl : NRd LK w 0 w.heap.size l es) (hk : Rd w 1 key m.length (m.map byteV)) : CT Try.prog 3 #[l, key] w fun v w' => v = .bool true ∧ Ext w w' := by
  obtain ⟨n0, hn0⟩ : ∃ n, n = w.heap.size := ⟨_, rfl⟩
  have hU : Upd (fun i => n0 ≤ i) w w := Upd.refl _ _
  have hk_b : ∀ i, rbk key = some i → i < n0 := by rw [hn0]; exact fun i hi => hk.bound (by decide) hi
  rw [← hn0] at hl
  have hmx := hl.sv.len
  refine CT_of Try.func3 rfl rfl rfl ?_
  refine W_seq ?_
  refine W_reg ?_
  refine L_op rfl (X_assign (v := (.bool (false))) rfl ?_)
  refine L_nil ?_
  refine T_n ?_
  refine W_seq ?_
  refine W_seq ?_
  refine W_reg ?_
  refine L_op rfl (X_move (v := l) rfl ?_)
  refine L_op rfl (X_fn (vs := [l]) en7 rfl (CT.mono (c_great _ es _ _ _ hl) ?_))
  rintro _ _ ⟨⟨gG, rfl, hgG⟩, rfl⟩
  rcases Bool.eq_false_or_eq_true (gG) with hc1 | hc1
  · rw [hc1]
    refine L_op rfl (X_move (v := (.bool (true))) rfl ?_)
    refine L_gn (dj := 12) (t := true) rfl rfl rfl rfl ?_
    refine L_gn (dj := 12) (t := true) rfl rfl rfl rfl ?_
    refine L_gn (dj := 12) (t := true) rfl rfl rfl rfl ?_
    refine L_op rfl (X_pick (t := true) (v := (.bool (true))) rfl rfl ?_)
    refine L_op rfl (X_move (v := (.bool (true))) rfl ?_)
    refine L_gn (dj := 17) (t := true) rfl rfl rfl rfl ?_
    refine L_gn (dj := 17) (t := true) rfl rfl rfl rfl ?_
    refine L_gn (dj := 17) (t := true) rfl rfl rfl rfl ?_
    refine L_op rfl (X_pick (t := true) (v := (.bool (true))) rfl rfl ?_)
    refine L_nil ?_
    refine T_n ?_
    refine W_ct rfl ?_
    refine W_seq ?_
    refine W_reg ?_
    refine L_op rfl (X_fn (vs := []) en9 rfl (CT.mono (c_wakes _) ?_))
    rintro vb2 w2 ⟨hvb2, hu2⟩
    have hz2 := hu2.size
    replace hl := hl.ext hu2
    replace hk := hk.ext hu2
    replace hU := hU.trans (Ext.upd hu2)
    subst hvb2
    refine L_op rfl (X_assign (v := (.bool (true))) rfl ?_)
    refine L_nil ?_
    refine T_n ?_
    refine W_ret ?_
    refine T_r ?_
    exact BQ_r (End_1 Try.results3 (v := .bool true) rfl ⟨rfl, hU.own hn0⟩)
  · rw [hc1]
    refine L_op rfl (X_move (v := (.bool (false))) rfl ?_)
    refine L_gy (dj := 12) rfl rfl rfl (X_move (v := key) rfl ?_)
    refine L_gy (dj := 12) rfl rfl rfl (X_len (v := key) (n := m.length) Try.underlying23 rfl hk.sv ?_)
    by_cases hc3 : (((m.length : Nat) : Int) : Int) > (60)
    · refine L_gy (dj := 12) rfl rfl rfl (X_cmp (k := .i64) (a := ((m.length : Nat) : Int)) (b := 60) (r := true) rfl rfl rfl (decide_eq_true (p := ((60) : Int) < ((((m.length : Nat) : Int)) : Int)) (by omega)) ?_)
      refine L_op rfl (X_pick (t := false) (v := (.bool (true))) rfl rfl ?_)
      refine L_op rfl (X_move (v := (.bool (true))) rfl ?_)
      refine L_gn (dj := 17) (t := true) rfl rfl rfl rfl ?_
      refine L_gn (dj := 17) (t := true) rfl rfl rfl rfl ?_
      refine L_gn (dj := 17) (t := true) rfl rfl rfl rfl ?_
      refine L_op rfl (X_pick (t := true) (v := (.bool (true))) rfl rfl ?_)
      refine L_nil ?_
      refine T_n ?_
      refine W_ct rfl ?_
      refine W_seq ?_
      refine W_reg ?_
      refine L_op rfl (X_fn (vs := []) en9 rfl (CT.mono (c_wakes _) ?_))
      rintro vb4 w4 ⟨hvb4, hu4⟩
      have hz4 := hu4.size
      replace hl := hl.ext hu4
      replace hk := hk.ext hu4
      replace hU := hU.trans (Ext.upd hu4)
      subst hvb4
      refine L_op rfl (X_assign (v := (.bool (true))) rfl ?_)
      refine L_nil ?_
      refine T_n ?_
      refine W_ret ?_
      refine T_r ?_
      exact BQ_r (End_1 Try.results3 (v := .bool true) rfl ⟨rfl, hU.own hn0⟩)
    · refine L_gy (dj := 12) rfl rfl rfl (X_cmp (k := .i64) (a := ((m.length : Nat) : Int)) (b := 60) (r := false) rfl rfl rfl (decide_eq_false (p := ((60) : Int) < ((((m.length : Nat) : Int)) : Int)) (by omega)) ?_)
      refine L_op rfl (X_pick (t := false) (v := (.bool (false))) rfl rfl ?_)
      refine L_op rfl (X_move (v := (.bool (false))) rfl ?_)
      refine L_gy (dj := 17) rfl rfl rfl (X_move (v := l) rfl ?_)
      refine L_gy (dj := 17) rfl rfl rfl (X_fn (vs := [l]) en8 rfl (CT.mono (c_rises _ es _ _ _ hl) ?_))
      rintro _ w5 ⟨⟨gR, rfl, hgR⟩, hu5⟩
      have hz5 := hu5.size
      replace hl := hl.ext hu5
      replace hk := hk.ext hu5
      replace hU := hU.trans (Ext.upd hu5)
      rcases Bool.eq_false_or_eq_true (gR) with hc6 | hc6
      · rw [hc6]
        refine L_gy (dj := 17) rfl rfl rfl (X_not (b := true) (r := false) rfl rfl ?_)
        refine L_op rfl (X_pick (t := false) (v := (.bool (false))) rfl rfl ?_)
        refine L_nil ?_
        refine T_n ?_
        refine W_cf rfl ?_
        refine W_skip ?_
        refine T_n ?_
        refine W_seq ?_
        refine W_reg ?_
        refine L_op rfl (X_move (v := l) rfl ?_)
        have hgd := hgG hc1
        have hkl : KeyOK es := fun j e he => by have := hgd.2 j e he; omega
        have hRi : Rises es := hgR.1 (by assumption)
        have hN2 := hRi.1
        obtain ⟨ek, hek⟩ : ∃ e, es[((es.length + 1) / 2)]? = some e := ⟨_, List.getElem?_eq_getElem (by omega)⟩
        refine L_op rfl (X_fn (vs := [l]) en10 rfl (CT.mono (c_split l es _ 0 n0 (by omega) hl hkl (by omega)) ?_))
        rintro _ w7 ⟨a, s, b, as_, bs, sl, rfl, ha, hs, hb, has, hbs, hsl, hu7⟩
        have hz7 := hu7.size
        replace hl := hl.ext hu7
        replace hk := hk.ext hu7
        replace hU := hU.trans (Ext.upd hu7)
        rw [head_drop hek] at hsl; subst hsl
        have hal : as_.length = ((es.length + 1) / 2) := by have h := congrArg List.length has; rw [List.length_map, List.length_take, List.length_map] at h; omega
        have hbl : bs.length = es.length - ((es.length + 1) / 2) := by have h := congrArg List.length hbs; rw [List.length_map, bareK_length, List.length_drop, List.length_map] at h; omega
        obtain ⟨los, hlos⟩ : ∃ n, n = w5.heap.size := ⟨_, rfl⟩
        obtain ⟨ups, hups⟩ : ∃ n, n = w7.heap.size := ⟨_, rfl⟩
        rw [← hups, ← hlos] at ha hs hb
        refine L_op rfl (X_move (v := (.tuple #[a, s, b])) rfl ?_)
        refine L_op rfl (X_extract (l := [a, s, b]) (v := a) rfl rfl ?_)
        refine L_op rfl (X_extract (l := [a, s, b]) (v := s) rfl rfl ?_)
        refine L_op rfl (X_extract (l := [a, s, b]) (v := b) rfl rfl ?_)
        refine L_op rfl (X_assign (v := a) rfl ?_)
        refine L_op rfl (X_assign (v := s) rfl ?_)
        refine L_op rfl (X_assign (v := b) rfl ?_)
        refine L_nil ?_
        refine T_n ?_
        refine W_seq ?_
        refine W_seq ?_
        refine W_reg ?_
        refine L_op rfl (X_move (v := a) rfl ?_)
        refine L_op rfl (X_len (v := a) (n := as_.length) Try.underlying22 rfl ha.sv ?_)
        refine L_op rfl (X_move (v := l) rfl ?_)
        refine L_op rfl (X_len (v := l) (n := es.length) Try.underlying22 rfl hl.sv ?_)
        refine L_op rfl (X_arith (k := .i64) (a := ((es.length : Nat) : Int)) (b := 1) (r := ((es.length : Nat) : Int) + 1) rfl rfl rfl (iadd64 rfl (by omega) (by omega)) ?_)
        refine L_op rfl (X_arith (k := .i64) (a := ((es.length : Nat) : Int) + 1) (b := 2) (r := (((es.length : Nat) : Int) + 1) / 2) rfl rfl rfl (iquo64 (by omega) rfl (by omega) (by omega)) ?_)
        refine L_op rfl (X_cmp (k := .i64) (a := ((as_.length : Nat) : Int)) (b := (((es.length : Nat) : Int) + 1) / 2) (r := false) rfl rfl rfl (decide_eq_false (p := ((((as_.length : Nat) : Int)) : Int) ≠ (((((es.length : Nat) : Int) + 1) / 2) : Int)) (by omega)) ?_)
        refine L_op rfl (X_move (v := (.bool (false))) rfl ?_)
        refine L_gy (dj := 36) rfl rfl rfl (X_move (v := a) rfl ?_)
        refine L_gy (dj := 36) rfl rfl rfl (X_len (v := a) (n := as_.length) Try.underlying22 rfl ha.sv ?_)
        refine L_gy (dj := 36) rfl rfl rfl (X_move (v := b) rfl ?_)
        refine L_gy (dj := 36) rfl rfl rfl (X_len (v := b) (n := bs.length) Try.underlying22 rfl hb.sv ?_)
        refine L_gy (dj := 36) rfl rfl rfl (X_arith (k := .i64) (a := ((as_.length : Nat) : Int)) (b := ((bs.length : Nat) : Int)) (r := ((as_.length : Nat) : Int) + ((bs.length : Nat) : Int)) rfl rfl rfl (iadd64 rfl (by omega) (by omega)) ?_)
        refine L_gy (dj := 36) rfl rfl rfl (X_move (v := l) rfl ?_)
        refine L_gy (dj := 36) rfl rfl rfl (X_len (v := l) (n := es.length) Try.underlying22 rfl hl.sv ?_)
        refine L_gy (dj := 36) rfl rfl rfl (X_cmp (k := .i64) (a := ((as_.length : Nat) : Int) + ((bs.length : Nat) : Int)) (b := ((es.length : Nat) : Int)) (r := false) rfl rfl rfl (decide_eq_false (p := ((((as_.length : Nat) : Int) + ((bs.length : Nat) : Int)) : Int) ≠ ((((es.length : Nat) : Int)) : Int)) (by omega)) ?_)
        refine L_op rfl (X_pick (t := false) (v := (.bool (false))) rfl rfl ?_)
        refine L_op rfl (X_move (v := (.bool (false))) rfl ?_)
        refine L_gy (dj := 46) rfl rfl rfl (X_move (v := a) rfl ?_)
        refine L_gy (dj := 46) rfl rfl rfl (X_move (v := s) rfl ?_)
        refine L_gy (dj := 46) rfl rfl rfl (X_move (v := b) rfl ?_)
        have hka := key_take hkl has
        have hkb := key_bare hkl hbs
        have hek60 := hgd.2 _ _ hek
        refine L_gy (dj := 46) rfl rfl rfl (X_fn (vs := [a, s, b]) en12 rfl (CT.mono (c_join a s b as_ bs ek.2.1 _ los ups los ups (by omega) (by omega) ha hb hs.1 hka hkb (by omega) (by omega) (by omega)) ?_))
        rintro vj w8 ⟨js, hJ, hjs, hu8⟩
        have hz8 := hu8.size
        replace hl := hl.ext hu8
        replace hk := hk.ext hu8
        replace hU := hU.trans (Ext.upd hu8)
        replace ha := ha.ext hu8
        replace hb := hb.ext hu8
        replace hs := hs.ext hu8
        rw [if_neg (by omega), has, hbs, ← head_drop hek, name_bare, List.take_append_drop] at hjs
        refine L_gy (dj := 46) rfl rfl rfl (X_move (v := l) rfl ?_)
        refine L_gy (dj := 46) rfl rfl rfl (X_fn (vs := [vj, l]) en11 rfl (CT.mono (c_same _ _ js es _ _ _ _ _ hJ hl) ?_))
        rintro _ w9 ⟨⟨g_, rfl, hg_⟩, hu9⟩
        have hz9 := hu9.size
        replace hl := hl.ext hu9
        replace hk := hk.ext hu9
        replace hU := hU.trans (Ext.upd hu9)
        replace ha := ha.ext hu9
        replace hb := hb.ext hu9
        replace hs := hs.ext hu9
        obtain rfl : g_ = true := hg_.2 hjs
        refine L_gy (dj := 46) rfl rfl rfl (X_not (b := true) (r := false) rfl rfl ?_)
        refine L_op rfl (X_pick (t := false) (v := (.bool (false))) rfl rfl ?_)
        refine L_op rfl (X_move (v := (.bool (false))) rfl ?_)
        refine L_gy (dj := 55) rfl rfl rfl (X_move (v := a) rfl ?_)
        refine L_gy (dj := 55) rfl rfl rfl (X_fn (vs := [a]) en13 rfl (CT.mono (c_ownR a as_ _ los ups (by omega) ha hka (by omega)) ?_))
        rintro vo w10 ⟨fs, hN, _, hfs, hu10⟩
        have hz10 := hu10.size
        replace hl := hl.ext hu10
        replace hk := hk.ext hu10
        replace hU := hU.trans (Ext.upd hu10)
        replace ha := ha.ext hu10
        replace hb := hb.ext hu10
        replace hs := hs.ext hu10
        have hfl : fs.length = as_.length := by have h := congrArg List.length hfs; rwa [List.length_map, List.length_map] at h
        refine L_gy (dj := 55) rfl rfl rfl (X_move (v := s) rfl ?_)
        refine L_gy (dj := 55) rfl rfl rfl (X_build (built39z' hs.1.sv) ?_)
        refine L_gy (dj := 55) rfl rfl rfl (X_buildSliceL (vs := [.agg (s :: ptC (0, 0, 0, 0, 0)).toArray]) (c := s :: ptC (0, 0, 0, 0, 0)) S22 (by decide) rfl rfl (List.forall_mem_cons.2 ⟨rfl, fun _ h => by cases h⟩) rfl ?_)
        intro bl wl hnl
        have hbnl := hnl.num; have hbsl := hnl.size
        replace hl := hl.ext hnl.ext
        replace hk := hk.ext hnl.ext
        replace hU := hU.trans (Ext.upd hnl.ext)
        replace ha := ha.ext hnl.ext
        replace hb := hb.ext hnl.ext
        replace hs := hs.ext hnl.ext
        replace hN := hN.ext hnl.ext
        have hBl := hnl.blk
        refine L_gy (dj := 55) rfl rfl rfl (X_append (B := w9.heap.size) (n := fs.length) (s := vo) (x := .slice (some ⟨bl, 0, none⟩) 1 1) S22 ⟨_, Try.underlying22⟩ rfl rfl hN.1 (m := 1) (ys := s :: ptC (0, 0, 0, 0, 0)) (hBl.rd (o := 0) (n := 1) (c := 1) (sz := 6) (by decide) (by decide) rfl (fun j u hj => by rw [Nat.zero_add]; simpa using hj)) (hs.1.sv.kone _) (by unfold maxLen; omega) (by omega) (by omega) ?_)
        intro v5 w5 hO5 hu5 _
        have hz5 := hu5.size
        have hP := pushR (e := (s, ek.2.1, (0, 0, 0, 0, 0))) (by decide) hN hO5 hu5 hs (by omega) (by omega) (by omega)
        replace hl := hl.upd hu5 fun i h1 h2 h => by have h := hN.1.lt h; omega
        replace hk := hk.upd hu5 fun i hi h => by have hi := hk_b _ hi; have h := hN.1.lt h; omega
        replace hU := hU.trans (hu5.mono fun i _ h => by have h := hN.1.lt h; show n0 ≤ i; omega)
        replace ha := ha.upd hu5 fun i h1 h2 h => by have h := hN.1.lt h; omega
        replace hb := hb.upd hu5 fun i h1 h2 h => by have h := hN.1.lt h; omega
        replace hs := hs.upd hu5 fun i h1 h2 h => by have h := hN.1.lt h; omega
        obtain ⟨u5, hu5_⟩ : ∃ n, n = w5.heap.size := ⟨_, rfl⟩
        rw [← hu5_] at hP
        refine L_gy (dj := 55) rfl rfl rfl (X_fn (vs := [v5]) en8 rfl (CT.mono (c_rises _ _ _ _ _ hP) ?_))
        rintro _ w11 ⟨⟨g2, rfl, hg2⟩, hu11⟩
        have hz11 := hu11.size
        replace hl := hl.ext hu11
        replace hk := hk.ext hu11
        replace hU := hU.trans (Ext.upd hu11)
        replace ha := ha.ext hu11
        replace hb := hb.ext hu11
        replace hs := hs.ext hu11
        obtain rfl : g2 = true := hg2.2 (rises_ext hRi (by rw [List.length_append]; show 2 ≤ fs.length + 1; omega) fun i x hx => by
          rcases Nat.lt_or_ge i fs.length with h1 | h1
          · rw [List.getElem?_append_left h1] at hx; have h2 := map_at (hfs.trans has) hx; rw [List.getElem?_take] at h2; split at h2
            · obtain ⟨e, he, h3⟩ := at_map rfl h2; exact ⟨e, he, by rw [h3]⟩
            · cases h2
          · have h2 := (List.getElem?_eq_some_iff.1 hx).1; rw [List.length_append] at h2; have h2 : i < fs.length + 1 := h2; rw [List.getElem?_append_right h1, show i - fs.length = 0 by omega] at hx; simp at hx; subst hx; exact ⟨ek, by rw [show i = ((es.length + 1) / 2) by omega]; exact hek, rfl⟩)
        refine L_gy (dj := 55) rfl rfl rfl (X_not (b := true) (r := false) rfl rfl ?_)
        refine L_op rfl (X_pick (t := false) (v := (.bool (false))) rfl rfl ?_)
        refine L_nil ?_
        refine T_n ?_
        refine W_cf rfl ?_
        refine W_skip ?_
        refine T_n ?_
        refine W_seq ?_
        refine W_reg ?_
        refine L_op rfl (X_move (v := l) rfl ?_)
        refine L_op rfl (X_move (v := key) rfl ?_)
        refine L_op rfl (X_fn (vs := [l, key]) en14 rfl (CT.mono (c_find l key es m _ 0 n0 (by omega) hl hk) ?_))
        rintro _ w12 ⟨⟨at0, rfl, hF⟩, hu12⟩
        have hz12 := hu12.size
        replace hl := hl.ext hu12
        replace hk := hk.ext hu12
        replace hU := hU.trans (Ext.upd hu12)
        replace ha := ha.ext hu12
        replace hb := hb.ext hu12
        replace hs := hs.ext hu12
        have hFi := find_in hRi hF
        have hsr := split_right hRi hek hFi
        obtain ⟨e0, he0, _⟩ := hFi
        have hat0 := (List.getElem?_eq_some_iff.1 he0).1
        have hFi := find_in hRi hF
        refine L_op rfl (X_assign (v := (.int .i64 (((at0 : Nat) : Int)))) rfl ?_)
        refine L_nil ?_
        refine T_n ?_
        refine W_seq ?_
        refine W_reg ?_
        refine L_op rfl (X_move (v := s) rfl ?_)
        refine L_op rfl (X_str (v := s) (l := ek.2.1) Try.underlying23 Try.underlying5 Try.underlying9 rfl hs.1 ?_)
        refine L_op rfl (X_move (v := key) rfl ?_)
        refine L_op rfl (X_str (v := key) (l := m) Try.underlying23 Try.underlying5 Try.underlying9 rfl hk ?_)
        rcases Bool.eq_false_or_eq_true (scmp .leq (ek.2.1) (m)) with hc13 | hc13
        · refine L_op rfl (X_scmp (a := ek.2.1) (b := m) (r := true) rfl rfl rfl hc13 ?_)
          have hge := hsr.1 (of_decide_eq_true ((leq_cmp _ _).symm.trans hc13))
          refine L_op rfl (X_assign (v := (.bool (true))) rfl ?_)
          refine L_nil ?_
          refine T_n ?_
          refine W_seq ?_
          refine W_seq ?_
          refine W_reg ?_
          refine L_op rfl (X_move (v := (.int .i64 (((at0 : Nat) : Int)))) rfl ?_)
          refine L_op rfl (X_cmp (k := .i64) (a := ((at0 : Nat) : Int)) (b := 0) (r := false) rfl rfl rfl (decide_eq_false (p := ((((at0 : Nat) : Int)) : Int) < ((0) : Int)) (by omega)) ?_)
          refine L_op rfl (X_move (v := (.bool (false))) rfl ?_)
          refine L_gy (dj := 75) rfl rfl rfl (X_move (v := (.int .i64 (((at0 : Nat) : Int)))) rfl ?_)
          refine L_gy (dj := 75) rfl rfl rfl (X_move (v := l) rfl ?_)
          refine L_gy (dj := 75) rfl rfl rfl (X_len (v := l) (n := es.length) Try.underlying22 rfl hl.sv ?_)
          refine L_gy (dj := 75) rfl rfl rfl (X_cmp (k := .i64) (a := ((at0 : Nat) : Int)) (b := ((es.length : Nat) : Int)) (r := false) rfl rfl rfl (decide_eq_false (p := ((((es.length : Nat) : Int)) : Int) ≤ ((((at0 : Nat) : Int)) : Int)) (by omega)) ?_)
          refine L_op rfl (X_pick (t := false) (v := (.bool (false))) rfl rfl ?_)
          refine L_op rfl (X_move (v := (.bool (false))) rfl ?_)
          refine L_gy (dj := 81) rfl rfl rfl (X_move (v := (.bool (true))) rfl ?_)
          refine L_gy (dj := 81) rfl rfl rfl (X_move (v := (.int .i64 (((at0 : Nat) : Int)))) rfl ?_)
          refine L_gy (dj := 81) rfl rfl rfl (X_move (v := a) rfl ?_)
          refine L_gy (dj := 81) rfl rfl rfl (X_len (v := a) (n := as_.length) Try.underlying22 rfl ha.sv ?_)
          refine L_gy (dj := 81) rfl rfl rfl (X_cmp (k := .i64) (a := ((at0 : Nat) : Int)) (b := ((as_.length : Nat) : Int)) (r := true) rfl rfl rfl (decide_eq_true (p := (((as_.length : Nat) : Int) ≤ ((at0 : Nat) : Int))) (by omega)) ?_)
          refine L_gy (dj := 81) rfl rfl rfl (X_cmpBool (a := true) (b := true) (r := false) Try.underlying4 rfl rfl (.inr ⟨rfl, rfl⟩) ?_)
          refine L_op rfl (X_pick (t := false) (v := (.bool (false))) rfl rfl ?_)
          refine L_nil ?_
          refine T_n ?_
          refine W_cf rfl ?_
          refine W_skip ?_
          refine T_n ?_
          refine W_seq ?_
          refine W_seq ?_
          refine W_reg ?_
          refine L_op rfl (X_move (v := (.bool (true))) rfl ?_)
          refine L_nil ?_
          refine T_n ?_
          refine W_ct rfl ?_
          refine W_seq ?_
          refine W_reg ?_
          refine L_op rfl (X_move (v := b) rfl ?_)
          refine L_op rfl (X_move (v := key) rfl ?_)
          refine L_op rfl (X_fn (vs := [b, key]) en14 rfl (CT.mono (c_find b key bs m _ los ups (by omega) hb hk) ?_))
          rintro _ w14 ⟨⟨at1, rfl, hF1⟩, hu14⟩
          have hz14 := hu14.size
          replace hl := hl.ext hu14
          replace hk := hk.ext hu14
          replace hU := hU.trans (Ext.upd hu14)
          replace ha := ha.ext hu14
          replace hb := hb.ext hu14
          replace hs := hs.ext hu14
          obtain rfl := find_uniq (find_drop hbs hFi hge) hF1
          refine L_op rfl (X_move (v := (.int .i64 (((at0 : Nat) : Int)))) rfl ?_)
          refine L_op rfl (X_move (v := a) rfl ?_)
          refine L_op rfl (X_len (v := a) (n := as_.length) Try.underlying22 rfl ha.sv ?_)
          refine L_op rfl (X_arith (k := .i64) (a := ((at0 : Nat) : Int)) (b := ((as_.length : Nat) : Int)) (r := ((at0 : Nat) : Int) - ((as_.length : Nat) : Int)) rfl rfl rfl (isub64 rfl (by omega) (by omega)) ?_)
          refine L_op rfl (X_cmp (k := .i64) (a := ((at0 - ((es.length + 1) / 2) : Nat) : Int)) (b := ((at0 : Nat) : Int) - ((as_.length : Nat) : Int)) (r := true) rfl rfl rfl (decide_eq_true (p := ((((at0 - ((es.length + 1) / 2) : Nat) : Int)) : Int) = ((((at0 : Nat) : Int) - ((as_.length : Nat) : Int)) : Int)) (by omega)) ?_)
          refine L_op rfl (X_move (v := (.bool (true))) rfl ?_)
          refine L_gy (dj := 98) rfl rfl rfl (X_fn (vs := []) en9 rfl (CT.mono (c_wakes _) ?_))
          rintro vb15 w15 ⟨hvb15, hu15⟩
          have hz15 := hu15.size
          replace hl := hl.ext hu15
          replace hk := hk.ext hu15
          replace hU := hU.trans (Ext.upd hu15)
          replace ha := ha.ext hu15
          replace hb := hb.ext hu15
          replace hs := hs.ext hu15
          subst hvb15
          refine L_op rfl (X_pick (t := true) (v := (.bool (true))) rfl rfl ?_)
          refine L_op rfl (X_assign (v := (.bool (true))) rfl ?_)
          refine L_nil ?_
          refine T_n ?_
          refine W_ret ?_
          refine T_r ?_
          exact BQ_r (End_1 Try.results3 (v := .bool true) rfl ⟨rfl, hU.own hn0⟩)
        · refine L_op rfl (X_scmp (a := ek.2.1) (b := m) (r := false) rfl rfl rfl hc13 ?_)
          have hltk := hsr.2 (by have h9 := of_decide_eq_false ((leq_cmp _ _).symm.trans hc13); omega)
          refine L_op rfl (X_assign (v := (.bool (false))) rfl ?_)
          refine L_nil ?_
          refine T_n ?_
          refine W_seq ?_
          refine W_seq ?_
          refine W_reg ?_
          refine L_op rfl (X_move (v := (.int .i64 (((at0 : Nat) : Int)))) rfl ?_)
          refine L_op rfl (X_cmp (k := .i64) (a := ((at0 : Nat) : Int)) (b := 0) (r := false) rfl rfl rfl (decide_eq_false (p := ((((at0 : Nat) : Int)) : Int) < ((0) : Int)) (by omega)) ?_)
          refine L_op rfl (X_move (v := (.bool (false))) rfl ?_)
          refine L_gy (dj := 75) rfl rfl rfl (X_move (v := (.int .i64 (((at0 : Nat) : Int)))) rfl ?_)
          refine L_gy (dj := 75) rfl rfl rfl (X_move (v := l) rfl ?_)
          refine L_gy (dj := 75) rfl rfl rfl (X_len (v := l) (n := es.length) Try.underlying22 rfl hl.sv ?_)
          refine L_gy (dj := 75) rfl rfl rfl (X_cmp (k := .i64) (a := ((at0 : Nat) : Int)) (b := ((es.length : Nat) : Int)) (r := false) rfl rfl rfl (decide_eq_false (p := ((((es.length : Nat) : Int)) : Int) ≤ ((((at0 : Nat) : Int)) : Int)) (by omega)) ?_)
          refine L_op rfl (X_pick (t := false) (v := (.bool (false))) rfl rfl ?_)
          refine L_op rfl (X_move (v := (.bool (false))) rfl ?_)
          refine L_gy (dj := 81) rfl rfl rfl (X_move (v := (.bool (false))) rfl ?_)
          refine L_gy (dj := 81) rfl rfl rfl (X_move (v := (.int .i64 (((at0 : Nat) : Int)))) rfl ?_)
          refine L_gy (dj := 81) rfl rfl rfl (X_move (v := a) rfl ?_)
          refine L_gy (dj := 81) rfl rfl rfl (X_len (v := a) (n := as_.length) Try.underlying22 rfl ha.sv ?_)
          refine L_gy (dj := 81) rfl rfl rfl (X_cmp (k := .i64) (a := ((at0 : Nat) : Int)) (b := ((as_.length : Nat) : Int)) (r := false) rfl rfl rfl (decide_eq_false (p := (((as_.length : Nat) : Int) ≤ ((at0 : Nat) : Int))) (by omega)) ?_)
          refine L_gy (dj := 81) rfl rfl rfl (X_cmpBool (a := false) (b := false) (r := false) Try.underlying4 rfl rfl (.inr ⟨rfl, rfl⟩) ?_)
          refine L_op rfl (X_pick (t := false) (v := (.bool (false))) rfl rfl ?_)
          refine L_nil ?_
          refine T_n ?_
          refine W_cf rfl ?_
          refine W_skip ?_
          refine T_n ?_
          refine W_seq ?_
          refine W_seq ?_
          refine W_reg ?_
          refine L_op rfl (X_move (v := (.bool (false))) rfl ?_)
          refine L_nil ?_
          refine T_n ?_
          refine W_cf rfl ?_
          refine W_skip ?_
          refine T_n ?_
          refine W_seq ?_
          refine W_reg ?_
          refine L_op rfl (X_move (v := a) rfl ?_)
          refine L_op rfl (X_move (v := key) rfl ?_)
          refine L_op rfl (X_fn (vs := [a, key]) en14 rfl (CT.mono (c_find a key as_ m _ los ups (by omega) ha hk) ?_))
          rintro _ w16 ⟨⟨at1, rfl, hF1⟩, hu16⟩
          have hz16 := hu16.size
          replace hl := hl.ext hu16
          replace hk := hk.ext hu16
          replace hU := hU.trans (Ext.upd hu16)
          replace ha := ha.ext hu16
          replace hb := hb.ext hu16
          replace hs := hs.ext hu16
          obtain rfl := find_uniq (find_take has hFi hltk) hF1
          refine L_op rfl (X_move (v := (.int .i64 (((at0 : Nat) : Int)))) rfl ?_)
          refine L_op rfl (X_cmp (k := .i64) (a := ((at0 : Nat) : Int)) (b := ((at0 : Nat) : Int)) (r := true) rfl rfl rfl (decide_eq_true (p := ((((at0 : Nat) : Int)) : Int) = ((((at0 : Nat) : Int)) : Int)) (by omega)) ?_)
          refine L_op rfl (X_move (v := (.bool (true))) rfl ?_)
          refine L_gy (dj := 106) rfl rfl rfl (X_fn (vs := []) en9 rfl (CT.mono (c_wakes _) ?_))
          rintro vb17 w17 ⟨hvb17, hu17⟩
          have hz17 := hu17.size
          replace hl := hl.ext hu17
          replace hk := hk.ext hu17
          replace hU := hU.trans (Ext.upd hu17)
          replace ha := ha.ext hu17
          replace hb := hb.ext hu17
          replace hs := hs.ext hu17
          subst hvb17
          refine L_op rfl (X_pick (t := true) (v := (.bool (true))) rfl rfl ?_)
          refine L_op rfl (X_assign (v := (.bool (true))) rfl ?_)
          refine L_nil ?_
          refine T_n ?_
          refine W_ret ?_
          exact BQ_r (End_1 Try.results3 (v := .bool true) rfl ⟨rfl, hU.own hn0⟩)
      · rw [hc6]
        refine L_gy (dj := 17) rfl rfl rfl (X_not (b := false) (r := true) rfl rfl ?_)
        refine L_op rfl (X_pick (t := false) (v := (.bool (true))) rfl rfl ?_)
        refine L_nil ?_
        refine T_n ?_
        refine W_ct rfl ?_
        refine W_seq ?_
        refine W_reg ?_
        refine L_op rfl (X_fn (vs := []) en9 rfl (CT.mono (c_wakes _) ?_))
        rintro vb18 w18 ⟨hvb18, hu18⟩
        have hz18 := hu18.size
        replace hl := hl.ext hu18
        replace hk := hk.ext hu18
        replace hU := hU.trans (Ext.upd hu18)
        subst hvb18
        refine L_op rfl (X_assign (v := (.bool (true))) rfl ?_)
        refine L_nil ?_
        refine T_n ?_
        refine W_ret ?_
        refine T_r ?_
        exact BQ_r (End_1 Try.results3 (v := .bool true) rfl ⟨rfl, hU.own hn0⟩)
end Go.Proofs.Ytpjhadhniokgjaa
