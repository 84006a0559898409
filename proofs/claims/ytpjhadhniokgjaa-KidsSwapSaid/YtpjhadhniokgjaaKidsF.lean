/-
  More contracts of chapter 16: Split, Join, Swap. (Printed by wip/gen/t16f.py of this repo.)
-/
import Derived.Test.YtpjhadhniokgjaaKidsE
import Derived.Test.YtpjhadhniokgjaaBaseM
namespace Go.Proofs.Ytpjhadhniokgjaa
open Go Go.SL Go.Proofs

theorem c_split (l : Value) (es : List KE) (w : World) (lo up : Nat) (hup : up ≤ w.heap.size) (hl : NRd LK w lo up l es) (hkl : KeyOK es) (hlen : es.length ≤ 1099511627776) : CT Try.prog 10 #[l] w fun v w' => ∃ a s b as_ bs sl, v = .tuple #[a, s, b] ∧ NRd LK w' w.heap.size w'.heap.size a as_ ∧ BRd w' w.heap.size w'.heap.size (s, sl) ∧ NRd LK w' w.heap.size w'.heap.size b bs ∧ as_.map (·.2) = (es.map (·.2)).take ((es.length + 1) / 2) ∧ bs.map (·.2) = bareK ((es.map (·.2)).drop ((es.length + 1) / 2)) ∧ sl = headK ((es.map (·.2)).drop ((es.length + 1) / 2)) ∧ Ext w w' := by
  obtain ⟨n0, hn0⟩ : ∃ n, n = w.heap.size := ⟨_, rfl⟩
  have hU : Upd (fun i => n0 ≤ i) w w := Upd.refl _ _
  rw [← hn0] at hup
  refine CT_of Try.func10 rfl rfl rfl ?_
  refine W_seq ?_
  refine W_reg ?_
  refine L_op rfl (X_assign (v := (.slice none 0 0)) rfl ?_)
  refine L_op rfl (X_assign (v := (.slice none 0 0)) rfl ?_)
  refine L_op rfl (X_assign (v := (.slice none 0 0)) rfl ?_)
  refine L_nil ?_
  refine T_n ?_
  refine W_seq ?_
  refine W_reg ?_
  refine L_op rfl (X_move (v := l) rfl ?_)
  refine L_op rfl (X_fn (vs := [l]) en19 rfl (CT.mono (c_own _ es _ lo up (by omega) hl hkl hlen) ?_))
  rintro v1 w1 ⟨fs, hN, hdi, hfs, hu1⟩
  have hz1 := hu1.size
  replace hl := hl.ext hu1
  replace hU := hU.trans (Ext.upd hu1)
  have hfl : fs.length = es.length := by have h := congrArg List.length hfs; rwa [List.length_map, List.length_map] at h
  refine L_op rfl (X_move (v := l) rfl ?_)
  refine L_op rfl (X_len (v := l) (n := es.length) Try.underlying22 rfl hl.sv ?_)
  refine L_op rfl (X_arith (k := .i64) (a := ((es.length : Nat) : Int)) (b := 1) (r := ((es.length : Nat) : Int) + 1) rfl rfl rfl (iadd64 rfl (by omega) (by omega)) ?_)
  refine L_op rfl (X_arith (k := .i64) (a := ((es.length : Nat) : Int) + 1) (b := 2) (r := (((es.length : Nat) : Int) + 1) / 2) rfl rfl rfl (iquo64 (by omega) rfl (by omega) (by omega)) ?_)
  have hK : min ((((es.length : Nat) : Int) + 1) / 2).toNat fs.length = ((es.length + 1) / 2) := by omega
  have hkle : ((es.length + 1) / 2) ≤ fs.length := by omega
  refine L_op rfl (X_fn (vs := [v1, (.int .i64 ((((es.length : Nat) : Int) + 1) / 2))]) en18 rfl (CT.mono (c_cut v1 _ fs.length _ hN.1.sv) ?_))
  rintro vt w2 ⟨hvt, hu2⟩
  rw [hK] at hvt; subst hvt
  have hz2 := hu2.size
  replace hl := hl.ext hu2
  replace hU := hU.trans (Ext.upd hu2)
  replace hN := hN.ext hu2
  refine L_op rfl (X_move (v := (.tuple #[(headv v1 ((es.length + 1) / 2) ((es.length + 1) / 2)), (cutv v1 6 ((es.length + 1) / 2) fs.length)])) rfl ?_)
  refine L_op rfl (X_extract (l := [(headv v1 ((es.length + 1) / 2) ((es.length + 1) / 2)), (cutv v1 6 ((es.length + 1) / 2) fs.length)]) (v := (headv v1 ((es.length + 1) / 2) ((es.length + 1) / 2))) rfl rfl ?_)
  refine L_op rfl (X_extract (l := [(headv v1 ((es.length + 1) / 2) ((es.length + 1) / 2)), (cutv v1 6 ((es.length + 1) / 2) fs.length)]) (v := (cutv v1 6 ((es.length + 1) / 2) fs.length)) rfl rfl ?_)
  refine L_op rfl (X_assign (v := (headv v1 ((es.length + 1) / 2) ((es.length + 1) / 2))) rfl ?_)
  refine L_op rfl (X_assign (v := (cutv v1 6 ((es.length + 1) / 2) fs.length)) rfl ?_)
  refine L_nil ?_
  refine T_n ?_
  refine W_seq ?_
  refine W_seq ?_
  refine W_reg ?_
  refine L_op rfl (X_move (v := (cutv v1 6 ((es.length + 1) / 2) fs.length)) rfl ?_)
  refine L_op rfl (X_len (v := (cutv v1 6 ((es.length + 1) / 2) fs.length)) (n := (fs.drop ((es.length + 1) / 2)).length) Try.underlying22 rfl (hN.rd.tail hkle).sv ?_)
  by_cases hc1 : ((((fs.drop ((es.length + 1) / 2)).length : Nat) : Int) : Int) > (0)
  · refine L_op rfl (X_cmp (k := .i64) (a := (((fs.drop ((es.length + 1) / 2)).length : Nat) : Int)) (b := 0) (r := true) rfl rfl rfl (decide_eq_true (p := ((0) : Int) < (((((fs.drop ((es.length + 1) / 2)).length : Nat) : Int)) : Int)) (by omega)) ?_)
    have hkN : ((es.length + 1) / 2) < fs.length := by rw [List.length_drop] at hc1; omega
    obtain ⟨e, he⟩ : ∃ e, fs[((es.length + 1) / 2)]? = some e := ⟨_, List.getElem?_eq_getElem hkN⟩
    have he0 : (fs.drop ((es.length + 1) / 2))[0]? = some e := by rw [List.getElem?_drop, Nat.add_zero]; exact he
    refine L_nil ?_
    refine T_n ?_
    refine W_ct rfl ?_
    refine W_reg ?_
    refine L_op rfl (X_move (v := (cutv v1 6 ((es.length + 1) / 2) fs.length)) rfl ?_)
    refine L_op rfl (X_idx (v := (cutv v1 6 ((es.length + 1) / 2) fs.length)) (n := (fs.drop ((es.length + 1) / 2)).length) (k := .i64) (i := 0) S22 rfl (hN.rd.tail hkle).sv rfl (by omega) (by omega) ?_)
    refine L_op rfl (X_fldS (v := (cutv v1 6 ((es.length + 1) / 2) fs.length)) (o := (0 : Int).toNat * 6) Fd39_0 rfl (hN.rd.tail hkle).sv (by omega) ?_)
    refine L_op rfl (X_load (v := e.1) T23 rfl (kkey (hN.rd.tail hkle) (rfl) he0) ?_)
    refine L_op rfl (X_assign (v := e.1) rfl ?_)
    refine L_nil ?_
    refine T_n ?_
    refine W_seq ?_
    refine W_reg ?_
    refine L_op rfl (X_move (v := (headv v1 ((es.length + 1) / 2) ((es.length + 1) / 2))) rfl ?_)
    refine L_op rfl (X_move (v := e.1) rfl ?_)
    refine L_op rfl (X_move (v := (cutv v1 6 ((es.length + 1) / 2) fs.length)) rfl ?_)
    refine L_op rfl (X_fn (vs := [(cutv v1 6 ((es.length + 1) / 2) fs.length), (.slice none 0 0)]) en20 rfl (CT.mono (c_named v1 _ fs e ((es.length + 1) / 2) [] _ n0 w1.heap.size (by omega) (by omega) (hN.mono (by omega) (Nat.le_refl _)) he (by decide) (Rd.nil _ 1)) ?_))
    rintro _ w3 ⟨rfl, kv, hN3, hkv, hu3⟩
    refine L_op rfl (X_assign (v := (headv v1 ((es.length + 1) / 2) ((es.length + 1) / 2))) rfl ?_)
    refine L_op rfl (X_assign (v := e.1) rfl ?_)
    refine L_op rfl (X_assign (v := (cutv v1 6 ((es.length + 1) / 2) fs.length)) rfl ?_)
    refine L_nil ?_
    refine T_n ?_
    refine W_ret ?_
    refine BQ_r (End_3 Try.results10 (v1 := headv v1 ((es.length + 1) / 2) ((es.length + 1) / 2)) (v2 := e.1) (v3 := cutv v1 6 ((es.length + 1) / 2) fs.length) rfl rfl rfl ⟨_, e.1, _, (fs.set ((es.length + 1) / 2) (kv, [], e.2.2)).take ((es.length + 1) / 2), (fs.set ((es.length + 1) / 2) (kv, [], e.2.2)).drop ((es.length + 1) / 2), e.2.1, rfl, ?_, ?_, ?_, ?_, ?_, ?_, ?_⟩)
    · exact (hN3.rd.head (by rw [List.length_set]; exact hkle)).mono (by omega) (Nat.le_refl _)
    · exact ((hN.mono (lo' := n0) (by omega) (Nat.le_refl _)).sub_keep (by decide) (List.mem_of_getElem? he) (show (e.1, e.2.1) ∈ [(e.1, e.2.1)] by simp) hu3).rd.mono (by omega) (by have := hu3.size; omega)
    · have h := hN3.rd.tail (k := ((es.length + 1) / 2)) (by rw [List.length_set]; exact hkle); rw [List.length_set] at h; exact h.mono (by omega) (Nat.le_refl _)
    · rw [set_take, hfs]
    · rw [set_drop he, hfs, bare_name]
    · rw [← hfs, map_drop_cons he]; rfl
    · exact (hU.trans (hu3.mono fun i _ h => by have := (hN.1.lt h).1; show n0 ≤ i; omega)).own hn0
  · refine L_op rfl (X_cmp (k := .i64) (a := (((fs.drop ((es.length + 1) / 2)).length : Nat) : Int)) (b := 0) (r := false) rfl rfl rfl (decide_eq_false (p := ((0) : Int) < (((((fs.drop ((es.length + 1) / 2)).length : Nat) : Int)) : Int)) (by omega)) ?_)
    have hd0 : (fs.drop ((es.length + 1) / 2)).length = 0 := by omega
    have hd1 : (es.map (·.2)).drop ((es.length + 1) / 2) = [] := by rw [← hfs, ← List.map_drop, List.eq_nil_of_length_eq_zero hd0]; rfl
    refine L_nil ?_
    refine T_n ?_
    refine W_cf rfl ?_
    refine W_skip ?_
    refine T_n ?_
    refine W_seq ?_
    refine W_reg ?_
    refine L_op rfl (X_move (v := (headv v1 ((es.length + 1) / 2) ((es.length + 1) / 2))) rfl ?_)
    refine L_op rfl (X_move (v := (.slice none 0 0)) rfl ?_)
    refine L_op rfl (X_move (v := (cutv v1 6 ((es.length + 1) / 2) fs.length)) rfl ?_)
    refine L_op rfl (X_fn (vs := [(cutv v1 6 ((es.length + 1) / 2) fs.length), (.slice none 0 0)]) en20 rfl (CT.mono (c_named0 _ _ _ (by have h := (hN.rd.tail hkle).sv; rwa [hd0] at h)) ?_))
    rintro _ _ ⟨rfl, rfl⟩
    refine L_op rfl (X_assign (v := (headv v1 ((es.length + 1) / 2) ((es.length + 1) / 2))) rfl ?_)
    refine L_op rfl (X_assign (v := (.slice none 0 0)) rfl ?_)
    refine L_op rfl (X_assign (v := (cutv v1 6 ((es.length + 1) / 2) fs.length)) rfl ?_)
    refine L_nil ?_
    refine T_n ?_
    refine W_ret ?_
    refine BQ_r (End_3 Try.results10 (v1 := headv v1 ((es.length + 1) / 2) ((es.length + 1) / 2)) (v2 := .slice none 0 0) (v3 := cutv v1 6 ((es.length + 1) / 2) fs.length) rfl rfl rfl ⟨_, _, _, fs.take ((es.length + 1) / 2), fs.drop ((es.length + 1) / 2), [], rfl, ?_, ?_, ?_, ?_, ?_, ?_, ?_⟩)
    · exact (hN.rd.head hkle).mono (by omega) (by omega)
    · exact BRd.nil _ _ _
    · exact (hN.rd.tail hkle).mono (by omega) (by omega)
    · rw [List.map_take, hfs]
    · rw [hd1, List.eq_nil_of_length_eq_zero hd0]; rfl
    · rw [hd1]; rfl
    · exact hU.own hn0

theorem c_join (l key r : Value) (es rs : List KE) (m : List UInt8) (w : World) (lo up lo2 up2 : Nat) (hup : up ≤ w.heap.size) (hup2 : up2 ≤ w.heap.size) (hl : NRd LK w lo up l es) (hr : NRd LK w lo2 up2 r rs) (hk : Rd w 1 key m.length (m.map byteV)) (hkl : KeyOK es) (hkr : KeyOK rs) (hm : m.length ≤ 140737488355328) (hlen : es.length ≤ 1099511627776) (hlen2 : rs.length ≤ 1099511627776) : CT Try.prog 12 #[l, key, r] w fun v w' => ∃ gs, NRd LK w' w.heap.size w'.heap.size v gs ∧ gs.map (·.2) = es.map (·.2) ++ nameK (if es.length = 0 then [] else m) (rs.map (·.2)) ∧ Ext w w' := by
  obtain ⟨n0, hn0⟩ : ∃ n, n = w.heap.size := ⟨_, rfl⟩
  have hU : Upd (fun i => n0 ≤ i) w w := Upd.refl _ _
  have hk_b : ∀ i, rbk key = some i → i < n0 := by rw [hn0]; exact fun i hi => hk.bound (by decide) hi
  rw [← hn0] at hup hup2
  refine CT_of Try.func12 rfl rfl rfl ?_
  refine W_seq ?_
  refine W_reg ?_
  refine L_op rfl (X_assign (v := (.slice none 0 0)) rfl ?_)
  refine L_nil ?_
  refine T_n ?_
  refine W_seq ?_
  refine W_seq ?_
  refine W_reg ?_
  refine L_op rfl (X_move (v := l) rfl ?_)
  refine L_op rfl (X_len (v := l) (n := es.length) Try.underlying22 rfl hl.sv ?_)
  by_cases hc1 : (((es.length : Nat) : Int) : Int) = (0)
  · refine L_op rfl (X_cmp (k := .i64) (a := ((es.length : Nat) : Int)) (b := 0) (r := true) rfl rfl rfl (decide_eq_true (p := ((((es.length : Nat) : Int)) : Int) = ((0) : Int)) (by omega)) ?_)
    refine L_nil ?_
    refine T_n ?_
    refine W_ct rfl ?_
    refine W_reg ?_
    refine L_op rfl (X_assign (v := (.slice none 0 0)) rfl ?_)
    refine L_nil ?_
    refine T_n ?_
    refine W_seq ?_
    refine W_reg ?_
    refine L_op rfl (X_move (v := l) rfl ?_)
    refine L_op rfl (X_fn (vs := [l]) en19 rfl (CT.mono (c_own _ es _ lo up (by omega) hl hkl hlen) ?_))
    rintro v2 w2 ⟨fs, hA, hdi2, hfs2, hu2⟩
    have hz2 := hu2.size
    replace hl := hl.ext hu2
    replace hr := hr.ext hu2
    replace hk := hk.ext hu2
    replace hU := hU.trans (Ext.upd hu2)
    have hfl2 : fs.length = es.length := by have h := congrArg List.length hfs2; rwa [List.length_map, List.length_map] at h
    refine L_op rfl (X_move (v := r) rfl ?_)
    refine L_op rfl (X_fn (vs := [r]) en19 rfl (CT.mono (c_own _ rs _ lo2 up2 (by omega) hr hkr hlen2) ?_))
    rintro v3 w3 ⟨gs, hR, hdi3, hfs3, hu3⟩
    have hz3 := hu3.size
    replace hl := hl.ext hu3
    replace hr := hr.ext hu3
    replace hk := hk.ext hu3
    replace hU := hU.trans (Ext.upd hu3)
    replace hA := hA.ext hu3
    have hfl3 : gs.length = rs.length := by have h := congrArg List.length hfs3; rwa [List.length_map, List.length_map] at h
    refine L_op rfl (X_move (v := (.slice none 0 0)) rfl ?_)
    rcases Nat.eq_zero_or_pos gs.length with hg | hg
    · refine L_op rfl (X_fn (vs := [v3, (.slice none 0 0)]) en20 rfl (CT.mono (c_named0 _ _ _ (hg ▸ hR.1.sv)) ?_))
      rintro _ _ ⟨rfl, rfl⟩
      have hG : gs.map (·.2) = nameK [] (rs.map (·.2)) := by rw [List.eq_nil_of_length_eq_zero hg, ← hfs3, List.eq_nil_of_length_eq_zero hg]; rfl
      have hGl : gs.length = rs.length := by omega
      refine L_op rfl (X_append (B := w.heap.size) (n := fs.length) (s := v2) (x := v3) S22 ⟨_, Try.underlying22⟩ rfl rfl hA.1 hR.1.rd hR.rd.sub_one (by unfold maxLen; omega) (by omega) (by omega) ?_)
      intro v9 w9 hO9 hu9 _
      have hz9 := hu9.size
      have hF := NOwn.append (by decide) hA hR (by omega) hO9 hu9 (by omega) (by omega)
      replace hU := hU.trans (hu9.mono fun i _ h => by have := (hA.1.lt h).1; show n0 ≤ i; omega)
      refine L_op rfl (X_assign (v := v9) rfl ?_)
      refine L_nil ?_
      refine T_n ?_
      refine W_ret ?_
      exact BQ_r (End_1 Try.results12 (v := v9) rfl ⟨fs ++ gs, hF.rd.mono (by omega) (Nat.le_refl _), by rw [List.map_append, hfs2, hG]; rw [if_pos (by omega)], hU.own hn0⟩)
    · obtain ⟨e, he⟩ : ∃ e, gs[0]? = some e := ⟨_, List.getElem?_eq_getElem hg⟩
      have hnm := c_named v3 (.slice none 0 0) gs e 0 [] _ w2.heap.size w3.heap.size (by omega) (by omega) hR he (by decide) (Rd.nil _ 1)
      rw [cutv_all hR.1.sv] at hnm
      refine L_op rfl (X_fn (vs := [v3, (.slice none 0 0)]) en20 rfl (CT.mono hnm ?_))
      rintro r_ w4 ⟨hr_, kv, hR2, hkv, hu4⟩
      have hr2_ := hr_.symm; subst hr2_
      have hz4 := hu4.size
      replace hl := hl.upd hu4 fun i h1 h2 h => by have h := hR.1.lt h; omega
      replace hr := hr.upd hu4 fun i h1 h2 h => by have h := hR.1.lt h; omega
      replace hk := hk.upd hu4 fun i hi h => by have hi := hk_b _ hi; have h := hR.1.lt h; omega
      replace hU := hU.trans (hu4.mono fun i _ h => by have h := hR.1.lt h; show n0 ≤ i; omega)
      replace hA := hA.upd hu4 fun i h1 h2 h => by have h := hR.1.lt h; omega
      replace hR := hR2
      have hG : (gs.set 0 (kv, [], e.2.2)).map (·.2) = nameK [] (rs.map (·.2)) := by have h := set_drop he kv []; rwa [List.drop_zero, List.drop_zero, hfs3] at h
      have hGl : (gs.set 0 (kv, [], e.2.2)).length = rs.length := by rw [List.length_set]; omega
      refine L_op rfl (X_append (B := w.heap.size) (n := fs.length) (s := v2) (x := v3) S22 ⟨_, Try.underlying22⟩ rfl rfl hA.1 hR.1.rd hR.rd.sub_one (by unfold maxLen; omega) (by omega) (by omega) ?_)
      intro v9 w9 hO9 hu9 _
      have hz9 := hu9.size
      have hF := NOwn.append (by decide) hA hR (by omega) hO9 hu9 (by omega) (by omega)
      replace hU := hU.trans (hu9.mono fun i _ h => by have := (hA.1.lt h).1; show n0 ≤ i; omega)
      refine L_op rfl (X_assign (v := v9) rfl ?_)
      refine L_nil ?_
      refine T_n ?_
      refine W_ret ?_
      exact BQ_r (End_1 Try.results12 (v := v9) rfl ⟨fs ++ (gs.set 0 (kv, [], e.2.2)), hF.rd.mono (by omega) (Nat.le_refl _), by rw [List.map_append, hfs2, hG]; rw [if_pos (by omega)], hU.own hn0⟩)
  · refine L_op rfl (X_cmp (k := .i64) (a := ((es.length : Nat) : Int)) (b := 0) (r := false) rfl rfl rfl (decide_eq_false (p := ((((es.length : Nat) : Int)) : Int) = ((0) : Int)) (by omega)) ?_)
    refine L_nil ?_
    refine T_n ?_
    refine W_cf rfl ?_
    refine W_skip ?_
    refine T_n ?_
    refine W_seq ?_
    refine W_reg ?_
    refine L_op rfl (X_move (v := l) rfl ?_)
    refine L_op rfl (X_fn (vs := [l]) en19 rfl (CT.mono (c_own _ es _ lo up (by omega) hl hkl hlen) ?_))
    rintro v5 w5 ⟨fs, hA, hdi5, hfs5, hu5⟩
    have hz5 := hu5.size
    replace hl := hl.ext hu5
    replace hr := hr.ext hu5
    replace hk := hk.ext hu5
    replace hU := hU.trans (Ext.upd hu5)
    have hfl5 : fs.length = es.length := by have h := congrArg List.length hfs5; rwa [List.length_map, List.length_map] at h
    refine L_op rfl (X_move (v := r) rfl ?_)
    refine L_op rfl (X_fn (vs := [r]) en19 rfl (CT.mono (c_own _ rs _ lo2 up2 (by omega) hr hkr hlen2) ?_))
    rintro v6 w6 ⟨gs, hR, hdi6, hfs6, hu6⟩
    have hz6 := hu6.size
    replace hl := hl.ext hu6
    replace hr := hr.ext hu6
    replace hk := hk.ext hu6
    replace hU := hU.trans (Ext.upd hu6)
    replace hA := hA.ext hu6
    have hfl6 : gs.length = rs.length := by have h := congrArg List.length hfs6; rwa [List.length_map, List.length_map] at h
    refine L_op rfl (X_move (v := key) rfl ?_)
    rcases Nat.eq_zero_or_pos gs.length with hg | hg
    · refine L_op rfl (X_fn (vs := [v6, key]) en20 rfl (CT.mono (c_named0 _ _ _ (hg ▸ hR.1.sv)) ?_))
      rintro _ _ ⟨rfl, rfl⟩
      have hG : gs.map (·.2) = nameK m (rs.map (·.2)) := by rw [List.eq_nil_of_length_eq_zero hg, ← hfs6, List.eq_nil_of_length_eq_zero hg]; rfl
      have hGl : gs.length = rs.length := by omega
      refine L_op rfl (X_append (B := w.heap.size) (n := fs.length) (s := v5) (x := v6) S22 ⟨_, Try.underlying22⟩ rfl rfl hA.1 hR.1.rd hR.rd.sub_one (by unfold maxLen; omega) (by omega) (by omega) ?_)
      intro v9 w9 hO9 hu9 _
      have hz9 := hu9.size
      have hF := NOwn.append (by decide) hA hR (by omega) hO9 hu9 (by omega) (by omega)
      replace hU := hU.trans (hu9.mono fun i _ h => by have := (hA.1.lt h).1; show n0 ≤ i; omega)
      refine L_op rfl (X_assign (v := v9) rfl ?_)
      refine L_nil ?_
      refine T_n ?_
      refine W_ret ?_
      exact BQ_r (End_1 Try.results12 (v := v9) rfl ⟨fs ++ gs, hF.rd.mono (by omega) (Nat.le_refl _), by rw [List.map_append, hfs5, hG]; rw [if_neg (by omega)], hU.own hn0⟩)
    · obtain ⟨e, he⟩ : ∃ e, gs[0]? = some e := ⟨_, List.getElem?_eq_getElem hg⟩
      have hnm := c_named v6 key gs e 0 m _ w5.heap.size w6.heap.size (by omega) (by omega) hR he hm hk
      rw [cutv_all hR.1.sv] at hnm
      refine L_op rfl (X_fn (vs := [v6, key]) en20 rfl (CT.mono hnm ?_))
      rintro r_ w7 ⟨hr_, kv, hR2, hkv, hu7⟩
      have hr2_ := hr_.symm; subst hr2_
      have hz7 := hu7.size
      replace hl := hl.upd hu7 fun i h1 h2 h => by have h := hR.1.lt h; omega
      replace hr := hr.upd hu7 fun i h1 h2 h => by have h := hR.1.lt h; omega
      replace hk := hk.upd hu7 fun i hi h => by have hi := hk_b _ hi; have h := hR.1.lt h; omega
      replace hU := hU.trans (hu7.mono fun i _ h => by have h := hR.1.lt h; show n0 ≤ i; omega)
      replace hA := hA.upd hu7 fun i h1 h2 h => by have h := hR.1.lt h; omega
      replace hR := hR2
      have hG : (gs.set 0 (kv, m, e.2.2)).map (·.2) = nameK m (rs.map (·.2)) := by have h := set_drop he kv m; rwa [List.drop_zero, List.drop_zero, hfs6] at h
      have hGl : (gs.set 0 (kv, m, e.2.2)).length = rs.length := by rw [List.length_set]; omega
      refine L_op rfl (X_append (B := w.heap.size) (n := fs.length) (s := v5) (x := v6) S22 ⟨_, Try.underlying22⟩ rfl rfl hA.1 hR.1.rd hR.rd.sub_one (by unfold maxLen; omega) (by omega) (by omega) ?_)
      intro v9 w9 hO9 hu9 _
      have hz9 := hu9.size
      have hF := NOwn.append (by decide) hA hR (by omega) hO9 hu9 (by omega) (by omega)
      replace hU := hU.trans (hu9.mono fun i _ h => by have := (hA.1.lt h).1; show n0 ≤ i; omega)
      refine L_op rfl (X_assign (v := v9) rfl ?_)
      refine L_nil ?_
      refine T_n ?_
      refine W_ret ?_
      exact BQ_r (End_1 Try.results12 (v := v9) rfl ⟨fs ++ (gs.set 0 (kv, m, e.2.2)), hF.rd.mono (by omega) (Nat.le_refl _), by rw [List.map_append, hfs5, hG]; rw [if_neg (by omega)], hU.own hn0⟩)
end Go.Proofs.Ytpjhadhniokgjaa
