/-
  More contracts of chapter 16: Even. (Printed by wip/gen/t16even.py of this repo.)
-/
import Derived.Test.YtpjhadhniokgjaaSplit
namespace Go.Proofs.Ytpjhadhniokgjaa
open Go Go.SL Go.Proofs

theorem nameK_length (m : List UInt8) (l : List KD) : (nameK m l).length = l.length := by cases l <;> rfl
theorem nameK_key {m : List UInt8} {rs : List KE} (h : KeyOK rs) (hm : m.length ≤ 140737488355328) {d : KD} (hd : d ∈ nameK m (rs.map (·.2))) : d.1.length ≤ 140737488355328 := by
  cases rs with
  | nil => cases hd
  | cons a r =>
    rcases List.mem_cons.1 (show d ∈ (m, a.2.2) :: r.map (·.2) from hd) with rfl | hd
    · exact hm
    · obtain ⟨e, he, rfl⟩ := List.mem_map.1 hd
      exact h.mem e (List.mem_cons_of_mem _ he)
theorem key_join {es rs js : List KE} {m : List UInt8} (h : KeyOK es) (h2 : KeyOK rs) (hm : m.length ≤ 140737488355328) (hj : js.map (·.2) = es.map (·.2) ++ nameK m (rs.map (·.2))) : KeyOK js := KeyOK.of fun e he => by
  have h1 : e.2 ∈ es.map (·.2) ++ nameK m (rs.map (·.2)) := by rw [← hj]; exact List.mem_map_of_mem he
  rcases List.mem_append.1 h1 with h3 | h3
  · obtain ⟨e', he', h4⟩ := List.mem_map.1 h3
    rw [← h4]; exact h.mem e' he'
  · exact nameK_key h2 hm h3

theorem c_even (l key r : Value) (es rs : List KE) (m : List UInt8) (w : World) (lo up lo2 up2 : Nat) (hup : up ≤ w.heap.size) (hup2 : up2 ≤ w.heap.size) (hl : NRd LK w lo up l es) (hr : NRd LK w lo2 up2 r rs) (hk : Rd w 1 key m.length (m.map byteV)) (hkl : KeyOK es) (hkr : KeyOK rs) (hm : m.length ≤ 140737488355328) (hlen : es.length ≤ 549755813888) (hlen2 : rs.length ≤ 549755813888) (hne : ¬ es.length = 0) : CT Try.prog 16 #[l, key, r] w fun v w' => ∃ a s b as_ bs sl, v = .tuple #[a, s, b] ∧ NRd LK w' w.heap.size w'.heap.size a as_ ∧ BRd w' w.heap.size w'.heap.size (s, sl) ∧ NRd LK w' w.heap.size w'.heap.size b bs ∧ as_.map (·.2) = (es.map (·.2) ++ nameK m (rs.map (·.2))).take ((es.length + rs.length + 1) / 2) ∧ bs.map (·.2) = bareK ((es.map (·.2) ++ nameK m (rs.map (·.2))).drop ((es.length + rs.length + 1) / 2)) ∧ sl = headK ((es.map (·.2) ++ nameK m (rs.map (·.2))).drop ((es.length + rs.length + 1) / 2)) ∧ Ext w w' := by
  obtain ⟨n0, hn0⟩ : ∃ n, n = w.heap.size := ⟨_, rfl⟩
  have hU : Upd (fun i => n0 ≤ i) w w := Upd.refl _ _
  have hk_b : ∀ i, rbk key = some i → i < n0 := by rw [hn0]; exact fun i hi => hk.bound (by decide) hi
  rw [← hn0] at hup hup2
  refine CT_of Try.func16 rfl rfl rfl ?_
  refine W_seq ?_
  refine W_reg ?_
  refine L_op rfl (X_assign (v := (.slice none 0 0)) rfl ?_)
  refine L_op rfl (X_assign (v := (.slice none 0 0)) rfl ?_)
  refine L_op rfl (X_assign (v := (.slice none 0 0)) rfl ?_)
  refine L_nil ?_
  refine T_n ?_
  refine W_seq ?_
  refine W_reg ?_
  refine L_op rfl (X_move (v := l) rfl ?_)
  refine L_op rfl (X_move (v := key) rfl ?_)
  refine L_op rfl (X_move (v := r) rfl ?_)
  refine L_op rfl (X_fn (vs := [l, key, r]) en12 rfl (CT.mono (c_join l key r es rs m _ lo up lo2 up2 (by omega) (by omega) hl hr hk hkl hkr hm (by omega) (by omega)) ?_))
  rintro vj w1 ⟨js, hJ, hjs, hu1⟩
  have hz1 := hu1.size
  replace hl := hl.ext hu1
  replace hr := hr.ext hu1
  replace hk := hk.ext hu1
  replace hU := hU.trans (Ext.upd hu1)
  obtain ⟨uj, huj⟩ : ∃ n, n = w1.heap.size := ⟨_, rfl⟩
  rw [← huj] at hJ
  rw [if_neg hne] at hjs
  have hjl : js.length = es.length + rs.length := by have h := congrArg List.length hjs; rw [List.length_map, List.length_append, List.length_map, nameK_length, List.length_map] at h; exact h
  refine L_op rfl (X_fn (vs := [vj]) en10 rfl (CT.mono (c_split vj js _ _ uj (by omega) hJ (key_join hkl hkr hm hjs) (by omega)) ?_))
  rintro _ w2 ⟨a, s, b, as_, bs, sl, rfl, ha, hs, hb, has, hbs, hsl, hu2⟩
  have hz2 := hu2.size
  replace hl := hl.ext hu2
  replace hr := hr.ext hu2
  replace hk := hk.ext hu2
  replace hU := hU.trans (Ext.upd hu2)
  replace hJ := hJ.ext hu2
  rw [hjs, hjl] at has hbs hsl
  refine L_op rfl (X_extract (l := [a, s, b]) (v := a) rfl rfl ?_)
  refine L_op rfl (X_extract (l := [a, s, b]) (v := s) rfl rfl ?_)
  refine L_op rfl (X_extract (l := [a, s, b]) (v := b) rfl rfl ?_)
  refine L_op rfl (X_assign (v := a) rfl ?_)
  refine L_op rfl (X_assign (v := s) rfl ?_)
  refine L_op rfl (X_assign (v := b) rfl ?_)
  refine L_nil ?_
  refine T_n ?_
  refine W_ret ?_
  exact BQ_r (End_3 Try.results16 (v1 := a) (v2 := s) (v3 := b) rfl rfl rfl ⟨a, s, b, as_, bs, sl, rfl, ha.mono (by omega) (Nat.le_refl _), hs.mono (by omega) (Nat.le_refl _), hb.mono (by omega) (Nat.le_refl _), has, hbs, hsl, hU.own hn0⟩)

theorem appR {w w' : World} {er eb lo up lo2 up2 : Nat} {v u v5 : Value} {es fs : List KE} (hne : er ≠ eb) (h : NOwn LK w er eb lo up v es) (h2 : NRd LK w lo2 up2 u fs) (hO : Own w' lo er 6 v5 (es.length + fs.length) (es.flatMap LK.cel ++ fs.flatMap LK.cel)) (hu : Upd (fun b => obk v = some b) w w')
    (h3 : up2 ≤ lo) (h4 : lo ≤ up) (h5 : up ≤ w'.heap.size) : NRd LK w' 0 w'.heap.size v5 (es ++ fs) := by
  refine ⟨(hO.eq List.length_append.symm List.flatMap_append.symm : Own w' lo er 6 v5 (es ++ fs).length ((es ++ fs).flatMap LK.cel)).rd, fun b hb => ⟨Nat.zero_le _, (hO.lt (hO.rbk_obk hb)).2⟩, fun e' he s hs => ?_⟩
  rcases List.mem_append.1 he with he | he
  · exact ((h.sub_keep hne he hs hu).rd).mono (Nat.zero_le _) h5
  · have hk := h2.2.2 e' he s hs
    exact ⟨hk.1.upd hu fun b hb hd => by have := (hk.2 b hb).2; have := (h.1.lt hd).1; omega, fun b hb => ⟨Nat.zero_le _, by have := (hk.2 b hb).2; omega⟩⟩
/-- what the joined row bears at a place -/
theorem join_l {es rs : List KE} {m : List UInt8} {i : Nat} {e : KE} (he : es[i]? = some e) : (es.map (·.2) ++ nameK m (rs.map (·.2)))[i]? = some e.2 := by
  rw [List.getElem?_append_left (by rw [List.length_map]; exact (List.getElem?_eq_some_iff.1 he).1), List.getElem?_map, he]; rfl
theorem join_r {es rs : List KE} {m : List UInt8} {i : Nat} {e : KE} (h : es.length ≤ i) (he : rs[i - es.length]? = some e) : (es.map (·.2) ++ nameK m (rs.map (·.2)))[i]? = some (if i = es.length then (m, e.2.2) else e.2) := by
  rw [List.getElem?_append_right (by rw [List.length_map]; exact h), List.length_map]
  cases rs with
  | nil => simp at he
  | cons a r =>
    cases hj : i - es.length with
    | zero =>
      rw [hj] at he
      simp only [List.getElem?_cons_zero, Option.some.injEq] at he
      subst he
      rw [if_pos (by omega)]; rfl
    | succ j =>
      rw [hj] at he
      rw [if_neg (by omega)]
      show (r.map (·.2))[j]? = _
      rw [List.getElem?_map, show r[j]? = some e from he]; rfl
theorem even_at {fs bs : List KE} {J : List KD} {k i : Nat} {x : KE} {d : KD} (hf : fs.map (·.2) = J.take k) (hb : bs.map (·.2) = bareK (J.drop k)) (hx : (fs ++ bs)[i]? = some x) (hk : k ≤ J.length) (hd : J[i]? = some d) : x.2 = if i = k then ([], d.2) else d := by
  have h1 : ((fs ++ bs).map (·.2))[i]? = some x.2 := by rw [List.getElem?_map, hx]; rfl
  rw [List.map_append, hf, hb] at h1
  have hl : (J.take k).length = k := by rw [List.length_take]; omega
  rcases Nat.lt_or_ge i k with h | h
  · rw [List.getElem?_append_left (by omega), List.getElem?_take_of_lt h, hd] at h1
    rw [if_neg (by omega)]; exact (Option.some.inj h1).symm
  · rw [List.getElem?_append_right (by omega), hl] at h1
    have h2 := bare_at (show (J.drop k)[i - k]? = some d by rw [List.getElem?_drop, show k + (i - k) = i by omega]; exact hd)
    rw [h2] at h1
    have h3 := (Option.some.inj h1).symm
    rw [h3]
    by_cases h4 : i = k
    · rw [if_pos (by omega), if_pos h4]
    · rw [if_neg (by omega), if_neg h4]
end Go.Proofs.Ytpjhadhniokgjaa
