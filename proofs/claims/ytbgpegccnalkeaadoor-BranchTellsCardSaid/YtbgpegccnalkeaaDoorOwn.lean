/-
  The walk of BranchOwn. (Printed by wip/gen/t07p.py of this repo.)
-/
import Derived.Test.YtbgpegccnalkeaaDoorOwnB
import Derived.Test.YtbgpegccnalkeaaDoorBaseQ
namespace Go.Proofs.YtbgpegccnalkeaaDoor
open Go Go.SL Go.Proofs
set_option linter.unusedVariables false

theorem dist_at {es : List KE} (h : Dist es) {i j : Nat} {a b : KE} (hi : es[i]? = some a) (hj : es[j]? = some b) (hij : i ≠ j) : ∀ k, obk a.1 = some k → obk b.1 ≠ some k := by
  obtain ⟨h1, rfl⟩ := List.getElem?_eq_some_iff.1 hi
  obtain ⟨h2, rfl⟩ := List.getElem?_eq_some_iff.1 hj
  intro k hk hk'
  rcases Nat.lt_or_ge i j with h3 | h3
  · exact List.pairwise_iff_getElem.1 h i j h1 h2 h3 k hk hk'
  · exact List.pairwise_iff_getElem.1 h j i h2 h1 (by omega) k hk' hk
theorem dist_map {es fs : List KE} (h : Dist es) (he : fs.map (fun (x : KE) => x.1) = es.map (fun (x : KE) => x.1)) : Dist fs := by
  have h1 : (es.map (fun (x : KE) => x.1)).Pairwise fun a b => ∀ k, obk a = some k → obk b ≠ some k := List.pairwise_map.2 h
  rw [← he] at h1
  exact List.pairwise_map.1 h1
theorem set_fst {es : List KE} {i : Nat} {e : KE} (he : es[i]? = some e) (d : KD) : (es.set i (e.1, d)).map (fun (x : KE) => x.1) = es.map (fun (x : KE) => x.1) := by
  obtain ⟨hi, rfl⟩ := List.getElem?_eq_some_iff.1 he
  rw [List.map_set]
  apply List.ext_getElem?
  intro j
  rw [List.getElem?_set]
  split
  · next h => subst h; rw [if_pos (by rw [List.length_map]; exact hi), List.getElem?_map, List.getElem?_eq_getElem hi]; rfl
  · rfl
theorem own_byte {w w' : World} {er lo up : Nat} {v : Value} {es : List KE} {i : Nat} {e : KE} {m : List UInt8} (hN : NOwn LK w er 5 lo up v es) (hne : er ≠ 5) (hd : Dist es) (he : es[i]? = some e)
    (hO : Own w' lo 5 1 e.1 m.length (m.map byteV)) (hu : Upd (fun b => obk e.1 = some b) w w') : NOwn LK w' er 5 lo up v (es.set i (e.1, m, e.2.2)) ∧ Dist (es.set i (e.1, m, e.2.2)) := by
  have hi := (List.getElem?_eq_some_iff.1 he).1
  have hsub : ∀ {j : Nat} {a : KE}, es[j]? = some a → BOwn w 5 lo up (a.1, a.2.1) := fun h => hN.2.2 _ (List.mem_of_getElem? h) _ (by simp [LK])
  have hfl : (es.set i (e.1, m, e.2.2)).flatMap LK.cel = es.flatMap LK.cel := by
    rw [flat_set he]
    have h1 := flat_at (L := LK) (j := 0) (u := e.1) he rfl
    obtain ⟨h2, h3⟩ := List.getElem?_eq_some_iff.1 h1
    apply List.ext_getElem?
    intro j
    rw [List.getElem?_set]
    split
    · next h => subst h; split
                · exact h1.symm
                · next h4 => exact absurd h2 h4
    · rfl
  refine ⟨⟨(hN.1.upd hu fun b h1 h2 => hne (hN.1.types (hsub he).1 h1 h2)).eq (by rw [List.length_set]) hfl.symm, hN.2.1, fun a ha s hs => ?_⟩, dist_map hd (set_fst he _)⟩
  have hs : s = (a.1, a.2.1) := by simpa [LK] using hs
  subst hs
  obtain ⟨j, hj, rfl⟩ := List.getElem_of_mem ha
  rw [List.length_set] at hj
  by_cases hij : i = j
  · subst hij
    rw [List.getElem_set_self]
    exact ⟨hO, fun b hb => (hsub he).2 b hb⟩
  · rw [List.getElem_set_ne hij]
    have hb := hsub (List.getElem?_eq_getElem hj)
    exact ⟨hb.1.upd hu fun b h1 h2 => dist_at hd he (List.getElem?_eq_getElem hj) hij b h2 h1, hb.2⟩
theorem own_ptr {w w' : World} {er lo up : Nat} {v : Value} {es : List KE} {i : Nat} {e : KE} {q : Pt} (hN : NOwn LK w er 5 lo up v es) (hne : er ≠ 5) (hd : Dist es) (he : es[i]? = some e)
    (hO : Own w' lo er 6 v es.length ((es.flatMap LK.cel).take (i * 6 + 1) ++ ptC q ++ (es.flatMap LK.cel).drop (i * 6 + 1 + 5))) (hu : Upd (fun b => obk v = some b) w w') : NOwn LK w' er 5 lo up v (es.set i (e.1, e.2.1, q)) ∧ Dist (es.set i (e.1, e.2.1, q)) := by
  have hi := (List.getElem?_eq_some_iff.1 he).1
  have hfl : (es.set i (e.1, e.2.1, q)).flatMap LK.cel = (es.flatMap LK.cel).take (i * 6 + 1) ++ ptC q ++ (es.flatMap LK.cel).drop (i * 6 + 1 + 5) := by
    have h1 := flat_at (L := LK) (j := 0) (u := e.1) he rfl
    have h2 : (es.flatMap LK.cel)[i * 6]? = some e.1 := h1
    rw [flat_setA hi, List.take_add_one, h2]
    show _ ++ (e.1 :: ptC q) ++ _ = _
    simp [LK, List.append_assoc]
  refine ⟨⟨hO.eq (by rw [List.length_set]) hfl.symm, hN.2.1, fun a ha s hs => ?_⟩, dist_map hd (set_fst he _)⟩
  have hs : s = (a.1, a.2.1) := by simpa [LK] using hs
  subst hs
  obtain ⟨j, hj, rfl⟩ := List.getElem_of_mem ha
  rw [List.length_set] at hj
  by_cases hij : i = j
  · subst hij
    rw [List.getElem_set_self]
    exact hN.sub_keep hne (List.mem_of_getElem? he) (by simp [LK]) hu
  · rw [List.getElem_set_ne hij]
    exact hN.sub_keep hne (List.getElem_mem hj) (by simp [LK]) hu

set_option maxRecDepth 10000 in
set_option maxHeartbeats 2000000 in
theorem c_branchOwn (l : Value) (es : List KE) (w : World) (lo up : Nat) (hup : up ≤ w.heap.size) (hl : NRd LK w lo up l es) (hpt : ∀ e ∈ es, PtOk e.2.2) (hT : TabR w) : CT Tryd.prog 6 #[l] w fun v w' => v = .bool true ∧ Ext w w' := by
  obtain ⟨n0, hn0⟩ : ∃ n, n = w.heap.size := ⟨_, rfl⟩
  have hU : Upd (fun i => n0 ≤ i) w w := Upd.refl _ _
  have hn1 := tab_pos hT
  have hmx := hl.sv.len
  rw [← hn0] at hup
  have hpk : ∀ d ∈ (es.map (fun (x : KE) => x.2)), PtOk d.2 := fun d hd => by obtain ⟨e, he, rfl⟩ := List.mem_map.1 hd; exact hpt e he
  refine CT_of Tryd.func6 rfl rfl rfl ?_
  refine W_seq ?_
  refine W_reg ?_
  refine L_op rfl (X_assign (v := (.bool (false))) rfl ?_)
  refine L_nil ?_
  refine T_n ?_
  refine W_seq ?_
  refine W_seq ?_
  refine W_reg ?_
  refine L_op rfl (X_move (v := l) rfl ?_)
  refine L_op rfl (X_fn (vs := [l]) en8 rfl (CT.mono (c_great l es _ lo up hl) ?_))
  rintro _ _ ⟨⟨gg, rfl, hgg⟩, rfl⟩
  rcases Bool.eq_false_or_eq_true (gg) with hc1 | hc1
  · rw [hc1]
    refine L_nil ?_
    refine T_n ?_
    refine W_ct rfl ?_
    refine W_seq ?_
    refine W_reg ?_
    refine L_op rfl (X_fn (vs := []) en9 rfl (CT.mono (c_wakes _ hT) ?_))
    rintro vb2 w2 ⟨hvb2, hu2⟩
    have hz2 := hu2.size
    replace hU := hU.trans (Ext.upd hu2)
    replace hT := hT.ext hu2
    replace hl := hl.ext hu2
    subst hvb2
    refine L_op rfl (X_assign (v := (.bool (true))) rfl ?_)
    refine L_nil ?_
    refine T_n ?_
    refine W_ret ?_
    refine T_r ?_
    exact BQ_r (End_1 Tryd.results6 (v := .bool true) rfl ⟨rfl, hU.own hn0⟩)
  · rw [hc1]
    refine L_nil ?_
    refine T_n ?_
    refine W_cf rfl ?_
    refine W_skip ?_
    refine T_n ?_
    refine W_seq ?_
    obtain ⟨hn20, hk40⟩ := hgg hc1
    have hkok : KeyOK es := fun j e h => Nat.le_trans (hk40 j e h) (by decide)
    refine W_reg ?_
    refine L_op rfl (X_move (v := l) rfl ?_)
    obtain ⟨sr, hsr⟩ : ∃ n, n = w.heap.size := ⟨_, rfl⟩
    refine L_op rfl (X_fn (vs := [l]) en15 rfl (CT.mono (c_ownR l es _ lo up (by omega) hl hkok (by omega)) ?_))
    rintro vr w3 ⟨esr, hNr, hdir, hksr, hu3⟩
    have hz3 := hu3.size
    obtain ⟨ur, hupr⟩ : ∃ n, n = w3.heap.size := ⟨_, rfl⟩
    rw [← hsr, ← hupr] at hNr
    replace hU := hU.trans (Ext.upd hu3)
    replace hT := hT.ext hu3
    replace hl := hl.ext hu3
    refine L_op rfl (X_assign (v := vr) rfl ?_)
    refine L_nil ?_
    refine T_n ?_
    refine W_seq ?_
    refine W_reg ?_
    refine L_op rfl (X_move (v := l) rfl ?_)
    obtain ⟨sa, hsa⟩ : ∃ n, n = w3.heap.size := ⟨_, rfl⟩
    refine L_op rfl (X_fn (vs := [l]) en16 rfl (CT.mono (c_ownB l es _ lo up (by omega) hl hkok (by omega)) ?_))
    rintro va w4 ⟨esa, hNa, hdia, hksa, hu4⟩
    have hz4 := hu4.size
    obtain ⟨ua, hupa⟩ : ∃ n, n = w4.heap.size := ⟨_, rfl⟩
    rw [← hsa, ← hupa] at hNa
    replace hU := hU.trans (Ext.upd hu4)
    replace hT := hT.ext hu4
    replace hl := hl.ext hu4
    replace hNr := hNr.ext hu4
    refine L_op rfl (X_assign (v := va) rfl ?_)
    refine L_nil ?_
    refine T_n ?_
    refine W_seq ?_
    refine W_reg ?_
    refine L_op rfl (X_move (v := l) rfl ?_)
    refine L_op rfl (X_fn (vs := [l]) en10 rfl (CT.mono (c_encodeK l es _ lo up (by omega) hl hpt hT) ?_))
    rintro _ w5 ⟨rfl, hu5⟩
    have hz5 := hu5.size
    replace hU := hU.trans (Ext.upd hu5)
    replace hT := hT.ext hu5
    replace hl := hl.ext hu5
    replace hNr := hNr.ext hu5
    replace hNa := hNa.ext hu5
    refine L_op rfl (X_move (v := (.tuple #[(.agg (((encP (es.map (fun (x : KE) => x.2)))).map byteV).toArray), (.int .i64 ((encE (es.map (fun (x : KE) => x.2)))))])) rfl ?_)
    refine L_op rfl (X_extract (l := [(.agg (((encP (es.map (fun (x : KE) => x.2)))).map byteV).toArray), (.int .i64 ((encE (es.map (fun (x : KE) => x.2)))))]) (v := (.agg (((encP (es.map (fun (x : KE) => x.2)))).map byteV).toArray)) rfl rfl ?_)
    refine L_op rfl (X_extract (l := [(.agg (((encP (es.map (fun (x : KE) => x.2)))).map byteV).toArray), (.int .i64 ((encE (es.map (fun (x : KE) => x.2)))))]) (v := (.int .i64 ((encE (es.map (fun (x : KE) => x.2)))))) rfl rfl ?_)
    refine L_op rfl (X_alloc (z := zv26) (c := zc26.toArray) Zv26 rfl ?_)
    intro b6 w6 hn6
    have hbn6 := hn6.num; have hbs6 := hn6.size
    replace hU := hU.trans (Ext.upd hn6.ext)
    replace hT := hT.ext hn6.ext
    replace hl := hl.ext hn6.ext
    replace hNr := hNr.ext hn6.ext
    replace hNa := hNa.ext hn6.ext
    have hB6 := hn6.blk
    rw [zc26_eq] at hB6
    refine L_op0 (X_storeW (b := b6) (ys := (((encP (es.map (fun (x : KE) => x.2)))).map byteV)) A26 rfl rfl (byteV_one _) (by rw [List.length_map]; exact (encP_len _)) hB6 (by rw [List.size_toArray]; exact (by rw [List.length_map]; exact List.length_replicate)) ?_)
    intro w7 hu7 hb7
    have hz7 := hu7.size
    replace hU := hU.trans (hu7.mono fun i _ h => by have h : i = b6 := h; show n0 ≤ i; omega)
    replace hT := hT.upd hu7 fun i h1 h2 h => by have h : i = b6 := h; omega
    replace hl := hl.upd hu7 fun i h1 h2 h => by have h : i = b6 := h; omega
    replace hNr := hNr.upd hu7 fun i h1 h2 h => by have h : i = b6 := h; omega
    replace hNa := hNa.upd hu7 fun i h1 h2 h => by have h : i = b6 := h; omega
    replace hB6 := hb7
    refine L_op rfl (X_assign (v := (.int .i64 ((encE (es.map (fun (x : KE) => x.2)))))) rfl ?_)
    refine L_nil ?_
    refine T_n ?_
    refine W_seq ?_
    refine W_reg ?_
    refine L_op rfl (X_loadA (p := (ptr b6 (0))) (xs := (((encP (es.map (fun (x : KE) => x.2)))).map byteV)) A26 rfl hB6.atAll (by rw [List.length_map]; exact (encP_len _)) ?_)
    obtain ⟨sb, hsb⟩ : ∃ n, n = w7.heap.size := ⟨_, rfl⟩
    refine L_op rfl (X_fn (vs := [(.agg ((((encP (es.map (fun (x : KE) => x.2)))).map byteV)).toArray)]) en12 rfl (CT.mono (c_decodeK (encP (es.map (fun (x : KE) => x.2))) _ (encP_len _) hT) ?_))
    rintro _ w8 ⟨vb, rfl, esb, hNb, hdib, hksb, hu8⟩
    have hz8 := hu8.size
    obtain ⟨ub, hupb⟩ : ∃ n, n = w8.heap.size := ⟨_, rfl⟩
    rw [← hsb, ← hupb] at hNb
    replace hU := hU.trans (Ext.upd hu8)
    replace hT := hT.ext hu8
    replace hl := hl.ext hu8
    replace hNr := hNr.ext hu8
    replace hNa := hNa.ext hu8
    replace hB6 := hB6.ext hu8
    refine L_op rfl (X_move (v := (.tuple #[vb, (.int .i64 ((decE (encP (es.map (fun (x : KE) => x.2))))))])) rfl ?_)
    refine L_op rfl (X_extract (l := [vb, (.int .i64 ((decE (encP (es.map (fun (x : KE) => x.2))))))]) (v := vb) rfl rfl ?_)
    refine L_op rfl (X_extract (l := [vb, (.int .i64 ((decE (encP (es.map (fun (x : KE) => x.2))))))]) (v := (.int .i64 ((decE (encP (es.map (fun (x : KE) => x.2))))))) rfl rfl ?_)
    refine L_op rfl (X_assign (v := vb) rfl ?_)
    refine L_op rfl (X_assign (v := (.int .i64 ((decE (encP (es.map (fun (x : KE) => x.2))))))) rfl ?_)
    refine L_nil ?_
    refine T_n ?_
    refine W_seq ?_
    refine W_seq ?_
    refine W_reg ?_
    refine L_op rfl (X_move (v := va) rfl ?_)
    refine L_op rfl (X_move (v := vb) rfl ?_)
    refine L_op rfl (X_buildSlice1 (vs := [va, vb]) S47 (by decide) rfl rfl (List.forall_mem_cons.2 ⟨(hNa.1.sv.cells), (List.forall_mem_cons.2 ⟨(hNb.1.sv.cells), (fun _ h => by cases h)⟩)⟩) ?_)
    intro b9 w9 hn9
    have hbn9 := hn9.num; have hbs9 := hn9.size
    replace hU := hU.trans (Ext.upd hn9.ext)
    replace hT := hT.ext hn9.ext
    replace hl := hl.ext hn9.ext
    replace hNr := hNr.ext hn9.ext
    replace hNa := hNa.ext hn9.ext
    replace hB6 := hB6.ext hn9.ext
    replace hNb := hNb.ext hn9.ext
    have hB9 := hn9.blk
    obtain ⟨bl, hbl⟩ : ∃ n, n = b9 := ⟨_, rfl⟩
    rw [← hbl] at hB9 ⊢
    have hRL : Rd w9 1 (.slice (some ⟨bl, 0, none⟩) 2 2) 2 [va, vb] := hB9.rd (o := 0) (n := 2) (c := 2) (sz := 1) (by decide) (by decide) rfl (fun j u hj => by rw [Nat.zero_add]; simpa using hj)
    have hRL_b : ∀ b, rbk (.slice (some ⟨bl, 0, none⟩) 2 2) = some b → b = bl := fun b hb => (Option.some.inj hb).symm
    obtain ⟨RL, hRLe⟩ : ∃ l : List (Value × Nat × Nat), l = [(va, sa, ua), (vb, sb, ub)] := ⟨_, rfl⟩
    have hrows : ∀ (k : Nat) (r : Value × Nat × Nat), RL[k]? = some r → ∃ fs, NOwn LK w9 44 5 r.2.1 r.2.2 r.1 fs ∧ Dist fs := fun k r hr => by rw [hRLe] at hr; match k, hr with | 0, hr => { cases hr; exact ⟨esa, hNa, hdia⟩ } | 1, hr => { cases hr; exact ⟨esb, hNb, hdib⟩ } | k + 2, hr => { simp at hr }
    have hRr : ∀ (k : Nat) (r : Value × Nat × Nat), RL[k]? = some r → (k = 0 ∧ r.2.1 = sa ∧ r.2.2 = ua) ∨ (k = 1 ∧ r.2.1 = sb ∧ r.2.2 = ub) := fun k r h => by rw [hRLe] at h; match k, h with | 0, h => { cases h; exact .inl ⟨rfl, rfl, rfl⟩ } | 1, h => { cases h; exact .inr ⟨rfl, rfl, rfl⟩ } | k + 2, h => { simp at h }
    refine L_op rfl (X_len (v := (.slice (some ⟨bl, 0, none⟩) 2 2)) (n := 2) Tryd.underlying47 rfl hRL.sv ?_)
    refine L_op rfl (X_move (v := (.int .i64 (0))) rfl ?_)
    refine L_nil ?_
    refine T_n ?_
    refine W_block ?_
    refine W_loop (α := Nat) [10, 11, 12, 36, 37, 38, 39, 40, 41, 42, 43, 44, 45, 46, 47, 48, 49, 50, 51, 52, 53, 54, 55, 56, 57, 58, 59, 60, 61, 62, 63, 64, 65, 66, 67, 68, 69, 70, 71, 72, 73, 74, 75, 76, 77] (fun j => [(36, (.int .i64 (((j : Nat) : Int))))]) (fun j w_ => j ≤ 2 ∧ (∀ (k : Nat) (r : Value × Nat × Nat), RL[k]? = some r → ∃ fs, NOwn LK w_ 44 5 r.2.1 r.2.2 r.1 fs ∧ Dist fs) ∧ Rd w_ 1 (.slice (some ⟨bl, 0, none⟩) 2 2) 2 [va, vb] ∧ Blk w_ b6 ((encP (es.map (fun (x : KE) => x.2))).map byteV).toArray 26 ∧ NOwn LK w_ 44 5 sr ur vr esr ∧ NRd LK w_ lo up l es ∧ TabR w_ ∧ Upd (fun i => n0 ≤ i) w w_) (fun j => 2 - j) ⟨rfl, 0, ⟨Nat.zero_le _, hrows, hRL, hB6, hNr, hl, hT, hU⟩, Out.refl _ _, ⟨rfl, trivial⟩⟩ ?_
    rintro j w10 _ ⟨hj2, hrows, hRL, hB6, hNr, hl, hT, hU⟩
    have hsz_ := hU.size
    refine W_seq ?_
    refine W_reg ?_
    by_cases hc11 : (((j : Nat) : Int) : Int) < (2)
    · refine L_op rfl (X_cmp (k := .i64) (a := ((j : Nat) : Int)) (b := 2) (r := true) rfl rfl rfl (decide_eq_true (p := ((((j : Nat) : Int)) : Int) < ((2) : Int)) (by omega)) ?_)
      have hj : j < 2 := by omega
      obtain ⟨r, hrj⟩ : ∃ r, RL[j]? = some r := ⟨_, List.getElem?_eq_getElem (by rw [hRLe]; exact hj)⟩
      have hrr : (r.2.1 = sa ∧ r.2.2 = ua) ∨ (r.2.1 = sb ∧ r.2.2 = ub) := by have h1 := List.mem_of_getElem? hrj; rw [hRLe] at h1; simp only [List.mem_cons, List.not_mem_nil, or_false] at h1; rcases h1 with rfl | rfl; (· exact .inl ⟨rfl, rfl⟩); (· exact .inr ⟨rfl, rfl⟩)
      have hrl : [va, vb][j]? = some r.1 := by have h1 : [va, vb] = RL.map (·.1) := (by rw [hRLe]; rfl); rw [h1, List.getElem?_map, hrj]; rfl
      obtain ⟨fs0, hN, hdi⟩ := hrows j r hrj
      have hV := Upd.refl (fun b => r.2.1 ≤ b ∧ b < r.2.2) w10
      refine L_nil ?_
      refine T_n ?_
      refine W_seq ?_
      refine W_ct rfl ?_
      refine W_skip ?_
      refine T_n ?_
      refine W_seq ?_
      refine W_block ?_
      refine W_seq ?_
      refine W_reg ?_
      refine L_op rfl (X_idx (v := (.slice (some ⟨bl, 0, none⟩) 2 2)) (n := 2) (k := .i64) (i := ((j : Nat) : Int)) S47 rfl hRL.sv rfl (by omega) (by omega) ?_)
      refine L_op rfl (X_load (v := r.1) T22 rfl (hRL.cell (by rw [show (((j : Nat) : Int).toNat * 1) = j by omega]; exact hrl)) ?_)
      refine L_op rfl (X_assign (v := r.1) rfl ?_)
      refine L_nil ?_
      refine T_n ?_
      refine W_seq ?_
      refine W_reg ?_
      refine L_op rfl (X_assign (v := (.int .i64 (0))) rfl ?_)
      refine L_nil ?_
      refine T_n ?_
      refine W_block ?_
      refine W_loop (α := Nat × List KE) [11, 12, 40, 41, 42, 43, 44, 45, 46, 47, 48, 49, 50, 51, 52, 53, 54, 55, 56, 57, 58, 59, 60, 61, 62, 63, 64, 65, 66, 67, 68, 69, 70, 71, 72, 73, 74, 75, 76] (fun ⟨i, fs⟩ => [(11, (.int .i64 (((i : Nat) : Int))))]) (fun ⟨i, fs⟩ w_ => i ≤ fs.length ∧ NOwn LK w_ 44 5 r.2.1 r.2.2 r.1 fs ∧ Dist fs ∧ Upd (fun b => r.2.1 ≤ b ∧ b < r.2.2) w10 w_) (fun ⟨i, fs⟩ => fs.length - i) ⟨rfl, (0, fs0), ⟨Nat.zero_le _, hN, hdi, hV⟩, Out.refl _ _, ⟨rfl, trivial⟩⟩ ?_
      rintro ⟨i, fs⟩ w12 _ ⟨hil, hN, hdi, hV⟩
      have hmx := hN.1.sv.len
      refine W_seq ?_
      refine W_seq ?_
      refine W_reg ?_
      refine L_op rfl (X_move (v := (.int .i64 (((i : Nat) : Int)))) rfl ?_)
      refine L_op rfl (X_move (v := r.1) rfl ?_)
      refine L_op rfl (X_len (v := r.1) (n := fs.length) Tryd.underlying22 rfl hN.1.sv ?_)
      by_cases hc13 : (((i : Nat) : Int) : Int) < (((fs.length : Nat) : Int))
      · refine L_op rfl (X_cmp (k := .i64) (a := ((i : Nat) : Int)) (b := ((fs.length : Nat) : Int)) (r := true) rfl rfl rfl (decide_eq_true (p := ((((i : Nat) : Int)) : Int) < ((((fs.length : Nat) : Int)) : Int)) (by omega)) ?_)
        have hi : i < fs.length := by omega
        obtain ⟨e0, he0⟩ : ∃ e, fs[i]? = some e := ⟨_, List.getElem?_eq_getElem hi⟩
        refine L_nil ?_
        refine T_n ?_
        refine W_ct rfl ?_
        refine W_skip ?_
        refine T_n ?_
        refine W_seq ?_
        refine W_block ?_
        refine W_seq ?_
        refine W_seq ?_
        refine W_reg ?_
        refine L_op rfl (X_assign (v := (.int .i64 (0))) rfl ?_)
        refine L_nil ?_
        refine T_n ?_
        refine W_block ?_
        refine W_loop (α := Nat × List KE) [12, 46, 47, 48, 49, 50, 51, 52, 53, 54, 55, 56, 57, 58, 59, 60, 61, 62, 63, 64, 65, 66, 67, 68, 69, 70, 71] (fun ⟨k, fs2⟩ => [(12, (.int .i64 (((k : Nat) : Int))))]) (fun ⟨k, fs2⟩ w_ => fs2.length = fs.length ∧ (∃ e, fs2[i]? = some e ∧ k ≤ e.2.1.length ∧ e.2.1.length = e0.2.1.length) ∧ NOwn LK w_ 44 5 r.2.1 r.2.2 r.1 fs2 ∧ Dist fs2 ∧ Upd (fun b => r.2.1 ≤ b ∧ b < r.2.2) w10 w_) (fun ⟨k, fs2⟩ => e0.2.1.length - k) ⟨rfl, (0, fs), ⟨rfl, ⟨e0, he0, Nat.zero_le _, rfl⟩, hN, hdi, hV⟩, Out.refl _ _, ⟨rfl, trivial⟩⟩ ?_
        rintro ⟨k, fs2⟩ w14 _ ⟨hfl, ⟨e, hei, hkl, heL⟩, hN, hdi, hV⟩
        have hmk := (krd hN.rd hei).len
        refine W_seq ?_
        refine W_seq ?_
        refine W_reg ?_
        refine L_op rfl (X_move (v := (.int .i64 (((k : Nat) : Int)))) rfl ?_)
        refine L_op rfl (X_move (v := r.1) rfl ?_)
        refine L_op rfl (X_move (v := (.int .i64 (((i : Nat) : Int)))) rfl ?_)
        refine L_op rfl (X_idx (v := r.1) (n := fs2.length) (k := .i64) (i := ((i : Nat) : Int)) S22 rfl hN.1.sv rfl (by omega) (by omega) ?_)
        refine L_op rfl (X_fldS (v := r.1) (o := (((i : Nat) : Int) : Int).toNat * 6) Fd44_0 rfl hN.1.sv (by omega) ?_)
        refine L_op rfl (X_load (v := e.1) T42 rfl (kkey hN.rd (Int.toNat_natCast _) hei) ?_)
        refine L_op rfl (X_len (v := e.1) (n := e.2.1.length) Tryd.underlying42 rfl (krd hN.rd hei).sv ?_)
        by_cases hc15 : (((k : Nat) : Int) : Int) < (((e.2.1.length : Nat) : Int))
        · refine L_op rfl (X_cmp (k := .i64) (a := ((k : Nat) : Int)) (b := ((e.2.1.length : Nat) : Int)) (r := true) rfl rfl rfl (decide_eq_true (p := ((((k : Nat) : Int)) : Int) < ((((e.2.1.length : Nat) : Int)) : Int)) (by omega)) ?_)
          have hkm : k < e.2.1.length := by omega
          obtain ⟨x0, hx0⟩ : ∃ x, e.2.1[k]? = some x := ⟨_, List.getElem?_eq_getElem hkm⟩
          refine L_nil ?_
          refine T_n ?_
          refine W_ct rfl ?_
          refine W_skip ?_
          refine T_n ?_
          refine W_seq ?_
          refine W_block ?_
          refine W_draw 15 [[], [], [0, 1], [0, 1, 2], [0, 1, 2, 3], [], [], [], [6, 7], [6, 7, 8], [6, 7, 8, 9], [], [6, 7, 8, 9, 10, 11], [6, 7, 8, 9, 10, 11, 12], [6, 7, 8, 9, 10, 11, 12, 13], [0, 1, 2, 3, 4, 5, 6, 7, 8, 9, 10, 11, 12, 13, 14], [0, 1, 2, 3, 4, 5, 6, 7, 8, 9, 10, 11, 12, 13, 14, 15]] mixed (by kernel_rfl) ?_
          refine ⟨.det (fun val => r.1), ⟨fun _ _ hv => rfl, fun _ _ _ _ _ => trivial⟩, fun val h_ W hx he => ⟨trivial, ?_⟩, ?_⟩
          · replace hx := (Upd.drew _ _).trans hx
            replace hN := hN.ext hx
            have hE := Upd.refl (fun _ => False) W
            refine id (X_move (v := r.1) rfl ?_)
            exact ⟨hE, rfl⟩
          refine ⟨.det (fun val => (.int .i64 (((i : Nat) : Int)))), ⟨fun _ _ hv => rfl, fun _ _ _ _ _ => trivial⟩, fun val h_ W hx he => ⟨trivial, ?_⟩, ?_⟩
          · replace hx := (Upd.drew _ _).trans hx
            replace hN := hN.ext hx
            have hE := Upd.refl (fun _ => False) W
            refine id (X_move (v := (.int .i64 (((i : Nat) : Int)))) rfl ?_)
            exact ⟨hE, rfl⟩
          refine ⟨.det (fun val => (pof r.1 ((((i : Nat) : Int) : Int).toNat * 6))), ⟨fun _ _ hv => rfl, fun _ _ _ _ _ => trivial⟩, fun val h_ W hx he => ⟨trivial, ?_⟩, ?_⟩
          · replace hx := (Upd.drew _ _).trans hx
            replace hN := hN.ext hx
            have hE := Upd.refl (fun _ => False) W
            refine id (X_idx (v := r.1) (n := fs2.length) (k := .i64) (i := ((i : Nat) : Int)) S22 rfl hN.1.sv rfl (by omega) (by omega) ?_)
            exact ⟨hE, rfl⟩
          refine ⟨.det (fun val => (pof r.1 ((((i : Nat) : Int) : Int).toNat * 6 + 0))), ⟨fun _ _ hv => rfl, fun _ _ _ _ _ => trivial⟩, fun val h_ W hx he => ⟨trivial, ?_⟩, ?_⟩
          · replace hx := (Upd.drew _ _).trans hx
            replace hN := hN.ext hx
            have hE := Upd.refl (fun _ => False) W
            refine id (X_fldS (v := r.1) (o := (((i : Nat) : Int) : Int).toNat * 6) Fd44_0 rfl hN.1.sv (by omega) ?_)
            exact ⟨hE, rfl⟩
          refine ⟨.det (fun val => e.1), ⟨fun _ _ hv => rfl, fun _ _ _ _ _ => trivial⟩, fun val h_ W hx he => ⟨trivial, ?_⟩, ?_⟩
          · replace hx := (Upd.drew _ _).trans hx
            replace hN := hN.ext hx
            have hE := Upd.refl (fun _ => False) W
            refine id (X_load (v := e.1) T42 rfl (kkey hN.rd (Int.toNat_natCast _) hei) ?_)
            exact ⟨hE, rfl⟩
          refine ⟨.det (fun val => (.int .i64 (((k : Nat) : Int)))), ⟨fun _ _ hv => rfl, fun _ _ _ _ _ => trivial⟩, fun val h_ W hx he => ⟨trivial, ?_⟩, ?_⟩
          · replace hx := (Upd.drew _ _).trans hx
            replace hN := hN.ext hx
            have hE := Upd.refl (fun _ => False) W
            refine id (X_move (v := (.int .i64 (((k : Nat) : Int)))) rfl ?_)
            exact ⟨hE, rfl⟩
          refine ⟨.det (fun val => r.1), ⟨fun _ _ hv => rfl, fun _ _ _ _ _ => trivial⟩, fun val h_ W hx he => ⟨trivial, ?_⟩, ?_⟩
          · replace hx := (Upd.drew _ _).trans hx
            replace hN := hN.ext hx
            have hE := Upd.refl (fun _ => False) W
            refine id (X_move (v := r.1) rfl ?_)
            exact ⟨hE, rfl⟩
          refine ⟨.det (fun val => (.int .i64 (((i : Nat) : Int)))), ⟨fun _ _ hv => rfl, fun _ _ _ _ _ => trivial⟩, fun val h_ W hx he => ⟨trivial, ?_⟩, ?_⟩
          · replace hx := (Upd.drew _ _).trans hx
            replace hN := hN.ext hx
            have hE := Upd.refl (fun _ => False) W
            refine id (X_move (v := (.int .i64 (((i : Nat) : Int)))) rfl ?_)
            exact ⟨hE, rfl⟩
          refine ⟨.det (fun val => (pof r.1 ((((i : Nat) : Int) : Int).toNat * 6))), ⟨fun _ _ hv => rfl, fun _ _ _ _ _ => trivial⟩, fun val h_ W hx he => ⟨trivial, ?_⟩, ?_⟩
          · replace hx := (Upd.drew _ _).trans hx
            replace hN := hN.ext hx
            have hE := Upd.refl (fun _ => False) W
            refine id (X_idx (v := r.1) (n := fs2.length) (k := .i64) (i := ((i : Nat) : Int)) S22 rfl hN.1.sv rfl (by omega) (by omega) ?_)
            exact ⟨hE, rfl⟩
          refine ⟨.det (fun val => (pof r.1 ((((i : Nat) : Int) : Int).toNat * 6 + 0))), ⟨fun _ _ hv => rfl, fun _ _ _ _ _ => trivial⟩, fun val h_ W hx he => ⟨trivial, ?_⟩, ?_⟩
          · replace hx := (Upd.drew _ _).trans hx
            replace hN := hN.ext hx
            have hE := Upd.refl (fun _ => False) W
            refine id (X_fldS (v := r.1) (o := (((i : Nat) : Int) : Int).toNat * 6) Fd44_0 rfl hN.1.sv (by omega) ?_)
            exact ⟨hE, rfl⟩
          refine ⟨.det (fun val => e.1), ⟨fun _ _ hv => rfl, fun _ _ _ _ _ => trivial⟩, fun val h_ W hx he => ⟨trivial, ?_⟩, ?_⟩
          · replace hx := (Upd.drew _ _).trans hx
            replace hN := hN.ext hx
            have hE := Upd.refl (fun _ => False) W
            refine id (X_load (v := e.1) T42 rfl (kkey hN.rd (Int.toNat_natCast _) hei) ?_)
            exact ⟨hE, rfl⟩
          refine ⟨.det (fun val => (.int .i64 (((k : Nat) : Int)))), ⟨fun _ _ hv => rfl, fun _ _ _ _ _ => trivial⟩, fun val h_ W hx he => ⟨trivial, ?_⟩, ?_⟩
          · replace hx := (Upd.drew _ _).trans hx
            replace hN := hN.ext hx
            have hE := Upd.refl (fun _ => False) W
            refine id (X_move (v := (.int .i64 (((k : Nat) : Int)))) rfl ?_)
            exact ⟨hE, rfl⟩
          refine ⟨.det (fun val => (pof e.1 ((((k : Nat) : Int) : Int).toNat * 1))), ⟨fun _ _ hv => rfl, fun _ _ _ _ _ => trivial⟩, fun val h_ W hx he => ⟨trivial, ?_⟩, ?_⟩
          · replace hx := (Upd.drew _ _).trans hx
            replace hN := hN.ext hx
            have hE := Upd.refl (fun _ => False) W
            refine id (X_idx (v := e.1) (n := e.2.1.length) (k := .i64) (i := ((k : Nat) : Int)) S42 rfl (krd hN.rd hei).sv rfl (by omega) (by omega) ?_)
            exact ⟨hE, rfl⟩
          refine ⟨.det (fun val => (byteV x0)), ⟨fun _ _ hv => rfl, fun _ _ _ _ _ => trivial⟩, fun val h_ W hx he => ⟨trivial, ?_⟩, ?_⟩
          · replace hx := (Upd.drew _ _).trans hx
            replace hN := hN.ext hx
            have hE := Upd.refl (fun _ => False) W
            refine id (X_load (v := byteV x0) T5 rfl ((krd hN.rd hei).cellB (by rw [show (((k : Nat) : Int).toNat * 1) = k by omega]; exact hx0)) ?_)
            exact ⟨hE, rfl⟩
          refine ⟨.det (fun val => (.int .u8 ((((x0 ^^^ 255).toNat : Nat) : Int)))), ⟨fun _ _ hv => rfl, fun _ _ _ _ _ => trivial⟩, fun val h_ W hx he => ⟨trivial, ?_⟩, ?_⟩
          · replace hx := (Upd.drew _ _).trans hx
            replace hN := hN.ext hx
            have hE := Upd.refl (fun _ => False) W
            refine id (X_arith (k := .u8) (a := ((x0.toNat : Nat) : Int)) (b := 255) (r := (((x0 ^^^ 255).toNat : Nat) : Int)) rfl rfl rfl (u8_xor x0 255) ?_)
            exact ⟨hE, rfl⟩
          intro val W16 hx16 he16
          replace hx16 := (Upd.drew _ _).trans hx16
          have hz16 := hx16.size
          replace hN := hN.ext hx16
          replace hV := hV.trans (Ext.upd hx16)
          refine L_op rfl (X_idx (v := e.1) (n := e.2.1.length) (k := .i64) (i := ((k : Nat) : Int)) S42 rfl (krd hN.rd hei).sv rfl (by omega) (by omega) ?_)
          have hBk : BOwn W16 5 r.2.1 r.2.2 (e.1, e.2.1) := hN.2.2 e (List.mem_of_getElem? hei) _ (by simp [LK])
          refine L_op0 (X_storeOwnC (i := ((k : Nat) : Int).toNat * 1) (u := byteV (x0 ^^^ 255)) T5 hBk.1 (by show ((k : Nat) : Int).toNat * 1 < e.2.1.length * 1; omega) rfl rfl rfl ?_)
          intro w7 hO7 hu7
          have hz7 := hu7.size
          have hO8 : Own w7 r.2.1 5 1 e.1 (e.2.1.set k (x0 ^^^ 255)).length ((e.2.1.set k (x0 ^^^ 255)).map byteV) := hO7.eq (by rw [List.length_set]) (by rw [show ((k : Nat) : Int).toNat * 1 = k by omega, List.map_set])
          obtain ⟨hN8, hdi8⟩ := own_byte hN (by decide) hdi hei hO8 hu7
          replace hV := hV.trans (hu7.mono fun b _ h => ⟨(hBk.1.lt h).1, hBk.2 b h⟩)
          refine L_nil ?_
          refine B_n ?_
          refine T_n ?_
          refine W_reg ?_
          refine L_op rfl (X_move (v := (.int .i64 (((k : Nat) : Int)))) rfl ?_)
          refine L_op rfl (X_arith (k := .i64) (a := ((k : Nat) : Int)) (b := 1) (r := ((k + 1 : Nat) : Int)) rfl rfl rfl (iadd64 (by omega) (by omega) (by omega)) ?_)
          refine L_op rfl (X_assign (v := (.int .i64 (((k + 1 : Nat) : Int)))) rfl ?_)
          refine L_nil ?_
          refine T_n ?_
          exact ⟨rfl, (k + 1, fs2.set i (e.1, e.2.1.set k (x0 ^^^ 255), e.2.2)), ⟨⟨by rw [List.length_set]; exact hfl, ⟨_, List.getElem?_set_self (by omega), by show k + 1 ≤ (e.2.1.set k (x0 ^^^ 255)).length; rw [List.length_set]; omega, by show (e.2.1.set k (x0 ^^^ 255)).length = _; rw [List.length_set]; exact heL⟩, hN8, hdi8, hV⟩, (by show e0.2.1.length - (k + 1) < e0.2.1.length - k; omega)⟩, (Out.mk rfl), ⟨rfl, trivial⟩⟩
        · refine L_op rfl (X_cmp (k := .i64) (a := ((k : Nat) : Int)) (b := ((e.2.1.length : Nat) : Int)) (r := false) rfl rfl rfl (decide_eq_false (p := ((((k : Nat) : Int)) : Int) < ((((e.2.1.length : Nat) : Int)) : Int)) (by omega)) ?_)
          refine L_nil ?_
          refine T_n ?_
          refine W_cf rfl ?_
          refine W_exit ?_
          refine T_e ?_
          refine T_e ?_
          refine B_x ?_
          refine T_n ?_
          refine W_reg ?_
          refine L_op rfl (X_move (v := r.1) rfl ?_)
          refine L_op rfl (X_move (v := (.int .i64 (((i : Nat) : Int)))) rfl ?_)
          refine L_op rfl (X_build built41z ?_)
          refine L_op rfl (X_idx (v := r.1) (n := fs2.length) (k := .i64) (i := ((i : Nat) : Int)) S22 rfl hN.1.sv rfl (by omega) (by omega) ?_)
          refine L_op rfl (X_fldS (v := r.1) (o := (((i : Nat) : Int) : Int).toNat * 6) Fd44_1 rfl hN.1.sv (by omega) ?_)
          refine L_op0 (X_storeOwnA (m := 5) (i := ((i : Nat) : Int).toNat * 6 + 1) (ys := ptC ptZ) A41 hN.1 (by show ((i : Nat) : Int).toNat * 6 + 1 + 5 ≤ fs2.length * 6; omega) (by decide) rfl rfl (ptC_one _) rfl ?_)
          intro w8 hO9 hu8
          have hz8 := hu8.size
          rw [show ((i : Nat) : Int).toNat = i from Int.toNat_natCast _] at hO9
          obtain ⟨hN9, hdi9⟩ := own_ptr hN (by decide) hdi hei hO9 hu8
          replace hV := hV.trans (hu8.mono fun b _ h => ⟨(hN.1.lt h).1, hN.2.1 b h⟩)
          refine L_nil ?_
          refine B_n ?_
          refine T_n ?_
          refine W_reg ?_
          refine L_op rfl (X_move (v := (.int .i64 (((i : Nat) : Int)))) rfl ?_)
          refine L_op rfl (X_arith (k := .i64) (a := ((i : Nat) : Int)) (b := 1) (r := ((i + 1 : Nat) : Int)) rfl rfl rfl (iadd64 (by omega) (by omega) (by omega)) ?_)
          refine L_op rfl (X_assign (v := (.int .i64 (((i + 1 : Nat) : Int)))) rfl ?_)
          refine L_nil ?_
          refine T_n ?_
          exact ⟨rfl, (i + 1, fs2.set i (e.1, e.2.1, ptZ)), ⟨⟨by rw [List.length_set]; omega, hN9, hdi9, hV⟩, (by show (fs2.set i (e.1, e.2.1, ptZ)).length - (i + 1) < fs.length - i; rw [List.length_set]; omega)⟩, (Out.in_ rfl rfl (Out.mk rfl)), ⟨rfl, trivial⟩⟩
      · refine L_op rfl (X_cmp (k := .i64) (a := ((i : Nat) : Int)) (b := ((fs.length : Nat) : Int)) (r := false) rfl rfl rfl (decide_eq_false (p := ((((i : Nat) : Int)) : Int) < ((((fs.length : Nat) : Int)) : Int)) (by omega)) ?_)
        refine L_nil ?_
        refine T_n ?_
        refine W_cf rfl ?_
        refine W_exit ?_
        refine T_e ?_
        refine T_e ?_
        refine B_x ?_
        refine B_n ?_
        refine T_n ?_
        refine W_reg ?_
        refine L_op rfl (X_arith (k := .i64) (a := ((j : Nat) : Int)) (b := 1) (r := ((j + 1 : Nat) : Int)) rfl rfl rfl (iadd64 (by omega) (by omega) (by omega)) ?_)
        refine L_op rfl (X_move (v := (.int .i64 (((j + 1 : Nat) : Int)))) rfl ?_)
        refine L_nil ?_
        refine T_n ?_
        have hsV := hV.size
        have hrows9 : ∀ (k : Nat) (r2 : Value × Nat × Nat), RL[k]? = some r2 → ∃ fs, NOwn LK w12 44 5 r2.2.1 r2.2.2 r2.1 fs ∧ Dist fs := fun k r2 hr2 => by { by_cases hkj : k = j; (· subst hkj; rw [hrj] at hr2; cases hr2; exact ⟨fs, hN, hdi⟩); (· obtain ⟨gs, hG, hg⟩ := hrows k r2 hr2; refine ⟨gs, hG.upd hV fun i h1 h2 h => ?_, hg⟩; have h3 := hRr j r hrj; have h4 := hRr k r2 hr2; have h5 : r.2.1 ≤ i ∧ i < r.2.2 := h; omega) }
        exact ⟨rfl, j + 1, ⟨⟨hj, hrows9, hRL.upd hV fun i hi h => by { have := hRL_b i hi; omega }, hB6.upd hV fun h => by omega, hNr.upd hV fun i h1 h2 h => by omega, hl.upd hV fun i h1 h2 h => by omega, hT.upd hV fun i h1 h2 h => by omega, hU.trans (hV.mono fun i _ h => by show n0 ≤ i; omega)⟩, (by show 2 - (j + 1) < 2 - j; omega)⟩, (Out.in_ rfl rfl (Out.mk rfl)), ⟨rfl, trivial⟩⟩
    · refine L_op rfl (X_cmp (k := .i64) (a := ((j : Nat) : Int)) (b := 2) (r := false) rfl rfl rfl (decide_eq_false (p := ((((j : Nat) : Int)) : Int) < ((2) : Int)) (by omega)) ?_)
      refine L_nil ?_
      refine T_n ?_
      refine W_seq ?_
      refine W_cf rfl ?_
      refine W_exit ?_
      refine T_e ?_
      refine T_e ?_
      refine B_x ?_
      refine T_n ?_
      refine W_seq ?_
      refine W_reg ?_
      refine L_op rfl (X_loadA (p := (ptr b6 (0))) (xs := (((encP (es.map (fun (x : KE) => x.2)))).map byteV)) A26 rfl hB6.atAll (by rw [List.length_map]; exact (encP_len _)) ?_)
      obtain ⟨sc, hsc⟩ : ∃ n, n = w10.heap.size := ⟨_, rfl⟩
      refine L_op rfl (X_fn (vs := [(.agg ((((encP (es.map (fun (x : KE) => x.2)))).map byteV)).toArray)]) en12 rfl (CT.mono (c_decodeK (encP (es.map (fun (x : KE) => x.2))) _ (encP_len _) hT) ?_))
      rintro _ w17 ⟨vc, rfl, esc, hNc, hdic, hksc, hu17⟩
      have hz17 := hu17.size
      obtain ⟨uc, hupc⟩ : ∃ n, n = w17.heap.size := ⟨_, rfl⟩
      rw [← hsc, ← hupc] at hNc
      replace hRL := hRL.ext hu17
      replace hB6 := hB6.ext hu17
      replace hNr := hNr.ext hu17
      replace hl := hl.ext hu17
      replace hT := hT.ext hu17
      replace hU := hU.trans (Ext.upd hu17)
      refine L_op rfl (X_move (v := (.tuple #[vc, (.int .i64 ((decE (encP (es.map (fun (x : KE) => x.2))))))])) rfl ?_)
      refine L_op rfl (X_extract (l := [vc, (.int .i64 ((decE (encP (es.map (fun (x : KE) => x.2))))))]) (v := vc) rfl rfl ?_)
      refine L_op rfl (X_extract (l := [vc, (.int .i64 ((decE (encP (es.map (fun (x : KE) => x.2))))))]) (v := (.int .i64 ((decE (encP (es.map (fun (x : KE) => x.2))))))) rfl rfl ?_)
      refine L_op rfl (X_assign (v := vc) rfl ?_)
      refine L_op rfl (X_assign (v := (.int .i64 ((decE (encP (es.map (fun (x : KE) => x.2))))))) rfl ?_)
      refine L_nil ?_
      refine T_n ?_
      refine W_seq ?_
      refine W_reg ?_
      refine L_op rfl (X_move (v := l) rfl ?_)
      refine L_op rfl (X_move (v := vr) rfl ?_)
      refine L_op rfl (X_fn (vs := [l, vr]) en13 rfl (CT.mono (c_sameL l vr es esr _ lo up sr ur hl hNr.rd) ?_))
      rintro _ w18 ⟨⟨g18, rfl, hg18⟩, hu18⟩
      have hz18 := hu18.size
      replace hRL := hRL.ext hu18
      replace hB6 := hB6.ext hu18
      replace hNr := hNr.ext hu18
      replace hl := hl.ext hu18
      replace hT := hT.ext hu18
      replace hU := hU.trans (Ext.upd hu18)
      replace hNc := hNc.ext hu18
      obtain rfl : g18 = true := hg18.2 (hksr.symm)
      refine L_op rfl (X_move (v := (.bool (true))) rfl ?_)
      refine L_gy (dj := 86) rfl rfl rfl (X_move (v := l) rfl ?_)
      refine L_gy (dj := 86) rfl rfl rfl (X_fn (vs := [l]) en11 rfl (CT.mono (c_rightK l es _ lo up (by omega) hl hpt) ?_))
      rintro _ w19 ⟨rfl, hu19⟩
      have hz19 := hu19.size
      replace hRL := hRL.ext hu19
      replace hB6 := hB6.ext hu19
      replace hNr := hNr.ext hu19
      replace hl := hl.ext hu19
      replace hT := hT.ext hu19
      replace hU := hU.trans (Ext.upd hu19)
      replace hNc := hNc.ext hu19
      rcases Bool.eq_false_or_eq_true (decide (RightK (es.map (fun (x : KE) => x.2)))) with hc20 | hc20
      · rw [hc20]
        refine L_gy (dj := 86) rfl rfl rfl (X_not (b := true) (r := false) rfl rfl ?_)
        refine L_gy (dj := 86) rfl rfl rfl (X_move (v := (.bool (false))) rfl ?_)
        refine L_gy (dj := 90) rfl rfl rfl (X_move (v := vc) rfl ?_)
        refine L_gy (dj := 90) rfl rfl rfl (X_move (v := vr) rfl ?_)
        refine L_gy (dj := 90) rfl rfl rfl (X_fn (vs := [vc, vr]) en13 rfl (CT.mono (c_sameL vc vr esc esr _ sc uc sr ur hNc.rd hNr.rd) ?_))
        rintro _ w21 ⟨⟨g21, rfl, hg21⟩, hu21⟩
        have hz21 := hu21.size
        replace hRL := hRL.ext hu21
        replace hB6 := hB6.ext hu21
        replace hNr := hNr.ext hu21
        replace hl := hl.ext hu21
        replace hT := hT.ext hu21
        replace hU := hU.trans (Ext.upd hu21)
        replace hNc := hNc.ext hu21
        obtain rfl : g21 = true := hg21.2 ((hksc.trans (dec_encP (of_decide_eq_true hc20) hpk).2).trans hksr.symm)
        refine L_gy (dj := 86) rfl rfl rfl (X_pick (t := false) (v := (.bool (true))) rfl rfl ?_)
        refine L_op rfl (X_pick (t := true) (v := (.bool (true))) rfl rfl ?_)
        refine L_op rfl (X_move (v := (.bool (true))) rfl ?_)
        refine L_gy (dj := 96) rfl rfl rfl (X_fn (vs := []) en9 rfl (CT.mono (c_wakes _ hT) ?_))
        rintro vb22 w22 ⟨hvb22, hu22⟩
        have hz22 := hu22.size
        replace hRL := hRL.ext hu22
        replace hB6 := hB6.ext hu22
        replace hNr := hNr.ext hu22
        replace hl := hl.ext hu22
        replace hT := hT.ext hu22
        replace hU := hU.trans (Ext.upd hu22)
        replace hNc := hNc.ext hu22
        subst hvb22
        refine L_op rfl (X_pick (t := true) (v := (.bool (true))) rfl rfl ?_)
        refine L_op rfl (X_assign (v := (.bool (true))) rfl ?_)
        refine L_nil ?_
        refine T_n ?_
        refine W_ret ?_
        exact BQ_r (End_1 Tryd.results6 (v := .bool true) rfl ⟨rfl, hU.own hn0⟩)
      · rw [hc20]
        refine L_gy (dj := 86) rfl rfl rfl (X_not (b := false) (r := true) rfl rfl ?_)
        refine L_gy (dj := 86) rfl rfl rfl (X_move (v := (.bool (true))) rfl ?_)
        refine L_gn (dj := 90) (t := true) rfl rfl rfl rfl ?_
        refine L_gn (dj := 90) (t := true) rfl rfl rfl rfl ?_
        refine L_gn (dj := 90) (t := true) rfl rfl rfl rfl ?_
        refine L_gy (dj := 86) rfl rfl rfl (X_pick (t := true) (v := (.bool (true))) rfl rfl ?_)
        refine L_op rfl (X_pick (t := true) (v := (.bool (true))) rfl rfl ?_)
        refine L_op rfl (X_move (v := (.bool (true))) rfl ?_)
        refine L_gy (dj := 96) rfl rfl rfl (X_fn (vs := []) en9 rfl (CT.mono (c_wakes _ hT) ?_))
        rintro vb23 w23 ⟨hvb23, hu23⟩
        have hz23 := hu23.size
        replace hRL := hRL.ext hu23
        replace hB6 := hB6.ext hu23
        replace hNr := hNr.ext hu23
        replace hl := hl.ext hu23
        replace hT := hT.ext hu23
        replace hU := hU.trans (Ext.upd hu23)
        replace hNc := hNc.ext hu23
        subst hvb23
        refine L_op rfl (X_pick (t := true) (v := (.bool (true))) rfl rfl ?_)
        refine L_op rfl (X_assign (v := (.bool (true))) rfl ?_)
        refine L_nil ?_
        refine T_n ?_
        refine W_ret ?_
        exact BQ_r (End_1 Tryd.results6 (v := .bool true) rfl ⟨rfl, hU.own hn0⟩)
end Go.Proofs.YtbgpegccnalkeaaDoor
