/-
  The library's BinarySearch and Insert of an owned row of ints, by the kit's contracts ('Lays2.n25', 'Lays2.n21'), in the words of this logic. Of no program.
-/
import Derived.Test.YtfmgjkchhajpmaaBaseR
import Derived.Shelf.Slices.SearchI
import Derived.Shelf.Slices.Empties
import Derived.Shelf.Spec.SlicesInsert
import Derived.Shelf.Spec.SlicesInsertGrow
namespace Go.SL
open Go Go.Proofs Go.RowKit Go.Shelf
variable {P : Program} {ρ : Go.Shelf.Ren} {w : World}

theorem LI_flat (zs : List Int) : zs.flatMap LI.cel = zs.map (Value.int .i64) := by
  induction zs with
  | nil => rfl
  | cons z zs ih => rw [List.flatMap_cons, ih]; rfl

theorem c_searchL (Ly : Lays2.n25 P ρ) {v : Value} {zs : List Int} {lo up : Nat} (h : NRd LI w lo up v zs) (hs : zs.Pairwise (· ≤ ·)) (hb : zs.length < 4611686018427387904) (x : Int) :
    CT P (ρ.f 25) #[v, .int .i64 x] w fun r w' => r = .tuple #[.int .i64 ((zs.countP (· < x) : Nat) : Int), .bool (zs.contains x)] ∧ Ext w w' := by
  obtain ⟨hl, a, c, rfl, hnc, hc, hx⟩ := h.1
  rcases Nat.eq_zero_or_pos zs.length with h0 | h0
  · have hz : zs = [] := List.eq_nil_of_length_eq_zero h0
    subst hz
    refine Calls.mono (Any.slices_BinarySearch_int_empty Ly a c x w) ?_
    rintro e w' ⟨rfl, rfl⟩
    exact ⟨_, rfl, rfl, Upd.refl _ _⟩
  · obtain ⟨b, o, rfl, hcell⟩ := hx h0
    rw [LI_flat] at hcell
    refine Calls.mono (Any.slices_BinarySearch_int Ly b o zs.length c zs x w (Nat.le_refl _) hb (fun j hj => hcell j _ ?_) (by rw [List.take_of_length_le (Nat.le_refl _)]; exact hs)) ?_
    · rw [List.getElem?_map, List.getElem?_eq_getElem hj, List.getD_eq_getElem?_getD, List.getElem?_eq_getElem hj]; rfl
    · rintro e w' ⟨rfl, q, rfl⟩
      rw [List.take_of_length_le (Nat.le_refl _)]
      exact ⟨_, rfl, rfl, rfl, rfl, rfl, Nat.le_refl _, fun _ _ _ => rfl⟩

theorem setCells_upd (b : Nat) : ∀ (l : List Value) (o : Nat) (w : World), Upd (fun i => i = b) w (w.setCells b o l)
  | [], _, w => Upd.refl _ w
  | x :: r, o, w => (setCell_upd w b o x).trans (setCells_upd b r (o + 1) _)

theorem Blk.setCells {b : Nat} {t : TypeId} : ∀ (l : List Value) (o : Nat) {w : World} {c : Array Value}, Blk w b c t → o + l.length ≤ c.size →
    Blk (w.setCells b o l) b (c.toList.take o ++ l ++ c.toList.drop (o + l.length)).toArray t
  | [], o, w, c, h, _ => by
    rw [List.append_nil, List.length_nil, Nat.add_zero, List.take_append_drop]
    exact h
  | x :: r, o, w, c, h, hs => by
    have hs' : o + (r.length + 1) ≤ c.size := hs
    have ih := Blk.setCells r (o + 1) (h.setCell o x) (by rw [Array.size_setIfInBounds]; omega)
    have e : (c.setIfInBounds o x).toList = c.toList.set o x := Array.toList_setIfInBounds
    have hl : c.toList.length = c.size := Array.length_toList
    have e1 : (c.toList.set o x).take (o + 1) = c.toList.take o ++ [x] := by
      rw [List.take_add_one, List.getElem?_set_self (by omega), List.take_set, List.set_eq_of_length_le (by rw [List.length_take]; omega)]; rfl
    have e2 : (c.toList.set o x).drop (o + 1 + r.length) = c.toList.drop (o + (x :: r).length) := by
      rw [List.drop_set_of_lt (by omega)]
      congr 1
      show o + 1 + r.length = o + (r.length + 1)
      omega
    rw [e, e1, e2, List.append_assoc (c.toList.take o) [x] r] at ih
    exact ih

theorem ins_grow {L cs vs : List Value} {i n m : Nat} (h0 : L.take i = cs.take i) (hcs : cs.length = n) (hi : i ≤ n) (hvs : vs.length = m) (hL : i ≤ L.length) (R : List Value) :
    (((L.take i ++ vs ++ L.drop (i + vs.length)).take (i + m) ++ cs.drop i) ++ R).take (n + m) = cs.take i ++ vs ++ cs.drop i := by
  have h1 : (L.take i ++ vs ++ L.drop (i + vs.length)).take (i + m) = cs.take i ++ vs := by
    rw [List.take_left' (by rw [List.length_append, List.length_take, hvs]; omega), h0]
  rw [h1, List.take_left' (by rw [List.length_append, List.length_append, List.length_take, List.length_drop]; omega)]

theorem ins_shift {L cs vs : List Value} {i n m : Nat} (h0 : L.take i = cs.take i) (hcs : cs.length = n) (hi : i ≤ n) (hvs : vs.length = m) (hL : i + m ≤ L.length) (R : List Value) :
    (((L.take (i + m) ++ cs.drop i ++ R).take i ++ vs) ++ (L.take (i + m) ++ cs.drop i ++ R).drop (i + vs.length)).take (n + m) = cs.take i ++ vs ++ cs.drop i := by
  have hl : (L.take (i + m)).length = i + m := by rw [List.length_take]; omega
  have h1 : (L.take (i + m) ++ cs.drop i ++ R).take i = cs.take i := by
    rw [List.append_assoc, List.take_append_of_le_length (by omega), List.take_take, Nat.min_eq_left (by omega), h0]
  rw [h1, hvs, List.append_assoc (L.take (i + m)), List.drop_left' hl, ← List.append_assoc, List.take_left' (by rw [List.length_append, List.length_append, List.length_take, List.length_drop]; omega)]

theorem zero_size (n : Nat) : (Builtin.zeroCells (Value.int .i64 0).cells n).size = n := by
  have h : (Value.int .i64 0).cells = #[Value.int .i64 0] := rfl
  unfold Builtin.zeroCells
  rw [h]; simp

theorem Blk.drew {b : Nat} {c : Array Value} {t : TypeId} (h : Blk w b c t) : Blk w.drew b c t := h
theorem drew_ext : Ext w w.drew := ⟨rfl, rfl, rfl, Nat.le_refl _, fun _ _ _ => rfl⟩

theorem c_insertL (Ly : Lays2.n21 P ρ) {v : Value} {zs : List Int} {er eb lo up vb i : Nat} {y : Int} {t : TypeId} (her : ρ.t 3 = er) (h : NOwn LI w er eb lo up v zs) (hv : Blk w vb #[.int .i64 y] t) (hvb : up ≤ vb) (hi : i ≤ zs.length) (hl : zs.length ≤ 1048576) (hlo : lo ≤ w.heap.size) :
    CT P (ρ.f 21) #[v, .int .i64 i, .slice (some ⟨vb, 0, none⟩) 1 1] w fun r w' => NOwn LI w' er eb lo w'.heap.size r (zs.take i ++ y :: zs.drop i) ∧ Upd (fun j => obk v = some j) w w' ∧ (∀ b, obk r = some b → obk v = some b ∨ w.heap.size ≤ b) := by
  obtain ⟨hO, hup, _⟩ := h
  obtain ⟨hxl, a, c, rfl, hnc, hc, hcase⟩ := hO
  have hsz : LI.sz = 1 := rfl
  rw [LI_flat] at hxl hcase
  rw [hsz] at hcase
  simp only [Nat.mul_one] at hcase
  obtain ⟨cs, hcs⟩ : ∃ cs, cs = zs.map (Value.int .i64) := ⟨_, rfl⟩
  have hcl : cs.length = zs.length := by rw [hcs, List.length_map]
  have h1c : ∀ u ∈ cs, u.oneCell' = true := fun u hu => by rw [hcs] at hu; obtain ⟨z, _, rfl⟩ := List.mem_map.1 hu; rfl
  have h1v : ∀ u ∈ [Value.int .i64 y], u.oneCell' = true := fun u hu => by
    have : u = Value.int .i64 y := by simpa using hu
    subst this; rfl
  have hvs : ∀ (j : Nat) (u : Value), [Value.int .i64 y][j]? = some u → w.cell? ⟨vb, 0 + j, none⟩ = some u := fun j u hj => by
    rw [Nat.zero_add]
    exact hv.cell (by simpa using hj)
  have hres : cs.take i ++ [Value.int .i64 y] ++ cs.drop i = (zs.take i ++ y :: zs.drop i).flatMap LI.cel := by
    rw [LI_flat, List.map_append, List.map_cons, List.map_take, List.map_drop, ← hcs, List.append_assoc]; rfl
  have hlen : (zs.take i ++ y :: zs.drop i).length = zs.length + 1 := by
    rw [List.length_append, List.length_cons, List.length_take, List.length_drop]; omega
  have fin : ∀ {w' : World} {b c' : Nat} {L : List Value}, Blk w' b L.toArray er → L.take (zs.length + 1) = cs.take i ++ [Value.int .i64 y] ++ cs.drop i → zs.length + 1 ≤ c' → c' ≤ maxLen → c' ≤ L.length → lo ≤ b →
      NOwn LI w' er eb lo w'.heap.size (.slice (some ⟨b, 0, none⟩) (zs.length + 1) c') (zs.take i ++ y :: zs.drop i) := by
    intro w' b c' L hb hL h1 h2 h3 h4
    refine NOwn.of (fun _ => rfl) ?_ fun b' hb' => ?_
    · refine ⟨by rw [flat_len], _, c', by rw [hlen], by rw [hlen]; exact h1, h2, .inr ⟨b, _, rfl, h4, hb, by rw [hsz, Nat.mul_one]; simpa using h3, ?_⟩⟩
      rw [hsz, Nat.mul_one, hlen, ← hres]
      exact hL
    · obtain ⟨k, rfl⟩ : ∃ k, c' = k + 1 := ⟨c' - 1, by omega⟩
      cases hb'
      exact hb.lt
  by_cases hroom : zs.length + 1 ≤ c
  · rcases hcase with h0 | ⟨b, cur, rfl, hBb, hb, hfit, htk⟩
    · omega
    have hcur : cur.toList.length = cur.size := Array.length_toList
    have hbu : b < up := hup b (by obtain ⟨k, rfl⟩ : ∃ k, c = k + 1 := ⟨c - 1, by omega⟩; rfl)
    have hob : obk (.slice (some ⟨b, 0, none⟩) zs.length c) = some b := by obtain ⟨k, rfl⟩ : ∃ k, c = k + 1 := ⟨c - 1, by omega⟩; rfl
    have htk' : cur.toList.take zs.length = cs := by rw [hcs]; exact htk
    rcases Nat.lt_or_ge i zs.length with h1 | h1
    · refine Calls.mono (Any2.slices_Insert_int_shift Ly b 0 zs.length c i vb 0 1 1 cs [.int .i64 y] w h1 (by decide) hroom hc (by omega) hcl rfl (fun j u hj => ?_) (fun j hj => ?_) (fun j _ => hb.unfrozen _) hvs h1c h1v t er 1 cur.size ?_ ?_ (by omega) (hv.unfrozen _) (hv.unfrozen _)) ?_
      · rw [Nat.zero_add]
        refine hb.cell ?_
        have h2 : j < zs.length := by have := (List.getElem?_eq_some_iff.1 hj).1; omega
        rw [← Array.getElem?_toList, ← List.getElem?_take_of_lt h2, htk']; exact hj
      · rw [Nat.zero_add, hb.cell (v := cur[j]'(by omega)) (Array.getElem?_eq_getElem (by omega))]; rfl
      · unfold World.shape?; rw [show w.heap[vb]? = _ from hv]; rfl
      · unfold World.shape?; rw [show w.heap[b]? = _ from hb]
      · rintro e w' ⟨rfl, rfl⟩
        refine ⟨_, rfl, ?_, ?_, fun b' hb' => .inl (by rw [hob]; obtain ⟨k, rfl⟩ : ∃ k, c = k + 1 := ⟨c - 1, by omega⟩; exact hb')⟩
        · have hd : (cs.drop i).length = zs.length - i := by rw [List.length_drop, hcl]
          have h2 := Blk.setCells (cs.drop i) (0 + (i + 1)) hb.drew (by rw [hd]; omega)
          rw [Nat.zero_add] at h2
          have h3 := Blk.setCells [.int .i64 y] (0 + i) h2 (by simp only [List.size_toArray, List.length_append, List.length_take, List.length_drop, hd, hcur, List.length_singleton]; omega)
          rw [Nat.zero_add] at h3
          rw [Nat.zero_add, Nat.zero_add]
          refine fin h3 ?_ hroom hc ?_ hBb
          · rw [List.toList_toArray]
            exact ins_shift (m := 1) (by rw [← htk', List.take_take, Nat.min_eq_left hi]) hcl hi rfl (by omega) _
          · simp only [List.length_append, List.length_take, List.length_drop, hcl, hcur, List.length_singleton]; omega
        · have h2 := (Upd.drew (fun j => j = b) w).trans ((setCells_upd b (cs.drop i) (0 + (i + 1)) w.drew).trans (setCells_upd b [.int .i64 y] (0 + i) _))
          exact h2.mono fun j _ hj => by rw [hj]; exact hob
    · obtain rfl : i = zs.length := by omega
      refine Calls.mono (Any2.slices_Insert_int_end_room Ly b 0 zs.length c vb 0 1 1 [.int .i64 y] w (by decide) hroom hc rfl (fun j hj => ?_) (fun j _ => hb.unfrozen _) hvs h1v) ?_
      · rw [hb.cell (v := cur[0 + zs.length + j]'(by omega)) (Array.getElem?_eq_getElem (by omega))]; rfl
      · rintro e w' ⟨rfl, rfl⟩
        refine ⟨_, rfl, ?_, (setCells_upd b _ _ w).mono fun j _ hj => by rw [hj]; exact hob, fun b' hb' => .inl (by rw [hob]; obtain ⟨k, rfl⟩ : ∃ k, c = k + 1 := ⟨c - 1, by omega⟩; exact hb')⟩
        have h3 := Blk.setCells [.int .i64 y] (0 + zs.length) hb (by show 0 + zs.length + 1 ≤ _; omega)
        rw [Nat.zero_add] at h3
        rw [Nat.zero_add]
        refine fin h3 ?_ hroom hc ?_ hBb
        · rw [htk', List.take_left' (by rw [List.length_append, hcl]; rfl), List.take_of_length_le (by omega), List.drop_eq_nil_of_le (by omega), List.append_nil]
        · simp only [List.length_append, List.length_take, List.length_drop, hcur, List.length_singleton]; omega
  · have hg1 := grownCap_ge w (zs.length + 1) c (ρ.t 3)
    have hg2 := grownCap_le_maxLen w (zs.length + 1) c (ρ.t 3) (by unfold maxLen; omega)
    have hrow : ∀ a', a = some a' → 0 < zs.length → ∃ b, a' = ⟨b, 0, none⟩ ∧ ∀ (j : Nat) (u : Value), cs[j]? = some u → w.cell? ⟨b, 0 + j, none⟩ = some u := by
      intro a' ha' h0
      rcases hcase with h1 | ⟨b, cur, h1, hBb, hb, hfit, htk⟩
      · omega
      · rw [ha'] at h1
        cases h1
        refine ⟨b, rfl, fun j u hj => ?_⟩
        rw [Nat.zero_add]
        refine hb.cell ?_
        have h2 : j < zs.length := by have := (List.getElem?_eq_some_iff.1 hj).1; omega
        rw [← Array.getElem?_toList, ← List.getElem?_take_of_lt h2, htk, ← hcs]; exact hj
    have hnew : ∀ b, obk (.slice (some ⟨w.heap.size, 0, none⟩) (zs.length + 1) (grownCap w (zs.length + 1) c (ρ.t 3))) = some b → obk (.slice a zs.length c) = some b ∨ w.heap.size ≤ b := fun b hb => .inr (by
      obtain ⟨k, hk⟩ : ∃ k, grownCap w (zs.length + 1) c (ρ.t 3) = k + 1 := ⟨grownCap w (zs.length + 1) c (ρ.t 3) - 1, by omega⟩
      rw [hk] at hb
      cases hb; exact Nat.le_refl _)
    rcases Nat.lt_or_ge i zs.length with h1 | h1
    · obtain ⟨a', rfl⟩ : ∃ a', a = some a' := by
        rcases hcase with h2 | ⟨b, cur, h2, _⟩
        · omega
        · exact ⟨_, h2⟩
      obtain ⟨b, rfl, hcell⟩ := hrow a' rfl (by omega)
      refine Calls.mono (Any2.slices_Insert_int_grow Ly b 0 zs.length c i vb 0 1 1 cs [.int .i64 y] w h1 (by decide) hnc (by omega) (by omega) hcl rfl hcell hvs h1c h1v) ?_
      rintro e w' ⟨rfl, rfl⟩
      obtain ⟨C, hC⟩ : ∃ C, C = (cs.take i).toArray ++ Builtin.zeroCells (Value.int .i64 0).cells (zs.length + 1 - i) ++ Builtin.zeroCells (Value.int .i64 0).cells (grownCap w (zs.length + 1) c (ρ.t 3) - (zs.length + 1)) := ⟨_, rfl⟩
      rw [← hC, her]
      rw [her] at hC hg1 hg2 hnew
      have hCs : C.size = grownCap w (zs.length + 1) c er := by
        rw [hC, Array.size_append, Array.size_append, zero_size, zero_size, List.size_toArray, List.length_take, hcl]; omega
      have hCl : C.toList.length = grownCap w (zs.length + 1) c er := by rw [Array.length_toList, hCs]
      have hCt : C.toList.take i = cs.take i := by
        rw [hC, Array.append_assoc, Array.toList_append, List.toList_toArray, List.take_left' (by rw [List.length_take]; omega)]
      have hN := new_alloc w C er
      have h2 := Blk.setCells [.int .i64 y] i hN.blk.drew (by show i + 1 ≤ _; omega)
      have hd : (cs.drop i).length = zs.length - i := by rw [List.length_drop, hcl]
      have h3 := Blk.setCells (cs.drop i) (i + 1) h2.drew (by simp only [List.size_toArray, List.length_append, List.length_take, List.length_drop, hd, hCl, List.length_singleton]; omega)
      refine ⟨_, rfl, ?_, ?_, hnew⟩
      · refine fin h3 ?_ hg1 hg2 ?_ hlo
        · rw [List.toList_toArray]
          exact ins_grow (m := 1) hCt hcl hi rfl (by omega) _
        · simp only [List.length_append, List.length_take, List.length_drop, hcl, hCl, List.length_singleton]; omega
      · have h4 := ((setCells_upd w.heap.size [.int .i64 y] i (w.alloc (.cells C er)).drew).trans (Upd.drew _ _)).trans (setCells_upd w.heap.size (cs.drop i) (i + 1) _)
        exact (hN.ext.trans drew_ext).comp (D := fun j => obk (.slice (some ⟨b, 0, none⟩) zs.length c) = some j) h4 (fun _ _ hx => hx.elim) fun j hj hx => absurd hx (Nat.ne_of_lt hj)
    · obtain rfl : i = zs.length := by omega
      refine Calls.mono (Any2.slices_Insert_int_end_grow Ly a zs.length c vb 0 1 1 cs [.int .i64 y] w (by decide) hnc (by omega) (by omega) hcl rfl ?_ ?_ hvs h1v) ?_
      · intro ha
        rcases hcase with h2 | ⟨b, cur, h2, _⟩
        · omega
        · rw [ha] at h2; cases h2
      · intro a' ha' j u hj
        have h0 : 0 < zs.length := by have := (List.getElem?_eq_some_iff.1 hj).1; omega
        obtain ⟨b, rfl, hcell⟩ := hrow a' ha' h0
        rw [addr_add]; exact hcell j u hj
      · rintro e w' ⟨rfl, rfl⟩
        obtain ⟨C, hC⟩ : ∃ C, C = (cs ++ [Value.int .i64 y]).toArray ++ Builtin.zeroCells (Value.int .i64 0).cells (grownCap w (zs.length + 1) c (ρ.t 3) - (zs.length + 1)) := ⟨_, rfl⟩
        rw [← hC, her]
        rw [her] at hC hg1 hg2 hnew
        have hN := new_alloc w.drew C er
        have hCl : C.toList.length = zs.length + 1 + (grownCap w (zs.length + 1) c er - (zs.length + 1)) := by
          rw [Array.length_toList, hC, Array.size_append, zero_size, List.size_toArray, List.length_append, hcl]; rfl
        refine ⟨_, rfl, ?_, ?_, hnew⟩
        · refine fin (L := C.toList) hN.blk ?_ hg1 hg2 ?_ hlo
          · rw [hC, Array.toList_append, List.toList_toArray, List.take_left' (by rw [List.length_append, hcl]; rfl), List.take_of_length_le (by omega), List.drop_eq_nil_of_le (by omega), List.append_nil]
          · show grownCap w (zs.length + 1) c er ≤ C.toList.length
            rw [hCl]; omega
        · exact (drew_ext.trans hN.ext).mono fun _ _ hx => hx.elim
end Go.SL
