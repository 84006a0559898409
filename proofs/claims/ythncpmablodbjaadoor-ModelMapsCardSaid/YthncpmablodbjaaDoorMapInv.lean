/-
  ModelMaps: what its loop keeps. (Printed by wip/gen/t31r.py of this repo.)
-/
import Derived.Test.YthncpmablodbjaaDoorMapsF
import Derived.Test.YthncpmablodbjaaDoorBaseTY
namespace Go.Proofs.YthncpmablodbjaaDoor
open Go Go.SL Go.Proofs
set_option linter.unusedVariables false

theorem bl_irr : ∀ a : B, Op.bytesLess a a = false
  | [] => rfl
  | x :: a => by simp [Op.bytesLess, bl_irr a, UInt8.lt_irrefl]
theorem bl_trans : ∀ a b c : B, Op.bytesLess a b = true → Op.bytesLess b c = true → Op.bytesLess a c = true
  | _, _, [], _, h => by cases ‹B› <;> simp [Op.bytesLess] at h
  | _, [], _ :: _, h, _ => by cases ‹B› <;> simp [Op.bytesLess] at h
  | [], _ :: _, _ :: _, _, _ => rfl
  | x :: a, y :: b, z :: c, h1, h2 => by
    have ih := bl_trans a b c
    simp only [Op.bytesLess, Bool.or_eq_true, Bool.and_eq_true, decide_eq_true_eq, beq_iff_eq] at h1 h2 ⊢
    rcases h1 with h1 | ⟨rfl, h1⟩
    · rcases h2 with h2 | ⟨rfl, h2⟩
      · exact .inl (UInt8.lt_trans h1 h2)
      · exact .inl h1
    · rcases h2 with h2 | ⟨rfl, h2⟩
      · exact .inl h2
      · exact .inr ⟨rfl, ih h1 h2⟩
theorem bl_total : ∀ a b : B, Op.bytesLess a b = false → a ≠ b → Op.bytesLess b a = true
  | [], [], _, h => absurd rfl h
  | [], _ :: _, h, _ => by simp [Op.bytesLess] at h
  | _ :: _, [], _, _ => rfl
  | x :: a, y :: b, h, hne => by
    have ih := bl_total a b
    simp only [Op.bytesLess, Bool.or_eq_false_iff, Bool.and_eq_false_iff, decide_eq_false_iff_not, beq_eq_false_iff_ne, Bool.or_eq_true, Bool.and_eq_true, decide_eq_true_eq, beq_iff_eq] at h ⊢
    by_cases hxy : x = y
    · subst hxy
      right
      refine ⟨rfl, ih ?_ fun e => hne (by rw [e])⟩
      rcases h.2 with h2 | h2
      · exact absurd rfl h2
      · exact h2
    · left
      exact UInt8.lt_of_le_of_ne (UInt8.not_lt.1 h.1) (fun e => hxy e.symm)
abbrev Rise (K : List B) : Prop := K.Pairwise fun a b => Op.bytesLess a b = true
theorem rise_at {K : List B} (h : Rise K) {i j : Nat} {a b : B} (hi : K[i]? = some a) (hj : K[j]? = some b) (hij : i < j) : Op.bytesLess a b = true := by
  obtain ⟨h1, h2⟩ := List.getElem?_eq_some_iff.1 hi
  obtain ⟨h3, h4⟩ := List.getElem?_eq_some_iff.1 hj
  rw [← h2, ← h4]
  exact List.pairwise_iff_getElem.1 h i j h1 h3 hij
/-- what the place of a key says -/
theorem at_spec (m : B) : ∀ (K : List B) (n : Nat) (t : Bool), atD K m = (n, t) → (∀ i x, i < n → K[i]? = some x → Op.bytesLess x m = true) ∧ (∀ x, K[n]? = some x → Op.bytesLess x m = false ∧ t = (x == m)) ∧ (n = K.length → t = false) ∧ n ≤ K.length
  | [], n, t, h => by
    cases h
    exact ⟨fun i x hi => absurd hi (Nat.not_lt_zero i), fun x hx => by simp at hx, fun _ => rfl, Nat.le_refl _⟩
  | y :: K, n, t, h => by
    unfold atD at h
    split at h
    · rename_i h1
      cases h
      refine ⟨fun i x hi => absurd hi (Nat.not_lt_zero i), fun x hx => ?_, fun h => by simp at h, Nat.zero_le _⟩
      have hx' : y = x := by simpa using hx
      subst hx'
      exact ⟨by simpa [scmp] using h1, rfl⟩
    · rename_i h1
      obtain ⟨h2, h3, h4, h5⟩ := at_spec m K _ _ rfl
      cases h
      refine ⟨fun i x hi hx => ?_, fun x hx => h3 x (by simpa using hx), fun h => h4 (by simpa using h), Nat.succ_le_succ h5⟩
      cases i with
      | zero =>
        have hx' : y = x := by simpa using hx
        subst hx'
        simpa [scmp] using h1
      | succ i => exact h2 i x (by omega) (by simpa using hx)
/-- a row without the place n -/
def woG {α : Type} (l : List α) (n : Int) : List α := if n < 0 then l else l.take n.toNat ++ l.drop (n.toNat + 1)
theorem wo_map {α : Type} (f : α → B) (L : List α) (n : Int) : woD (L.map f) n = (woG L n).map f := by
  unfold woD woG
  split
  · rfl
  · rw [List.map_append, List.map_take, List.map_drop]
theorem ins_map {α β : Type} (f : α → β) (L : List α) (n : Nat) (a : α) : insD (L.map f) n (f a) = (insD L n a).map f := by
  unfold insD
  rw [List.map_append, List.map_cons, List.map_take, List.map_drop]
abbrev PB := B × B
abbrev kz (L : List PB) : List B := L.map (·.1)
abbrev vz (L : List PB) : List B := L.map (·.2)
def putP (L : List PB) (m x : B) : List PB := insD (woG L (goneD (kz L) m)) (atD (kz L) m).1 (m, x)
def dropP (L : List PB) (m : B) : List PB := woG L (goneD (kz L) m)
theorem put_kz (L : List PB) (m x : B) : putK (kz L) m = kz (putP L m x) := by
  unfold putK putP
  rw [wo_map, ins_map (fun p : PB => p.1) _ _ (m, x)]
theorem put_vz (L : List PB) (m x : B) : putV (kz L) (vz L) m x = vz (putP L m x) := by
  unfold putV putP
  rw [wo_map, ins_map (fun p : PB => p.2) _ _ (m, x)]
theorem drop_kz (L : List PB) (m : B) : dropK (kz L) m = kz (dropP L m) := wo_map _ _ _
theorem drop_vz (L : List PB) (m : B) : dropV (kz L) (vz L) m = vz (dropP L m) := wo_map _ _ _
/-- a map's row parts at a key's place -/
theorem split_t {L : List PB} {m : B} {n : Nat} (h : atD (kz L) m = (n, true)) : ∃ x, L[n]? = some (m, x) := by
  obtain ⟨_, h2, h3, h4⟩ := at_spec m _ _ _ h
  have hn : n < L.length := by
    rcases Nat.lt_or_ge n L.length with h5 | h5
    · exact h5
    · have := h3 (by rw [List.length_map] at h4 ⊢; omega); cases this
  obtain ⟨p, hp⟩ : ∃ p, L[n]? = some p := ⟨_, List.getElem?_eq_getElem hn⟩
  have := (h2 p.1 (by rw [List.getElem?_map, hp]; rfl)).2
  have he : p.1 = m := by simpa using this.symm
  exact ⟨p.2, by rw [hp, ← he]⟩
theorem low_at {L : List PB} {m : B} {n : Nat} {t : Bool} (h : atD (kz L) m = (n, t)) : ∀ p ∈ L.take n, Op.bytesLess p.1 m = true := by
  intro p hp
  obtain ⟨i, hi⟩ := List.mem_iff_getElem?.1 hp
  rw [List.getElem?_take] at hi
  split at hi
  · rename_i hin
    exact (at_spec m _ _ _ h).1 i p.1 hin (by rw [List.getElem?_map, hi]; rfl)
  · cases hi
theorem high_at {L : List PB} {m : B} {n : Nat} {t : Bool} (hr : Rise (kz L)) (h : atD (kz L) m = (n, t)) : ∀ p ∈ L.drop (n + 1), Op.bytesLess m p.1 = true := by
  intro p hp
  obtain ⟨i, hi⟩ := List.mem_iff_getElem?.1 hp
  rw [List.getElem?_drop] at hi
  have hn : n < L.length := by have := (List.getElem?_eq_some_iff.1 hi).1; omega
  obtain ⟨q, hq⟩ : ∃ q, L[n]? = some q := ⟨_, List.getElem?_eq_getElem hn⟩
  have h1 := (at_spec m _ _ _ h).2.1 q.1 (by rw [List.getElem?_map, hq]; rfl)
  have h2 : Op.bytesLess q.1 p.1 = true := rise_at hr (i := n) (j := n + 1 + i) (by rw [List.getElem?_map, hq]; rfl) (by rw [List.getElem?_map, hi]; rfl) (by omega)
  by_cases he : q.1 = m
  · rw [← he]; exact h2
  · exact bl_trans _ _ _ (bl_total _ _ h1.1 he) h2
theorem high_f {L : List PB} {m : B} {n : Nat} (hr : Rise (kz L)) (h : atD (kz L) m = (n, false)) : ∀ p ∈ L.drop n, Op.bytesLess m p.1 = true := by
  intro p hp
  rcases Nat.lt_or_ge n L.length with hn | hn
  · rw [List.drop_eq_getElem_cons hn] at hp
    rcases List.mem_cons.1 hp with rfl | hp
    · have h1 := (at_spec m _ _ _ h).2.1 L[n].1 (by rw [List.getElem?_map, List.getElem?_eq_getElem hn]; rfl)
      refine bl_total _ _ h1.1 fun e => ?_
      have := h1.2
      rw [e] at this
      simp at this
    · exact high_at hr h p hp
  · rw [List.drop_of_length_le hn] at hp; cases hp
theorem put_t {L : List PB} {m x : B} {n : Nat} (h : atD (kz L) m = (n, true)) : putP L m x = L.take n ++ (m, x) :: L.drop (n + 1) := by
  obtain ⟨y, hy⟩ := split_t h
  have hn := (List.getElem?_eq_some_iff.1 hy).1
  have hl : (L.take n).length = n := by rw [List.length_take]; omega
  unfold putP insD woG
  rw [gone_t h, h, if_neg (by omega), Int.toNat_natCast]
  show (L.take n ++ L.drop (n + 1)).take n ++ (m, x) :: (L.take n ++ L.drop (n + 1)).drop n = _
  rw [List.take_left' hl, List.drop_left' hl]
theorem put_f {L : List PB} {m x : B} {n : Nat} (h : atD (kz L) m = (n, false)) : putP L m x = L.take n ++ (m, x) :: L.drop n := by
  unfold putP insD woG
  rw [gone_f h, h, if_pos (by decide)]
theorem drop_t {L : List PB} {m : B} {n : Nat} (h : atD (kz L) m = (n, true)) : dropP L m = L.take n ++ L.drop (n + 1) := by
  unfold dropP woG
  rw [gone_t h, if_neg (by omega), Int.toNat_natCast]
theorem drop_f {L : List PB} {m : B} {n : Nat} (h : atD (kz L) m = (n, false)) : dropP L m = L := by
  unfold dropP woG
  rw [gone_f h, if_pos (by decide)]
theorem lt_ne {a b : B} (h : Op.bytesLess a b = true) : a ≠ b := fun e => by rw [e, bl_irr] at h; cases h
theorem mem_parts {α : Type} {L : List α} {n : Nat} {p : α} (h : p ∈ L) : p ∈ L.take n ∨ L[n]? = some p ∨ p ∈ L.drop (n + 1) := by
  obtain ⟨i, hi⟩ := List.mem_iff_getElem?.1 h
  rcases Nat.lt_trichotomy i n with h1 | h1 | h1
  · exact .inl (List.mem_iff_getElem?.2 ⟨i, by rw [List.getElem?_take, if_pos h1]; exact hi⟩)
  · subst h1; exact .inr (.inl hi)
  · exact .inr (.inr (List.mem_iff_getElem?.2 ⟨i - (n + 1), by rw [List.getElem?_drop, show n + 1 + (i - (n + 1)) = i by omega]; exact hi⟩))
theorem put_mem {L : List PB} {m x : B} (hr : Rise (kz L)) (p : PB) : p ∈ putP L m x ↔ p = (m, x) ∨ (p ∈ L ∧ p.1 ≠ m) := by
  obtain ⟨n, t, h⟩ : ∃ n t, atD (kz L) m = (n, t) := ⟨_, _, rfl⟩
  cases t with
  | true =>
    rw [put_t h]
    simp only [List.mem_append, List.mem_cons]
    obtain ⟨y, hy⟩ := split_t h
    constructor
    · rintro (h1 | h1 | h1)
      · exact .inr ⟨List.mem_of_mem_take h1, lt_ne (low_at h p h1)⟩
      · exact .inl h1
      · exact .inr ⟨List.mem_of_mem_drop h1, (lt_ne (high_at hr h p h1)).symm⟩
    · rintro (h1 | ⟨h1, h2⟩)
      · exact .inr (.inl h1)
      · rcases mem_parts (n := n) h1 with h3 | h3 | h3
        · exact .inl h3
        · rw [hy] at h3; cases h3; exact absurd rfl h2
        · exact .inr (.inr h3)
  | false =>
    rw [put_f h]
    simp only [List.mem_append, List.mem_cons]
    constructor
    · rintro (h1 | h1 | h1)
      · exact .inr ⟨List.mem_of_mem_take h1, lt_ne (low_at h p h1)⟩
      · exact .inl h1
      · exact .inr ⟨List.mem_of_mem_drop h1, (lt_ne (high_f hr h p h1)).symm⟩
    · rintro (h1 | ⟨h1, h2⟩)
      · exact .inr (.inl h1)
      · rw [← List.take_append_drop n L] at h1
        rcases List.mem_append.1 h1 with h3 | h3
        · exact .inl h3
        · exact .inr (.inr h3)
theorem drop_mem {L : List PB} {m : B} (hr : Rise (kz L)) (p : PB) : p ∈ dropP L m ↔ p ∈ L ∧ p.1 ≠ m := by
  obtain ⟨n, t, h⟩ : ∃ n t, atD (kz L) m = (n, t) := ⟨_, _, rfl⟩
  cases t with
  | true =>
    rw [drop_t h]
    simp only [List.mem_append]
    obtain ⟨y, hy⟩ := split_t h
    constructor
    · rintro (h1 | h1)
      · exact ⟨List.mem_of_mem_take h1, lt_ne (low_at h p h1)⟩
      · exact ⟨List.mem_of_mem_drop h1, (lt_ne (high_at hr h p h1)).symm⟩
    · rintro ⟨h1, h2⟩
      rcases mem_parts (n := n) h1 with h3 | h3 | h3
      · exact .inl h3
      · rw [hy] at h3; cases h3; exact absurd rfl h2
      · exact .inr h3
  | false =>
    rw [drop_f h]
    refine ⟨fun h1 => ⟨h1, ?_⟩, fun h1 => h1.1⟩
    rw [← List.take_append_drop n L] at h1
    rcases List.mem_append.1 h1 with h3 | h3
    · exact lt_ne (low_at h p h3)
    · exact (lt_ne (high_f hr h p h3)).symm
theorem rise_put {L : List PB} {m x : B} (hr : Rise (kz L)) : Rise (kz (putP L m x)) := by
  obtain ⟨n, t, h⟩ : ∃ n t, atD (kz L) m = (n, t) := ⟨_, _, rfl⟩
  have key : ∀ R : List PB, R.Sublist (L.drop n) → (∀ p ∈ R, Op.bytesLess m p.1 = true) → Rise (kz (L.take n ++ (m, x) :: R)) := by
    intro R hs hm
    unfold Rise kz
    rw [List.map_append, List.map_cons]
    refine List.pairwise_append.2 ⟨?_, List.pairwise_cons.2 ⟨?_, ?_⟩, ?_⟩
    · rw [List.map_take]; exact hr.sublist (List.take_sublist _ _)
    · intro k hk
      obtain ⟨p, hp, rfl⟩ := List.mem_map.1 hk
      exact hm p hp
    · refine hr.sublist ((hs.map _).trans ?_)
      rw [List.map_drop]
      exact List.drop_sublist _ _
    · intro a ha b hb
      obtain ⟨p, hp, rfl⟩ := List.mem_map.1 ha
      have h1 := low_at h p hp
      rcases List.mem_cons.1 hb with rfl | hb
      · exact h1
      · obtain ⟨q, hq, rfl⟩ := List.mem_map.1 hb
        exact bl_trans _ _ _ h1 (hm q hq)
  cases t with
  | true => rw [put_t h]; exact key _ (by rw [show n + 1 = n + 1 from rfl, ← List.drop_drop]; exact List.drop_sublist _ _) (high_at hr h)
  | false => rw [put_f h]; exact key _ (List.Sublist.refl _) (high_f hr h)
theorem rise_drop {L : List PB} {m : B} (hr : Rise (kz L)) : Rise (kz (dropP L m)) := by
  obtain ⟨n, t, h⟩ : ∃ n t, atD (kz L) m = (n, t) := ⟨_, _, rfl⟩
  cases t with
  | true =>
    rw [drop_t h]
    refine hr.sublist (List.Sublist.map _ ?_)
    conv => rhs; rw [← List.take_append_drop n L]
    exact List.Sublist.append (List.Sublist.refl _) (by rw [← List.drop_drop]; exact List.drop_sublist _ _)
  | false => rw [drop_f h]; exact hr
/-- what is told of a key is what stands there -/
theorem get_iff {L : List PB} (hr : Rise (kz L)) (m x : B) : getO (kz L) (vz L) m = some x ↔ (m, x) ∈ L := by
  obtain ⟨n, t, h⟩ : ∃ n t, atD (kz L) m = (n, t) := ⟨_, _, rfl⟩
  cases t with
  | true =>
    obtain ⟨y, hy⟩ := split_t h
    have hv : valD (vz L) ((atD (kz L) m).1 : Int) = y := by rw [h]; exact val_at (by omega) (by rw [Int.toNat_natCast, List.getElem?_map, hy]; rfl)
    rw [get_t (by rw [h]), hv]
    constructor
    · intro h1; cases h1; exact List.mem_of_getElem? hy
    · intro h1
      rcases mem_parts (n := n) h1 with h3 | h3 | h3
      · exact absurd rfl (lt_ne (low_at h _ h3))
      · rw [hy] at h3; cases h3; rfl
      · exact absurd rfl (lt_ne (high_at hr h _ h3))
  | false =>
    rw [get_f (by rw [h])]
    refine ⟨fun h1 => (by cases h1), fun h1 => ?_⟩
    rw [← List.take_append_drop n L] at h1
    rcases List.mem_append.1 h1 with h3 | h3
    · exact absurd rfl (lt_ne (low_at h _ h3))
    · exact absurd rfl (lt_ne (high_f hr h _ h3))
theorem opt_ext {a b : Option B} (h : ∀ x, a = some x ↔ b = some x) : a = b := by
  cases a with
  | none => cases b with
    | none => rfl
    | some y => exact ((h y).2 rfl)
  | some x => exact ((h x).1 rfl).symm
theorem get_put_same {L : List PB} (hr : Rise (kz L)) (m x : B) : getO (kz (putP L m x)) (vz (putP L m x)) m = some x := (get_iff (rise_put hr) m x).2 ((put_mem hr _).2 (.inl rfl))
theorem get_put_other {L : List PB} (hr : Rise (kz L)) {m x k : B} (hk : m ≠ k) : getO (kz (putP L m x)) (vz (putP L m x)) k = getO (kz L) (vz L) k := opt_ext fun y => by
  rw [get_iff (rise_put hr), get_iff hr, put_mem hr]
  constructor
  · rintro (h | h)
    · cases h; exact absurd rfl hk
    · exact h.1
  · exact fun h => .inr ⟨h, fun e => hk e.symm⟩
theorem get_drop_same {L : List PB} (hr : Rise (kz L)) (m : B) : getO (kz (dropP L m)) (vz (dropP L m)) m = none := by
  cases h : getO (kz (dropP L m)) (vz (dropP L m)) m with
  | none => rfl
  | some x => exact absurd rfl ((drop_mem hr _).1 ((get_iff (rise_drop hr) m x).1 h)).2
theorem get_drop_other {L : List PB} (hr : Rise (kz L)) {m k : B} (hk : m ≠ k) : getO (kz (dropP L m)) (vz (dropP L m)) k = getO (kz L) (vz L) k := opt_ext fun y => by
  rw [get_iff (rise_drop hr), get_iff hr, drop_mem hr]
  exact ⟨fun h => h.1, fun h => ⟨h, fun e => hk e.symm⟩⟩
theorem get_some {ks vs : List B} {m : B} : (getO ks vs m).isSome = (atD ks m).2 := by
  unfold getO
  split
  · rename_i h; rw [h]; rfl
  · rename_i h; simp at h; rw [h]; rfl
/-- two rows of one length are a row of pairs -/
theorem zip_of {K V : List B} (h : K.length = V.length) : ∃ L : List PB, kz L = K ∧ vz L = V :=
  ⟨K.zip V, List.map_fst_zip (by omega), List.map_snd_zip (by omega)⟩
/-- what is not below, and not above, a key -/
theorem le_iff {K : List B} (hr : Rise K) {m : B} {i : Nat} {x : B} (hx : K[i]? = some x) : scmp .leq x m = true ↔ (i : Int) ≤ seekD K m true := by
  obtain ⟨n, t, h⟩ : ∃ n t, atD K m = (n, t) := ⟨_, _, rfl⟩
  obtain ⟨h1, h2, h3, h4⟩ := at_spec m _ _ _ h
  have hil := (List.getElem?_eq_some_iff.1 hx).1
  have hs : scmp .leq x m = true ↔ (Op.bytesLess x m = true ∨ x = m) := by simp [scmp]
  rw [hs]
  rcases Nat.lt_trichotomy i n with hi | hi | hi
  · have h5 := h1 i x hi hx
    refine ⟨fun _ => ?_, fun _ => .inl h5⟩
    cases t with
    | true => rw [seek_t h]; omega
    | false => rw [seek_y h]; omega
  · subst hi
    obtain ⟨h5, h6⟩ := h2 x hx
    rw [h5]
    cases t with
    | true => rw [seek_t h]; exact ⟨fun _ => by omega, fun _ => .inr (by simpa using h6.symm)⟩
    | false =>
      rw [seek_y h]
      refine ⟨fun h7 => ?_, fun h7 => by omega⟩
      rcases h7 with h7 | h7
      · cases h7
      · rw [h7] at h6; simp at h6
  · obtain ⟨y, hy⟩ : ∃ y, K[n]? = some y := ⟨_, List.getElem?_eq_getElem (by omega)⟩
    have h7 := rise_at hr hy hx hi
    have h8 := (h2 y hy).1
    have h9 : Op.bytesLess m x = true := by
      by_cases he : y = m
      · rw [← he]; exact h7
      · exact bl_trans _ _ _ (bl_total _ _ h8 he) h7
    constructor
    · rintro (h10 | h10)
      · have := bl_trans _ _ _ h9 h10
        rw [bl_irr] at this; cases this
      · rw [h10, bl_irr] at h9; cases h9
    · intro h10
      cases t with
      | true => rw [seek_t h] at h10; omega
      | false => rw [seek_y h] at h10; omega
theorem ge_iff {K : List B} (hr : Rise K) {m : B} {i n : Nat} {t : Bool} {x : B} (h : atD K m = (n, t)) (hx : K[i]? = some x) : scmp .geq x m = true ↔ n ≤ i := by
  obtain ⟨h1, h2, h3, h4⟩ := at_spec m _ _ _ h
  have hil := (List.getElem?_eq_some_iff.1 hx).1
  have hs : scmp .geq x m = true ↔ Op.bytesLess x m = false := by simp [scmp]
  rw [hs]
  rcases Nat.lt_trichotomy i n with hi | hi | hi
  · have h5 := h1 i x hi hx
    exact ⟨fun h6 => (by rw [h5] at h6; cases h6), fun h6 => by omega⟩
  · subst hi
    exact ⟨fun _ => Nat.le_refl _, fun _ => (h2 x hx).1⟩
  · refine ⟨fun _ => by omega, fun _ => ?_⟩
    obtain ⟨y, hy⟩ : ∃ y, K[n]? = some y := ⟨_, List.getElem?_eq_getElem (by omega)⟩
    have h7 := rise_at hr hy hx hi
    have h8 := (h2 y hy).1
    cases h9 : Op.bytesLess x m with
    | false => rfl
    | true =>
      have := bl_trans _ _ _ h7 h9
      rw [h8] at this; cases this
theorem seek_lo {K : List B} {m : B} : -1 ≤ seekD K m true ∧ seekD K m true < K.length := by
  obtain ⟨n, t, h⟩ : ∃ n t, atD K m = (n, t) := ⟨_, _, rfl⟩
  obtain ⟨h1, h2, h3, h4⟩ := at_spec m _ _ _ h
  cases t with
  | true =>
    rw [seek_t h]
    have : n ≠ K.length := fun e => by have := h3 e; cases this
    omega
  | false => rw [seek_y h]; omega
end Go.Proofs.YthncpmablodbjaaDoor

namespace Go.Proofs.YthncpmablodbjaaDoor
open Go Go.SL Go.Proofs
set_option linter.unusedVariables false

def tupAt (v : Value) (j : Nat) : Value := match v with | .tuple a => a.getD j undef | _ => undef
def celAt (v : Value) (j : Nat) : Value := match v with | .agg a => a.getD j undef | _ => undef
/-- what a value says of its key: put, or taken out -/
def putB (v : B) : Bool := match v with | [] => true | x :: _ => x != 255
theorem putB_nil {v : B} (h : v.length = 0) : putB v = true := by rw [List.eq_nil_of_length_eq_zero h]; rfl
theorem putB_at {v : B} {x : UInt8} (h : v[0]? = some x) : putB v = (x != 255) := by
  cases v with
  | nil => cases h
  | cons a r => cases h; rfl
theorem u8_255 {x : UInt8} : (x.toNat : Int) = 255 ↔ x = 255 := by
  constructor
  · intro h
    have : x.toNat = (255 : UInt8).toNat := by have h2 : (255 : UInt8).toNat = 255 := rfl; omega
    exact UInt8.toNat_inj.1 this
  · rintro rfl; rfl
/-- what the loop keeps -/
structure Inv (es fs : List BE) (m : B) (i : Nat) (s : Sn) (L : List PB) : Prop where
  k : kz L = bl s.ks
  v : vz L = bl s.vs
  r : Rise (kz L)
  p : ∀ e f : BE, 0 < i → es[i - 1]? = some e → fs[i - 1]? = some f → e.2 = m → (getO (bl s.ks) (bl s.vs) m).isSome = putB f.2
  n : s.ks.length ≤ i
theorem Inv.rise {es fs : List BE} {m : B} {i : Nat} {s : Sn} {L : List PB} (h : Inv es fs m i s L) : Rise (bl s.ks) := h.k ▸ h.r
theorem Inv.put {es fs : List BE} {m : B} {i : Nat} {s o : Sn} {L : List PB} {e f : BE} (h : Inv es fs m i s L) (he : es[i]? = some e) (hf : fs[i]? = some f) (hk : bl o.ks = putK (bl s.ks) e.2) (hv : bl o.vs = putV (bl s.ks) (bl s.vs) e.2 f.2) (hp : putB f.2 = true) (hn : o.ks.length ≤ i + 1) : Inv es fs m (i + 1) o (putP L e.2 f.2) where
  k := by rw [hk, ← h.k, put_kz]
  v := by rw [hv, ← h.k, ← h.v, put_vz]
  r := rise_put h.r
  p := fun e' f' _ he' hf' hm => by
    rw [Nat.add_sub_cancel, he] at he'
    rw [Nat.add_sub_cancel, hf] at hf'
    cases he'; cases hf'
    rw [hk, hv, ← h.k, ← h.v, put_kz, put_vz, ← hm, get_put_same h.r, hp]; rfl
  n := hn
theorem Inv.drop {es fs : List BE} {m : B} {i : Nat} {s o : Sn} {L : List PB} {e f : BE} (h : Inv es fs m i s L) (he : es[i]? = some e) (hf : fs[i]? = some f) (hk : bl o.ks = dropK (bl s.ks) e.2) (hv : bl o.vs = dropV (bl s.ks) (bl s.vs) e.2) (hp : putB f.2 = false) (hn : o.ks.length ≤ i + 1) : Inv es fs m (i + 1) o (dropP L e.2) where
  k := by rw [hk, ← h.k, drop_kz]
  v := by rw [hv, ← h.k, ← h.v, drop_vz]
  r := rise_drop h.r
  p := fun e' f' _ he' hf' hm => by
    rw [Nat.add_sub_cancel, he] at he'
    rw [Nat.add_sub_cancel, hf] at hf'
    cases he'; cases hf'
    rw [hk, hv, ← h.k, ← h.v, drop_kz, drop_vz, ← hm, get_drop_same h.r, hp]; rfl
  n := hn
theorem Inv.pg {es fs : List BE} {m x y : B} {i : Nat} {s o : Sn} {L : List PB} (h : Inv es fs m i s L) (hk : bl o.ks = putK (bl s.ks) x) (hv : bl o.vs = putV (bl s.ks) (bl s.vs) x y) : getO (bl o.ks) (bl o.vs) x = some y := by
  rw [hk, hv, ← h.k, ← h.v, put_kz, put_vz]; exact get_put_same h.r x y
theorem Inv.po {es fs : List BE} {m x y : B} {i : Nat} {s o : Sn} {L : List PB} (h : Inv es fs m i s L) (hk : bl o.ks = putK (bl s.ks) x) (hv : bl o.vs = putV (bl s.ks) (bl s.vs) x y) (hm : x ≠ m) : getO (bl o.ks) (bl o.vs) m = getO (bl s.ks) (bl s.vs) m := by
  rw [hk, hv, ← h.k, ← h.v, put_kz, put_vz]; exact get_put_other h.r hm
theorem Inv.dg {es fs : List BE} {m x : B} {i : Nat} {s o : Sn} {L : List PB} (h : Inv es fs m i s L) (hk : bl o.ks = dropK (bl s.ks) x) (hv : bl o.vs = dropV (bl s.ks) (bl s.vs) x) : getO (bl o.ks) (bl o.vs) x = none := by
  rw [hk, hv, ← h.k, ← h.v, drop_kz, drop_vz]; exact get_drop_same h.r x
theorem Inv.do {es fs : List BE} {m x : B} {i : Nat} {s o : Sn} {L : List PB} (h : Inv es fs m i s L) (hk : bl o.ks = dropK (bl s.ks) x) (hv : bl o.vs = dropV (bl s.ks) (bl s.vs) x) (hm : x ≠ m) : getO (bl o.ks) (bl o.vs) m = getO (bl s.ks) (bl s.vs) m := by
  rw [hk, hv, ← h.k, ← h.v, drop_kz, drop_vz]; exact get_drop_other h.r hm
theorem put_len {ks : List B} {m : B} : (putK ks m).length ≤ ks.length + 1 := by
  unfold putK
  rw [ins_len gone_len]
  have := wo_len_le (l := ks) (n := goneD ks m)
  omega
theorem drop_len {ks : List B} {m : B} : (dropK ks m).length ≤ ks.length := wo_len_le
theorem ow_rty {N : Nat} {w w' : World} {lo hi : Nat} {s : Sn} (h : s.Ow w lo hi) (hr : RTy 27 N w w') : s.Ow w' lo hi := ⟨nown_rty h.k hr (by decide) (by decide), nown_rty h.v hr (by decide) (by decide), h.len, h.ok, h.ov, h.sm⟩
theorem scmp_ne {a b : B} (h : a = b) : scmp .neq a b = false := by subst h; simp [scmp]
theorem ne_of_neq {a b : B} (h : scmp .neq a b = true) : a ≠ b := fun e => by rw [scmp_ne e] at h; cases h
theorem eq_of_eql {a b : B} (h : scmp .eql a b = true) : a = b := by simpa [scmp] using h
end Go.Proofs.YthncpmablodbjaaDoor
