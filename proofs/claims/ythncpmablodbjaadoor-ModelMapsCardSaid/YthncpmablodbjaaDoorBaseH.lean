import Derived.Test.YthncpmablodbjaaDoorBaseG
import Derived.Laws.Externs
namespace Go.SL
open Go

/-! ### Rows of records that hold slices of bytes -/

/-- how an element lies: its cells, and the slices of bytes among them with what they hold -/
structure Lay (ε : Type) where
  cel : ε → List Value
  sub : ε → List (Value × List UInt8)
  sz : Nat
  len : ∀ e, (cel e).length = sz
  one : ∀ e, (∀ s ∈ sub e, s.1.oneCell' = true) → ∀ u ∈ cel e, u.oneCell' = true

section rows
variable {ε : Type} (L : Lay ε) {w w' : World} {D : Nat → Prop}
/-- a readable slice of bytes within the blocks from lo to hi -/
def BRd (w : World) (lo hi : Nat) (s : Value × List UInt8) : Prop := Rd w 1 s.1 s.2.length (s.2.map byteV) ∧ ∀ b, rbk s.1 = some b → lo ≤ b ∧ b < hi
def BOwn (w : World) (eb : TypeId) (lo hi : Nat) (s : Value × List UInt8) : Prop := Own w lo eb 1 s.1 s.2.length (s.2.map byteV) ∧ ∀ b, obk s.1 = some b → b < hi
/-- a readable row -/
def NRd (w : World) (lo hi : Nat) (v : Value) (es : List ε) : Prop :=
  Rd w L.sz v es.length (es.flatMap L.cel) ∧ (∀ b, rbk v = some b → lo ≤ b ∧ b < hi) ∧ ∀ e ∈ es, ∀ s ∈ L.sub e, BRd w lo hi s
/-- an owned row of owned slices -/
def NOwn (w : World) (er eb : TypeId) (lo hi : Nat) (v : Value) (es : List ε) : Prop :=
  Own w lo er L.sz v es.length (es.flatMap L.cel) ∧ (∀ b, obk v = some b → b < hi) ∧ ∀ e ∈ es, ∀ s ∈ L.sub e, BOwn w eb lo hi s

theorem Own.rbk_obk {B e sz n : Nat} {v : Value} {xs : List Value} (h : Own w B e sz v n xs) {b : Nat} (hb : rbk v = some b) : obk v = some b := by
  obtain ⟨_, a, c, rfl, hn, _⟩ := h
  exact Go.SL.rbk_obk rfl hn hb
theorem BOwn.rd {eb lo hi : Nat} {s : Value × List UInt8} (h : BOwn w eb lo hi s) : BRd w lo hi s :=
  ⟨h.1.rd, fun b hb => ⟨(h.1.lt (h.1.rbk_obk hb)).1, h.2 b (h.1.rbk_obk hb)⟩⟩
theorem BRd.upd {lo hi : Nat} {s : Value × List UInt8} (h : BRd w lo hi s) (hu : Upd D w w') (hd : ∀ b, lo ≤ b → b < hi → ¬ D b) : BRd w' lo hi s :=
  ⟨h.1.upd hu fun b hb => hd b (h.2 b hb).1 (h.2 b hb).2, h.2⟩
theorem BOwn.upd {eb lo hi : Nat} {s : Value × List UInt8} (h : BOwn w eb lo hi s) (hu : Upd D w w') (hd : ∀ b, lo ≤ b → b < hi → ¬ D b) : BOwn w' eb lo hi s :=
  ⟨h.1.upd hu fun b hb => hd b (h.1.lt hb).1 (h.2 b hb), h.2⟩
theorem BRd.mono {lo hi lo' hi' : Nat} {s : Value × List UInt8} (h : BRd w lo hi s) (h1 : lo' ≤ lo) (h2 : hi ≤ hi') : BRd w lo' hi' s :=
  ⟨h.1, fun b hb => ⟨Nat.le_trans h1 (h.2 b hb).1, Nat.lt_of_lt_of_le (h.2 b hb).2 h2⟩⟩
theorem BOwn.mono {eb lo hi lo' hi' : Nat} {s : Value × List UInt8} (h : BOwn w eb lo hi s) (h1 : lo' ≤ lo) (h2 : hi ≤ hi') : BOwn w eb lo' hi' s :=
  ⟨h.1.more h1, fun b hb => Nat.lt_of_lt_of_le (h.2 b hb) h2⟩
variable {L}
theorem NOwn.rd {er eb lo hi : Nat} {v : Value} {es : List ε} (h : NOwn L w er eb lo hi v es) : NRd L w lo hi v es :=
  ⟨h.1.rd, fun b hb => ⟨(h.1.lt (h.1.rbk_obk hb)).1, h.2.1 b (h.1.rbk_obk hb)⟩, fun e he s hs => (h.2.2 e he s hs).rd⟩
theorem NRd.upd {lo hi : Nat} {v : Value} {es : List ε} (h : NRd L w lo hi v es) (hu : Upd D w w') (hd : ∀ b, lo ≤ b → b < hi → ¬ D b) : NRd L w' lo hi v es :=
  ⟨h.1.upd hu fun b hb => hd b (h.2.1 b hb).1 (h.2.1 b hb).2, h.2.1, fun e he s hs => (h.2.2 e he s hs).upd hu hd⟩
theorem NOwn.upd {er eb lo hi : Nat} {v : Value} {es : List ε} (h : NOwn L w er eb lo hi v es) (hu : Upd D w w') (hd : ∀ b, lo ≤ b → b < hi → ¬ D b) : NOwn L w' er eb lo hi v es :=
  ⟨h.1.upd hu fun b hb => hd b (h.1.lt hb).1 (h.2.1 b hb), h.2.1, fun e he s hs => (h.2.2 e he s hs).upd hu hd⟩
theorem NRd.ext {lo hi : Nat} {v : Value} {es : List ε} (h : NRd L w lo hi v es) (hu : Ext w w') : NRd L w' lo hi v es := h.upd hu fun _ _ _ hx => hx
theorem NOwn.ext {er eb lo hi : Nat} {v : Value} {es : List ε} (h : NOwn L w er eb lo hi v es) (hu : Ext w w') : NOwn L w' er eb lo hi v es := h.upd hu fun _ _ _ hx => hx
theorem NRd.mono {lo hi lo' hi' : Nat} {v : Value} {es : List ε} (h : NRd L w lo hi v es) (h1 : lo' ≤ lo) (h2 : hi ≤ hi') : NRd L w lo' hi' v es :=
  ⟨h.1, fun b hb => ⟨Nat.le_trans h1 (h.2.1 b hb).1, Nat.lt_of_lt_of_le (h.2.1 b hb).2 h2⟩, fun e he s hs => (h.2.2 e he s hs).mono h1 h2⟩
theorem NOwn.mono {er eb lo hi lo' hi' : Nat} {v : Value} {es : List ε} (h : NOwn L w er eb lo hi v es) (h1 : lo' ≤ lo) (h2 : hi ≤ hi') : NOwn L w er eb lo' hi' v es :=
  ⟨h.1.more h1, fun b hb => Nat.lt_of_lt_of_le (h.2.1 b hb) h2, fun e he s hs => (h.2.2 e he s hs).mono h1 h2⟩
theorem NRd.sv {lo hi : Nat} {v : Value} {es : List ε} (h : NRd L w lo hi v es) : SV v es.length := h.1.sv
theorem flat_len (es : List ε) : (es.flatMap L.cel).length = es.length * L.sz := by
  induction es with
  | nil => simp
  | cons e r ih => rw [List.flatMap_cons, List.length_append, L.len, ih, List.length_cons, Nat.succ_mul, Nat.add_comm]
theorem flat_at {es : List ε} {i j : Nat} {e : ε} {u : Value} (hi : es[i]? = some e) (hj : (L.cel e)[j]? = some u) : (es.flatMap L.cel)[i * L.sz + j]? = some u := by
  induction es generalizing i with
  | nil => simp at hi
  | cons a r ih =>
    have hjl : j < L.sz := by rw [← L.len e]; exact (List.getElem?_eq_some_iff.1 hj).1
    rw [List.flatMap_cons]
    cases i with
    | zero =>
      simp only [List.getElem?_cons_zero, Option.some.injEq] at hi
      subst hi
      rw [Nat.zero_mul, Nat.zero_add, List.getElem?_append_left (by rw [L.len]; exact hjl)]
      exact hj
    | succ i =>
      rw [List.getElem?_append_right (by rw [L.len, Nat.succ_mul]; omega), L.len, Nat.succ_mul]
      rw [show i * L.sz + L.sz + j - L.sz = i * L.sz + j by omega]
      exact ih (by simpa using hi)
/-- a cell of an element -/
theorem NRd.cell {lo hi : Nat} {v : Value} {es : List ε} (h : NRd L w lo hi v es) {i j : Nat} {e : ε} {u : Value} (hi' : es[i]? = some e) (hj : (L.cel e)[j]? = some u) : At w (pof v (i * L.sz + j)) [u] :=
  h.1.cell (flat_at hi' hj)
/-- some of an element's cells, one behind the other -/
theorem NRd.cells {lo hi : Nat} {v : Value} {es : List ε} (h : NRd L w lo hi v es) {i j : Nat} {e : ε} {us : List Value} (hi' : es[i]? = some e) (hj : ∀ k u, us[k]? = some u → (L.cel e)[j + k]? = some u) : At w (pof v (i * L.sz + j)) us :=
  h.1.at_ (by have := (List.getElem?_eq_some_iff.1 hi').1; omega) _ us fun k u hk => by rw [Nat.add_assoc]; exact flat_at hi' (hj k u hk)
theorem NRd.sub_ {lo hi : Nat} {v : Value} {es : List ε} (h : NRd L w lo hi v es) {i : Nat} {e : ε} (hi' : es[i]? = some e) {s : Value × List UInt8} (hs : s ∈ L.sub e) : BRd w lo hi s := h.2.2 e (List.mem_of_getElem? hi') s hs
theorem NRd.nil (w : World) (lo hi : Nat) : NRd L w lo hi (.slice none 0 0) [] :=
  ⟨by have := Rd.nil w L.sz; exact this, fun b hb => by simp [rbk] at hb, fun e he => by cases he⟩
theorem NOwn.nil (w : World) (er eb lo hi : Nat) : NOwn L w er eb lo hi (.slice none 0 0) [] :=
  ⟨Own.nil w lo er L.sz, fun b hb => by simp [obk] at hb, fun e he => by cases he⟩
theorem BOwn.nil (w : World) (eb lo hi : Nat) : BOwn w eb lo hi (.slice none 0 0, []) := ⟨Own.nil w lo eb 1, fun b hb => by simp [obk] at hb⟩
theorem BRd.nil (w : World) (lo hi : Nat) : BRd w lo hi (.slice none 0 0, []) := ⟨Rd.nil w 1, fun b hb => by simp [rbk] at hb⟩
/-- a part of a row -/
theorem NRd.cut {lo hi l h : Nat} {v : Value} {es : List ε} (hr : NRd L w lo hi v es) (h1 : l ≤ h) (h2 : h ≤ es.length) : NRd L w lo hi (cutv v L.sz l h) ((es.drop l).take (h - l)) := by
  have hl : ((es.drop l).take (h - l)).length = h - l := by rw [List.length_take, List.length_drop]; omega
  have hx : (((es.drop l).take (h - l)).flatMap L.cel) = ((es.flatMap L.cel).drop (l * L.sz)).take ((h - l) * L.sz) := by
    have e1 : ∀ (es : List ε) (k : Nat), k ≤ es.length → (es.drop k).flatMap L.cel = (es.flatMap L.cel).drop (k * L.sz) := by
      intro es k hk
      have : es.flatMap L.cel = (es.take k).flatMap L.cel ++ (es.drop k).flatMap L.cel := by rw [← List.flatMap_append, List.take_append_drop]
      rw [this, List.drop_left' (by rw [flat_len, List.length_take, Nat.min_eq_left hk])]
    have e2 : ∀ (es : List ε) (k : Nat), k ≤ es.length → (es.take k).flatMap L.cel = (es.flatMap L.cel).take (k * L.sz) := by
      intro es k hk
      have : es.flatMap L.cel = (es.take k).flatMap L.cel ++ (es.drop k).flatMap L.cel := by rw [← List.flatMap_append, List.take_append_drop]
      rw [this, List.take_left' (by rw [flat_len, List.length_take, Nat.min_eq_left hk])]
    rw [e2 _ _ (by rw [List.length_drop]; omega), e1 _ _ (by omega)]
  refine ⟨(hr.1.cut h1 h2).eq hl.symm hx.symm, fun b hb => hr.2.1 b (hr.1.rbk_cut h2 hb), fun e he s hs => hr.2.2 e ?_ s hs⟩
  exact List.mem_of_mem_drop (List.mem_of_mem_take he)
theorem NRd.sub_one {lo hi : Nat} {v : Value} {es : List ε} (h : NRd L w lo hi v es) : ∀ u ∈ es.flatMap L.cel, u.oneCell' = true := by
  intro u hu
  obtain ⟨e, he, hue⟩ := List.mem_flatMap.1 hu
  exact L.one e (fun s hs => (h.2.2 e he s hs).1.sv.one) u hue
end rows

/-! ### Comparing bytes -/
theorem loadBytes_run {P : Program} {w : World} : ∀ (l : List UInt8) (b o : Nat) (acc : ByteArray), (∀ j x, l[j]? = some x → w.cell? ⟨b, o + j, none⟩ = some (byteV x)) →
    (Extern.Bytes.loadBytes ⟨b, o, none⟩ l.length acc).run P w = .ok ⟨acc.data ++ l.toArray⟩ w
  | [], b, o, acc, _ => by simp [Extern.Bytes.loadBytes]
  | x :: l, b, o, acc, h => by
    have h0 := h 0 x rfl
    rw [Nat.add_zero] at h0
    have hl : (load ⟨b, o, none⟩).run P w = .ok (byteV x) w := by simp [load, Sem.run, h0]
    have ih := loadBytes_run (P := P) l b (o + 1) (acc.push x) fun j y hj => by rw [Nat.add_right_comm]; exact h (j + 1) y (by simpa using hj)
    simp only [Extern.Bytes.loadBytes, List.length_cons, Sem.run_bind, hl, Result.andThen_ok, byteV]
    rw [addr_add]
    have e : (x.toNat : Int).toNat.toUInt8 = x := by simp
    rw [e, ih]
    simp [ByteArray.push]
theorem bytesOf_run {P : Program} {w : World} {v : Value} {l : List UInt8} (h : Rd w 1 v l.length (l.map byteV)) : (Extern.Bytes.bytesOf v).run P w = .ok ⟨l.toArray⟩ w := by
  obtain ⟨_, a, c, rfl, _, _, h3⟩ := h
  cases l with
  | nil =>
    cases a with
    | none => rfl
    | some a => rfl
  | cons x l =>
    obtain ⟨b, o, rfl, h4⟩ := h3 (by simp)
    have := loadBytes_run (P := P) (w := w) (x :: l) b o .empty fun j y hj => h4 j _ (by rw [List.getElem?_map, hj]; rfl)
    simpa [Extern.Bytes.bytesOf] using this
def cmpB (a b : List UInt8) : Int := Extern.BytealgCompare.cmp ⟨a.toArray⟩ ⟨b.toArray⟩
theorem compare_run {P : Program} {w : World} {v u : Value} {l m : List UInt8} (h : Rd w 1 v l.length (l.map byteV)) (h' : Rd w 1 u m.length (m.map byteV)) : (Extern.BytealgCompare.compare #[v, u]).run P w = .ok (.int .i64 (cmpB l m)) w := by
  change Sem.run P (do pure (goInt (Extern.BytealgCompare.cmp (← Extern.Bytes.bytesOf v) (← Extern.Bytes.bytesOf u)))) w = _
  simp [bytesOf_run h, bytesOf_run h', cmpB, goInt]
theorem ba_get (l : List UInt8) (i : Nat) : (⟨l.toArray⟩ : ByteArray)[i]! = l.getD i 0 := by
  rw [List.getD_eq_getElem?_getD]
  by_cases h : i < l.length
  · rw [getElem!_pos (⟨l.toArray⟩ : ByteArray) i (by simpa [ByteArray.size] using h), List.getElem?_eq_getElem h]
    rfl
  · rw [getElem!_neg (⟨l.toArray⟩ : ByteArray) i (by simpa [ByteArray.size] using h), List.getElem?_eq_none (by omega)]
    rfl
def cmpW (a b : List UInt8) : Int :=
  match (List.range (min a.length b.length)).find? fun i => a.getD i 0 != b.getD i 0 with
  | some i => if a.getD i 0 < b.getD i 0 then -1 else 1
  | none => if a.length < b.length then -1 else if a.length > b.length then 1 else 0
theorem cmpB_eq (a b : List UInt8) : cmpB a b = cmpW a b := by
  unfold cmpB cmpW Extern.BytealgCompare.cmp
  simp only [ba_get, ByteArray.size, List.size_toArray]
  rfl
theorem cmpW_cons (x y : UInt8) (a b : List UInt8) : cmpW (x :: a) (y :: b) = if x = y then cmpW a b else if x < y then -1 else 1 := by
  have hr : List.range (min (x :: a).length (y :: b).length) = 0 :: (List.range (min a.length b.length)).map (· + 1) := by
    rw [List.length_cons, List.length_cons, Nat.succ_min_succ, List.range_succ_eq_map]
  unfold cmpW
  rw [hr, List.find?_cons]
  by_cases h : x = y
  · subst h
    rw [if_pos rfl]
    simp only [List.getD_cons_zero, bne_self_eq_false, List.find?_map]
    have e : ((fun i => (x :: a).getD i 0 != (x :: b).getD i 0) ∘ fun x => x + 1) = fun i => a.getD i 0 != b.getD i 0 := by funext i; simp
    rw [e]
    cases (List.range (min a.length b.length)).find? fun i => a.getD i 0 != b.getD i 0 with
    | none => simp
    | some i => simp
  · rw [if_neg h]
    have : ((x :: a).getD 0 0 != (y :: b).getD 0 0) = true := by simpa using h
    rw [this]
    simp
theorem le_cmp : ∀ (a b : List UInt8), decide (cmpB a b ≤ 0) = (Op.bytesLess a b || a == b)
  | [], [] => rfl
  | [], y :: b => by rw [cmpB_eq]; simp [cmpW, Op.bytesLess]
  | x :: a, [] => by rw [cmpB_eq]; simp [cmpW, Op.bytesLess]
  | x :: a, y :: b => by
    have ih := le_cmp a b
    rw [cmpB_eq] at ih ⊢
    rw [cmpW_cons]
    simp only [Op.bytesLess]
    by_cases h : x = y
    · subst h
      rw [if_pos rfl, ih]
      simp [UInt8.lt_irrefl]
    · rw [if_neg h]
      by_cases h2 : x < y
      · simp [h2]
      · simp [h2, h]
end Go.SL
