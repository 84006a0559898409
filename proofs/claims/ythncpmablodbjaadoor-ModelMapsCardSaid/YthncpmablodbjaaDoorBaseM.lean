import Derived.Test.YthncpmablodbjaaDoorBaseL
namespace Go.SL
open Go
section keep
variable {ε : Type} {L : Lay ε} {w w' : World}
theorem NOwn.sub_keep {er eb lo up : Nat} {v : Value} {es : List ε} {e : ε} {s : Value × List UInt8} (h : NOwn L w er eb lo up v es) (hne : er ≠ eb) (he : e ∈ es) (hs : s ∈ L.sub e) (hu : Upd (fun i => obk v = some i) w w') : BOwn w' eb lo up s :=
  have hb := h.2.2 e he s hs
  ⟨hb.1.upd hu fun _ h1 h2 => hne (h.1.types hb.1 h2 h1), hb.2⟩
theorem NOwn.append {er eb lo up lo2 up2 : Nat} {v u v5 : Value} {es fs : List ε} (hne : er ≠ eb) (h : NOwn L w er eb lo up v es) (h2 : NOwn L w er eb lo2 up2 u fs) (hlo : lo ≤ lo2) (hO : Own w' lo er L.sz v5 (es.length + fs.length) (es.flatMap L.cel ++ fs.flatMap L.cel)) (hu : Upd (fun b => obk v = some b) w w')
    (hh : up ≤ w'.heap.size) (hh' : up2 ≤ w'.heap.size) : NOwn L w' er eb lo w'.heap.size v5 (es ++ fs) := by
  refine ⟨hO.eq List.length_append.symm List.flatMap_append.symm, fun b hb => (hO.lt hb).2, fun e' he s hs => ?_⟩
  rcases List.mem_append.1 he with he | he
  · have hb := h.2.2 e' he s hs
    exact ⟨hb.1.upd hu fun b h1 h2 => hne (h.1.types hb.1 h2 h1), fun b hb' => Nat.lt_of_lt_of_le (hb.2 b hb') hh⟩
  · have hb := h2.2.2 e' he s hs
    exact ⟨(hb.1.upd hu fun b h1 h2 => hne (h.1.types hb.1 h2 h1)).more hlo, fun b hb' => Nat.lt_of_lt_of_le (hb.2 b hb') hh'⟩
end keep
/-! #### kids as data -/
abbrev KD := List UInt8 × Pt
def bareK : List KD → List KD
  | [] => []
  | x :: r => ([], x.2) :: r
def nameK (m : List UInt8) : List KD → List KD
  | [] => []
  | x :: r => (m, x.2) :: r
def headK : List KD → List UInt8
  | [] => []
  | x :: _ => x.1
theorem map_drop_cons {es : List KE} {n : Nat} {e : KE} (he : es[n]? = some e) : (es.map (·.2)).drop n = e.2 :: (es.map (·.2)).drop (n + 1) := by
  have hn := (List.getElem?_eq_some_iff.1 he).1
  rw [List.getElem?_eq_getElem hn] at he
  cases he
  rw [List.drop_eq_getElem_cons (by rw [List.length_map]; exact hn), List.getElem_map]
theorem set_take {es : List KE} {n : Nat} (x : KE) : ((es.set n x).take n).map (·.2) = (es.map (·.2)).take n := by
  rw [List.take_set_of_le (Nat.le_refl _), List.map_take]
theorem set_drop {es : List KE} {n : Nat} {e : KE} (he : es[n]? = some e) (kv : Value) (m : List UInt8) : ((es.set n (kv, m, e.2.2)).drop n).map (·.2) = nameK m ((es.map (·.2)).drop n) := by
  have hn := (List.getElem?_eq_some_iff.1 he).1
  rw [map_drop_cons he, List.drop_eq_getElem_cons (by rw [List.length_set]; exact hn), List.map_cons, List.getElem_set_self, List.drop_set_of_lt (Nat.lt_succ_self _), List.map_drop]
  rfl
theorem bare_name (l : List KD) : nameK [] l = bareK l := by cases l <;> rfl
end Go.SL
