/-
  Own base X: strings put together, slices with three bounds, rows of byte slices.
-/
import Derived.Test.YthncpmablodbjaaDoorBaseW
namespace Go.SL
open Go
section more
variable {ρ : Option Nat} {P : Program} {ty : TypeId} {f : Fr} {w : World} {K : Value → World → Prop}
theorem ba_append (a b : List UInt8) : (⟨a.toArray⟩ : ByteArray) ++ ⟨b.toArray⟩ = ⟨(a ++ b).toArray⟩ := by
  apply ByteArray.ext
  simp
theorem X_sadd {t t2 : TypeId} {x y : Operand} {a b : List UInt8} (hx : ev f x = strV a) (hy : ev f y = strV b) (hl : a.length + b.length ≤ 9223372036854775807) (h : K (strV (a ++ b)) w) :
    Exec ρ P (.binOp .add t x y t2) ty f w K :=
  X_sv (do eqGuard .add t x y (ev f x) (ev f y); binOp .add t (ev f x) (ev f y)) (fun _ => by simp) (fun o ho _ => by unfold execOp; rw [ho]) (by
    rw [hx, hy]
    have h1 : ¬ (((⟨a.toArray⟩ : ByteArray).size + (⟨b.toArray⟩ : ByteArray).size : Nat) : Int) > IntKind.i64.max := by
      show ¬ ((a.length + b.length : Nat) : Int) > IntKind.i64.max
      have h2 : IntKind.i64.max = 9223372036854775807 := by decide
      rw [h2]
      omega
    have h2 : (Op.stringOp .add (⟨a.toArray⟩ : ByteArray) ⟨b.toArray⟩) = (pure (.string ⟨(a ++ b).toArray⟩) : Sem Value) := by
      unfold Op.stringOp
      simp only [if_neg h1, ba_append]
    simp [eqGuard, binOp, strV, h2]) h
/-- 's[l:h:m]' -/
theorem X_slice3L {t e sz bytes n l h' m : Nat} {z v : Value} {x ol oh om : Operand} {kl kh km : IntKind} (hS : TyS P t e sz bytes z) (hx : ev f x = v) (hv : SV v n) (hlo : ev f ol = .int kl l) (hh : ev f oh = .int kh h') (hm : ev f om = .int km m) (h0 : l ≤ h') (h1 : h' ≤ m) (h2 : m ≤ n) (h : K (cut3v v sz l h' m) w) :
    Exec ρ P (.slice t x (some ol) (some oh) (some om)) ty f w K := by
  obtain ⟨a, c, rfl, hnc, hcm, _⟩ := hv
  obtain ⟨ie, he, hz, _⟩ := hS.info
  have hb2 : ∀ k cd, (Instr.sliceBound (.int k m) c cd).run P w = .ok m w := fun k cd => by
    have : m ≤ c := by omega
    simp [Instr.sliceBound, asIntOf, this]
  have hb1 : ∀ k cd, (Instr.sliceBound (.int k h') m cd).run P w = .ok h' w := fun k cd => by simp [Instr.sliceBound, asIntOf, h1]
  have hb0 : ∀ k cd, (Instr.sliceBound (.int k l) h' cd).run P w = .ok l w := fun k cd => by simp [Instr.sliceBound, asIntOf, h0]
  refine X_sv (Instr.sliceAt t (ev f x) (some (ev f ol)) (some (ev f oh)) (some (ev f om))) (fun _ => by simp) (fun o ho _ => by unfold execOp; rw [ho]; rfl) ?_ h
  rw [hx, hh, hm, hlo]
  have hsz : (sizeOf e).run P w = .ok sz w := by simp [sizeOf, typeInfo, he, hz]
  simp [Instr.sliceAt, Instr.slice, run_underlying hS.und, Instr.sliceBounds, hsz, cut3v, hb0, hb1, hb2]
theorem Rd.cut3 {w : World} {sz n l h m : Nat} {v : Value} {xs : List Value} (hr : Rd w sz v n xs) (h1 : l ≤ h) (h2 : h ≤ m) (h4 : m ≤ n) : Rd w sz (cut3v v sz l h m) (h - l) ((xs.drop (l * sz)).take ((h - l) * sz)) := by
  obtain ⟨hl, a, c, rfl, hnc, hcm, h3⟩ := hr
  have hlen : ((xs.drop (l * sz)).take ((h - l) * sz)).length = (h - l) * sz := by
    have h4 : h * sz ≤ n * sz := Nat.mul_le_mul_right _ (by omega)
    rw [List.length_take, List.length_drop, hl, Nat.sub_mul]
    omega
  refine ⟨hlen, _, _, rfl, by omega, by omega, fun hn => ?_⟩
  have hne : ¬ m = l := by omega
  rw [if_neg hne]
  obtain ⟨b, o, rfl, h4⟩ := h3 (by omega)
  refine ⟨b, o + l * sz, by simp [addr_add], fun j u hj => ?_⟩
  rw [Nat.add_assoc]
  refine h4 _ _ ?_
  rw [List.getElem?_take] at hj
  split at hj
  · rw [List.getElem?_drop] at hj; exact hj
  · cases hj
theorem Rd.cut3B {w : World} {l h m : Nat} {v : Value} {xs ys : List UInt8} (hr : Rd w 1 v xs.length (xs.map byteV)) (h1 : l ≤ h) (h2 : h ≤ m) (h4 : m ≤ xs.length) (hy : (xs.drop l).take (h - l) = ys) : Rd w 1 (cut3v v 1 l h m) ys.length (ys.map byteV) := by
  refine (hr.cut3 h1 h2 h4).eq ?_ ?_
  · rw [← hy, List.length_take, List.length_drop]; omega
  · rw [← hy, List.map_take, List.map_drop, Nat.mul_one, Nat.mul_one]
end more
/-- a byte slice and what it holds -/
abbrev BE := Value × List UInt8
/-- the layout of rows of byte slices -/
def LB : Lay BE where
  cel e := [e.1]
  sub e := [e]
  sz := 1
  len _ := rfl
  one e h u hu := by
    have h1 : u = e.1 := by simpa using hu
    subst h1
    exact h e (by simp)
def DistB (es : List BE) : Prop := es.Pairwise fun a b => ∀ k, obk a.1 = some k → obk b.1 ≠ some k
theorem DistB.push {es : List BE} {e : BE} {m : Nat} (h : DistB es) (h1 : ∀ a ∈ es, ∀ k, obk a.1 = some k → k < m) (h2 : ∀ k, obk e.1 = some k → m ≤ k) : DistB (es ++ [e]) := by
  refine List.pairwise_append.2 ⟨h, List.pairwise_singleton _ _, fun a ha b hb k hk hk' => ?_⟩
  have : b = e := by simpa using hb
  subst this
  have := h1 a ha k hk
  have := h2 k hk'
  omega
theorem DistB.at {es : List BE} (h : DistB es) {i j : Nat} {a b : BE} (hi : es[i]? = some a) (hj : es[j]? = some b) (hij : i < j) : ∀ k, obk a.1 = some k → obk b.1 ≠ some k := by
  have h1 := (List.getElem?_eq_some_iff.1 hi).1
  have h2 := (List.getElem?_eq_some_iff.1 hj).1
  have h3 := List.pairwise_iff_getElem.1 h i j h1 h2 hij
  rw [List.getElem?_eq_getElem h1] at hi
  rw [List.getElem?_eq_getElem h2] at hj
  cases hi
  cases hj
  exact h3
theorem LB_flat (es : List BE) : es.flatMap LB.cel = es.map (·.1) := by
  induction es with
  | nil => rfl
  | cons a r ih => rw [List.flatMap_cons, ih]; rfl
end Go.SL
