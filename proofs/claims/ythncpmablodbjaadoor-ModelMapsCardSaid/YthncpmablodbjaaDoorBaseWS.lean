/-
  Own base WS: a region that draws its order, whose prefix may turn blocks that are known (printed by wip/tools/mkWS.py out of bases A and W).
-/
import Derived.Test.YthncpmablodbjaaDoorBaseW
namespace Go.SL
open Go
/-- an entry looks at what stands ahead of it alone, and what it says abides growth and the turning of D -/
def Ent.okS (e : Ent) (pre : List Nat) (D : Nat → Prop) : Prop :=
  (∀ val val' : Nat → Value, (∀ j, memb pre j = true → val j = val' j) → match e with | .det v => v val = v val' | .abs p => p val = p val' | .no => True) ∧
  (∀ val x W W', Upd D W W' → match e with | .abs p => p val x W → p val x W' | _ => True)
/-- what may have been turned before operation i runs; what may be turned behind it; all -/
def DBef (pre : List (List Nat)) (m : Nat) (S : Nat → Nat → Prop) (i b : Nat) : Prop := ∃ j, j < m ∧ j ≠ i ∧ memb (pre.getD j []) i = false ∧ S j b
def DAft (pre : List (List Nat)) (m : Nat) (S : Nat → Nat → Prop) (i b : Nat) : Prop := ∃ j, j < m ∧ j ≠ i ∧ memb (pre.getD i []) j = false ∧ S j b
def DAll (m : Nat) (S : Nat → Nat → Prop) (b : Nat) : Prop := ∃ j, j < m ∧ S j b
def DNow (m : Nat) (S : Nat → Nat → Prop) (listed : Array Bool) (b : Nat) : Prop := ∃ j, j < m ∧ Lst listed j ∧ S j b
section draw
variable (ρ : Option Nat) (P : Program) (l : List Oper) (pre : List (List Nat)) (bd : Nat → List Nat) (f0 : Fr) (w0 : World) (m : Nat) (S : Nat → Nat → Prop)
def hopS (D : Nat → Prop) (o : Oper) (e : Ent) (f : Fr) (val : Nat → Value) (W : World) : Prop :=
  match e with
  | .no => GuardNo l o.guard f
  | .det v => GuardYes l o.guard f ∧ Exec ρ P o.op o.type f W fun x W' => Upd D W W' ∧ x = v val
  | .abs p => GuardYes l o.guard f ∧ Exec ρ P o.op o.type f W fun x W' => Upd D W W' ∧ p val x W'
/-- the operations of the prefix, one after the other, in the order of the text: each is met in whatever world has grown out of the first one, on a frame of which it sees its predecessors' slots and what stood ahead of the region -/
def DSeqS (K : Env → Prop) : Nat → List Oper → Env → Prop
  | _, [], Γ => K Γ
  | k, o :: rest, Γ => ∃ e : Ent, e.okS (pre.getD k []) (DAft pre m S k) ∧
      (∀ val h W, Upd (DBef pre m S k) w0 W → envH (pre.getD k []) val W Γ → hopS ρ P l (S k) o e ⟨envF (pre.getD k []) val Γ, blur (bd k) h f0⟩ val W) ∧
      DSeqS K (k + 1) rest ((k, o.dst, e) :: Γ)
end draw

section drawproof
variable {ρ : Option Nat} {P : Program} {l : List Oper} {pre : List (List Nat)} {bd : Nat → List Nat} {f0 : Fr} {w0 : World} {m : Nat} {S : Nat → Nat → Prop}
theorem dseqS_out {K : Env → Prop} : ∀ (rest : List Oper) (k : Nat) (E0 : Nat → Ent), (∀ i, i < rest.length → l[k + i]? = rest[i]?) → DSeqS ρ P l pre bd f0 w0 m S K k rest (mkEnv (dstAt l) E0 k) →
    ∃ E : Nat → Ent, (∀ i, i < k → E i = E0 i) ∧
      (∀ i o, k ≤ i → i < k + rest.length → l[i]? = some o → (E i).okS (pre.getD i []) (DAft pre m S i) ∧
        ∀ val h W, Upd (DBef pre m S i) w0 W → envH (pre.getD i []) val W (mkEnv (dstAt l) E i) → hopS ρ P l (S i) o (E i) ⟨envF (pre.getD i []) val (mkEnv (dstAt l) E i), blur (bd i) h f0⟩ val W) ∧
      K (mkEnv (dstAt l) E (k + rest.length)) := by
  intro rest
  induction rest with
  | nil => exact fun k E0 _ h => ⟨E0, fun _ _ => rfl, fun i o h1 h2 _ => by simp at h2; omega, h⟩
  | cons o rest ih =>
    intro k E0 hl h
    obtain ⟨e, hok, hhop, hrest⟩ := h
    obtain ⟨E1, hE1⟩ : ∃ E1 : Nat → Ent, E1 = fun i => if i = k then e else E0 i := ⟨_, rfl⟩
    have hk : E1 k = e := by rw [hE1]; simp
    have hlt : ∀ i, i < k → E1 i = E0 i := fun i hi => by rw [hE1]; simp; omega
    have h0 : l[k]? = some o := by have := hl 0 (by simp); simpa using this
    have henv : mkEnv (dstAt l) E1 (k + 1) = (k, o.dst, e) :: mkEnv (dstAt l) E0 k := by
      show (k, dstAt l k, E1 k) :: mkEnv (dstAt l) E1 k = _
      rw [hk, mkEnv_congr k hlt]
      have : dstAt l k = o.dst := by simp [dstAt, h0]
      rw [this]
    rw [← henv] at hrest
    obtain ⟨E, ha, hb, hc⟩ := ih (k + 1) E1 (fun i hi => by have := hl (i + 1) (by simp; omega); simpa [Nat.add_assoc, Nat.add_comm 1 i] using this) hrest
    have hEk : E k = e := (ha k (by omega)).trans hk
    have hElt : ∀ i, i < k → E i = E0 i := fun i hi => (ha i (by omega)).trans (hlt i hi)
    refine ⟨E, hElt, ?_, ?_⟩
    · intro i o' h1 h2 ho'
      by_cases hik : i = k
      · subst hik
        rw [h0] at ho'
        cases ho'
        rw [hEk, mkEnv_congr i hElt]
        exact ⟨hok, hhop⟩
      · exact hb i o' (by omega) (by simp at h2; omega) ho'
    · rw [show k + (o :: rest).length = k + 1 + rest.length by simp; omega]
      exact hc

end drawproof

section drawlast
variable {ρ : Option Nat} {P : Program} {N : Nat} {Q : Post} {ds : List Deferred} {l : List Oper} {pre : List (List Nat)} {bd : Nat → List Nat} {m : Nat} {S : Nat → Nat → Prop} {f0 : Fr} {w0 : World} {E : Nat → Ent}

def DInvS (ρ : Option Nat) (P : Program) (N : Nat) (Q : Post) (ds : List Deferred) (l : List Oper) (m : Nat) (S : Nat → Nat → Prop) (f0 : Fr) (w0 : World) (E : Nat → Ent) (listed : Array Bool) (a : Act) (W : World) : Prop :=
  Done l listed ∧
    ((Upd (DNow m S listed) w0 W ∧ ∃ f val, Ag N ds f a ∧ Phase l m E f0 listed f val W) ∨
     (∃ p, m ≤ p ∧ p ≤ l.length ∧ (∀ j, Lst listed j ↔ j < p) ∧ wpListIn (FR ρ) 0 P l.toArray (lift N Q) (l.drop p) a W))

theorem Phase.tailS {listed : Array Bool} {f : Fr} {val : Nat → Value} {W : World} {a : Act} (hc : RegOk N l pre m) (hp : Phase l m E f0 listed f val W) (ha : Ag N ds f a) (hw : Upd (DNow m S listed) w0 W)
    (hK : ∀ val W, Upd (DAll m S) w0 W → envH (List.range m) val W (mkEnv (dstAt l) E m) → L ρ P N l.toArray Q (l.drop m) ds ⟨envF (List.range m) val (mkEnv (dstAt l) E m) ++ f0.l, f0.b⟩ W)
    (hall : ∀ j, j < m → Lst listed j) : wpListIn (FR ρ) 0 P l.toArray (lift N Q) (l.drop m) a W := by
  refine hK val W (hw.mono fun _ _ ⟨j, h1, _, h2⟩ => ⟨j, h1, h2⟩) (envH_of m fun i hi _ => hp.know i hi (hall i hi)) a (ha.same fun s => ?_)
  show look (envF (List.range m) val (mkEnv (dstAt l) E m) ++ f0.l) f0.b s = f.get s
  rw [look_append]
  by_cases hx : ∃ j, j < m ∧ dstAt l j = some s
  · obtain ⟨j, hj, hd⟩ := hx
    rw [envF_hit m hj (memb_iff.2 (List.mem_range.2 hj)) hd fun i hi h => dst_uniq hc hi hj h hd]
    exact (hp.slot j s hj (hall j hj) hd).symm
  · rw [envF_miss m fun i hi _ h => hx ⟨i, hi, h⟩]
    exact (hp.rest s fun j hj _ h => hx ⟨j, hj, h⟩).symm

theorem DInvS.end_ {listed : Array Bool} {a : Act} {W : World} (hc : RegOk N l pre m) (hi : DInvS ρ P N Q ds l m S f0 w0 E listed a W)
    (hK : ∀ val W, Upd (DAll m S) w0 W → envH (List.range m) val W (mkEnv (dstAt l) E m) → L ρ P N l.toArray Q (l.drop m) ds ⟨envF (List.range m) val (mkEnv (dstAt l) E m) ++ f0.l, f0.b⟩ W)
    (hr : Region.ready .any l.toArray listed = []) : lift N Q .normal a W := by
  obtain ⟨hd, h | ⟨p, hm, hp, hl, h⟩⟩ := hi
  · obtain ⟨hw, f, val, ha, hph⟩ := h
    have hall := hd.all hc hr
    have hml : m = l.length := by
      rcases Nat.lt_or_ge m l.length with h' | h'
      · exact absurd (hall m h') (hph.none m (Nat.le_refl _))
      · have := hc.le; omega
    have h1 := hph.tailS hc ha hw hK fun j hj => hall j (by omega)
    rw [hml, List.drop_length] at h1
    exact h1
  · have hall := hd.all hc hr
    have hpl : p = l.length := by
      rcases Nat.lt_or_ge p l.length with h' | h'
      · have := (hl p).1 (hall p h'); omega
      · omega
    rw [hpl, List.drop_length] at h
    exact h

theorem DInvS.step {listed : Array Bool} {a : Act} {W : World} {i : Nat} (hbd : ∀ i j d, j < m → dstAt l j = some d → memb (pre.getD j []) i = false → memb (bd i) d = true) (hc : RegOk N l pre m) (hi : DInvS ρ P N Q ds l m S f0 w0 E listed a W)
    (hE : ∀ i o, i < m → l[i]? = some o → (E i).okS (pre.getD i []) (DAft pre m S i) ∧
      ∀ val h W, Upd (DBef pre m S i) w0 W → envH (pre.getD i []) val W (mkEnv (dstAt l) E i) → hopS ρ P l (S i) o (E i) ⟨envF (pre.getD i []) val (mkEnv (dstAt l) E i), blur (bd i) h f0⟩ val W)
    (hK : ∀ val W, Upd (DAll m S) w0 W → envH (List.range m) val W (mkEnv (dstAt l) E m) → L ρ P N l.toArray Q (l.drop m) ds ⟨envF (List.range m) val (mkEnv (dstAt l) E m) ++ f0.l, f0.b⟩ W)
    (hr : i ∈ Region.ready .any l.toArray listed) :
    wpOpIn (FR ρ) 0 P l.toArray (lift N Q) i (DInvS ρ P N Q ds l m S f0 w0 E (listed.setIfInBounds i true)) a W := by
  obtain ⟨hd, hcase⟩ := hi
  obtain ⟨hil, hun, hedge⟩ := (ready_iff hd.size).1 hr
  have his : i < listed.size := by rw [hd.size]; exact hil
  have hset := hd.set hr
  have ho : l[i]? = some l[i] := List.getElem?_eq_getElem hil
  have hopre : ∀ j ∈ pre.getD i [], Lst listed j := hd.preds hc i _ ho (hedge _ ho)
  generalize l[i] = o at ho
  have hops : (l.toArray)[i]? = some o := by simpa using ho
  -- the tail
  have tailstep : wpListIn (FR ρ) 0 P l.toArray (lift N Q) (l.drop i) a W → (∀ j, Lst listed j ↔ j < i) → m ≤ i →
      wpOpIn (FR ρ) 0 P l.toArray (lift N Q) i (DInvS ρ P N Q ds l m S f0 w0 E (listed.setIfInBounds i true)) a W := by
    intro h hl hmi
    have hoo : l[i] = o := by rw [List.getElem?_eq_getElem hil] at ho; exact Option.some.inj ho
    rw [mem_drop_head hil, hoo] at h
    unfold wpListIn at h
    refine wpOpIn_mono (K := fun a' W' => wpListIn (FR ρ) 0 P l.toArray (lift N Q) (l.drop (i + 1)) a' W') (fun a' W' h' => ⟨hset, .inr ⟨i + 1, by omega, by omega, fun j => ?_, h'⟩⟩) ?_
    · rw [lst_set his, hl]; omega
    · unfold wpOpIn
      rw [hops]
      exact h
  by_cases him : i < m
  · -- in the prefix
    rcases hcase with ⟨hw, f, val, ha, hph⟩ | ⟨p, hmp, _, hl, _⟩
    case inr => exact absurd ((hl i).2 (by omega)) hun
    obtain ⟨hok, hhop⟩ := hE i o him ho
    have hag : Ag N ds ⟨envF (pre.getD i []) val (mkEnv (dstAt l) E i), blur (bd i) f.get f0⟩ a := ha.same fun s => by
      show look (envF (pre.getD i []) val (mkEnv (dstAt l) E i)) (blur (bd i) f.get f0) s = f.get s
      by_cases hx : ∃ j, j < i ∧ memb (pre.getD i []) j = true ∧ dstAt l j = some s
      · obtain ⟨j, hj, hjm, hds⟩ := hx
        rw [envF_hit i hj hjm hds fun k hk h => dst_uniq hc (by omega) (by omega) h hds]
        exact (hph.slot j s (by omega) (hopre j (memb_iff.1 hjm)) hds).symm
      · rw [envF_miss i fun k hk hkm h => hx ⟨k, hk, hkm, h⟩]
        show cond (memb (bd i) s) (f.get s) (f0.get s) = f.get s
        cases hms : memb (bd i) s with
        | true => rfl
        | false => exact (hph.rest s fun j hj hlj h => by
            cases hp : memb (pre.getD j []) i with
            | false => rw [hbd i j s hj h hp] at hms; cases hms
            | true =>
              obtain ⟨oj, hoj⟩ : ∃ oj, l[j]? = some oj := ⟨_, List.getElem?_eq_getElem (by have := hc.le; omega)⟩
              exact hun (hd.preds hc j oj hoj (hd.closed j oj hlj hoj) i (memb_iff.1 hp))).symm
    have hbef : Upd (DBef pre m S i) w0 W := hw.mono fun b _ ⟨j, hj, hlj, hS⟩ => ⟨j, hj, fun e => by subst e; exact hun hlj, by
      cases hp : memb (pre.getD j []) i with
      | false => rfl
      | true =>
        obtain ⟨oj, hoj⟩ : ∃ oj, l[j]? = some oj := ⟨_, List.getElem?_eq_getElem (by have := hc.le; omega)⟩
        exact absurd (hd.preds hc j oj hoj (hd.closed j oj hlj hoj) i (memb_iff.1 hp)) hun, hS⟩
    have hh := hhop val f.get W hbef (envH_of i fun j hj hjm => hph.know j (by omega) (hopre j (memb_iff.1 hjm)))
    have hdo : dstAt l i = o.dst := by simp [dstAt, ho]
    have hput : ∀ x, Ag N ds (f.puto o.dst x) (a.put o.dst x) := fun x => ha.puto (fun k hk => hc.bound i k (hdo.trans hk)) x
    -- what is known behind the operation
    have after : ∀ (x : Value) (W' : World) (val' : Nat → Value), Upd (S i) W W' → (∀ j, j ≠ i → val' j = val j) → (E i).val val' i = x ∨ o.dst = none → (E i).know val' i W' →
        DInvS ρ P N Q ds l m S f0 w0 E (listed.setIfInBounds i true) (a.put o.dst x) W' := by
      intro x W' val' hx hval hvx hkn
      have hsame : ∀ j, j < m → Lst listed j → (E j).val val' j = (E j).val val j ∧ ((E j).know val j W' → (E j).know val' j W') := by
        intro j hj hlj
        have hji : j ≠ i := fun e => by subst e; exact hun hlj
        obtain ⟨oj, hoj⟩ : ∃ oj, l[j]? = some oj := ⟨_, List.getElem?_eq_getElem (by have := hc.le; omega)⟩
        have hprej := hd.preds hc j oj hoj (hd.closed j oj hlj hoj)
        have hi' := ((hE j oj hj hoj).1).1 val' val fun k hk => hval k fun e => by subst e; exact hun (hprej k (memb_iff.1 hk))
        cases he : E j with
        | det v => rw [he] at hi'; exact ⟨hi', fun h => h⟩
        | no => exact ⟨rfl, fun h => h⟩
        | abs p =>
          rw [he] at hi'
          refine ⟨hval j hji, fun h => ?_⟩
          show p val' (val' j) W'
          have hi'' : p val' = p val := hi'
          rw [hi'', hval j hji]; exact h
      have hmono : ∀ j, j < m → Lst listed j → (E j).know val j W → (E j).know val j W' := by
        intro j hj hlj h
        obtain ⟨oj, hoj⟩ : ∃ oj, l[j]? = some oj := ⟨_, List.getElem?_eq_getElem (by have := hc.le; omega)⟩
        have hm' := ((hE j oj hj hoj).1).2 val (val j) W W' (hx.mono fun b _ hS => ⟨i, him, fun e => by subst e; exact hun hlj, by
          cases hp : memb (pre.getD j []) i with
          | false => rfl
          | true => exact absurd (hd.preds hc j oj hoj (hd.closed j oj hlj hoj) i (memb_iff.1 hp)) hun, hS⟩)
        cases he : E j with
        | det v => trivial
        | no => trivial
        | abs p => rw [he] at hm' h; exact hm' h
      have hw2 : Upd (DNow m S (listed.setIfInBounds i true)) w0 W' := (hw.mono fun b _ ⟨j, h1, h2, h3⟩ => ⟨j, h1, (lst_set his).2 (.inr h2), h3⟩).trans (hx.mono fun b _ hS => ⟨i, him, (lst_set his).2 (.inl rfl), hS⟩)
      refine ⟨hset, .inl ⟨hw2, f.puto o.dst x, val', hput x, ?_, ?_, ?_, ?_⟩⟩
      · intro j d hj hlj0 hdj
        rcases (lst_set his).1 hlj0 with rfl | hlj
        · rw [hdo] at hdj
          rw [hdj]
          rcases hvx with h | h
          · rw [h]; exact Fr.get_put_same _ _ _
          · rw [h] at hdj; cases hdj
        · have hji : j ≠ i := fun e => by subst e; exact hun hlj
          rw [(hsame j hj hlj).1, ← hph.slot j d hj hlj hdj]
          cases hod : o.dst with
          | none => rfl
          | some e => exact Fr.get_put_ne _ _ fun h => hji (dst_uniq hc hj him hdj (by rw [hdo, hod, h]))
      · intro j hj hlj0
        rcases (lst_set his).1 hlj0 with rfl | hlj
        · exact hkn
        · exact (hsame j hj hlj).2 (hmono j hj hlj (hph.know j hj hlj))
      · intro s hs
        have h1 : f.get s = f0.get s := hph.rest s fun j hj hlj => hs j hj ((lst_set his).2 (.inr hlj))
        rw [← h1]
        cases hod : o.dst with
        | none => rfl
        | some e => exact Fr.get_put_ne _ _ fun h => hs i him ((lst_set his).2 (.inl rfl)) (by rw [hdo, hod, h])
      · intro j hj hlj0
        rcases (lst_set his).1 hlj0 with rfl | hlj
        · omega
        · exact hph.none j hj hlj
    unfold wpOpIn
    rw [hops]
    cases he : E i with
    | no =>
      rw [he] at hh
      have hg : Region.wanted o (Go.yielded l.toArray a.tmps) = false := hag.guardNo hh
      simp only [hg]
      exact ⟨about_ok ρ o W _ P, after undef W val (Upd.refl _ _) (fun _ _ => rfl) (.inl (by rw [he]; rfl)) (by rw [he]; trivial)⟩
    | det v =>
      rw [he] at hh
      have hg : Region.wanted o (Go.yielded l.toArray a.tmps) = true := hag.guardYes hh.1
      simp only [hg, if_true]
      exact hh.2 o N ds a _ _ rfl rfl hag fun x W' hx => after x W' val hx.1 (fun _ _ => rfl) (.inl (by rw [he]; exact hx.2.symm)) (by rw [he]; trivial)
    | abs p =>
      rw [he] at hh
      have hg : Region.wanted o (Go.yielded l.toArray a.tmps) = true := hag.guardYes hh.1
      simp only [hg, if_true]
      refine hh.2 o N ds a _ _ rfl rfl hag fun x W' hx => ?_
      obtain ⟨val', hv'⟩ : ∃ val' : Nat → Value, val' = fun j => if j = i then x else val j := ⟨_, rfl⟩
      have hvi : val' i = x := by rw [hv']; simp
      have hvj : ∀ j, j ≠ i → val' j = val j := fun j hj => by rw [hv']; simp [hj]
      have hi' := hok.1 val' val fun k hk => hvj k fun e => by subst e; exact hun (hopre k (memb_iff.1 hk))
      rw [he] at hi'
      have hpp : p val' = p val := hi'
      exact after x W' val' hx.1 hvj (.inl (by rw [he]; exact hvi)) (by rw [he]; show p val' (val' i) W'; rw [hpp, hvi]; exact hx.2)
  · -- in the tail
    have htail := hc.tail i hil (by omega)
    have hall : ∀ j, j < i → Lst listed j := fun j hj => hopre j (htail j hj)
    rcases hcase with ⟨hw, f, val, ha, hph⟩ | ⟨p, hmp, hpl, hl, h⟩
    · have him' : i = m := by
        rcases Nat.lt_or_ge m i with h' | h'
        · exact absurd (hall m h') (hph.none m (Nat.le_refl _))
        · omega
      have hl : ∀ j, Lst listed j ↔ j < i := fun j => ⟨fun h => by
        rcases Nat.lt_or_ge j i with h' | h'
        · exact h'
        · exact absurd h (hph.none j (by omega)), hall j⟩
      have h1 := hph.tailS hc ha hw hK fun j hj => hall j (by omega)
      rw [← him'] at h1
      exact tailstep h1 hl (by omega)
    · have hip : p = i := by
        rcases Nat.lt_trichotomy p i with h' | h' | h'
        · have := (hl p).1 (hall p h'); omega
        · exact h'
        · exact absurd ((hl i).2 h') hun
      subst hip
      exact tailstep h hl (by omega)

theorem DInvS.any (hbd : ∀ i j d, j < m → dstAt l j = some d → memb (pre.getD j []) i = false → memb (bd i) d = true) (hc : RegOk N l pre m)
    (hE : ∀ i o, i < m → l[i]? = some o → (E i).okS (pre.getD i []) (DAft pre m S i) ∧
      ∀ val h W, Upd (DBef pre m S i) w0 W → envH (pre.getD i []) val W (mkEnv (dstAt l) E i) → hopS ρ P l (S i) o (E i) ⟨envF (pre.getD i []) val (mkEnv (dstAt l) E i), blur (bd i) h f0⟩ val W)
    (hK : ∀ val W, Upd (DAll m S) w0 W → envH (List.range m) val W (mkEnv (dstAt l) E m) → L ρ P N l.toArray Q (l.drop m) ds ⟨envF (List.range m) val (mkEnv (dstAt l) E m) ++ f0.l, f0.b⟩ W) :
    ∀ (fuel : Nat) (listed : Array Bool) (a : Act) (W : World), left l.length listed = fuel → DInvS ρ P N Q ds l m S f0 w0 E listed a W → wpAnyIn (FR ρ) 0 P .any l.toArray (lift N Q) fuel listed a W := by
  intro fuel
  induction fuel with
  | zero =>
    intro listed a W hf hi
    have hnil : Region.ready .any l.toArray listed = [] := by
      rw [List.eq_nil_iff_forall_not_mem]
      intro i hr
      obtain ⟨hil, hun, _⟩ := (ready_iff hi.1.size).1 hr
      have := left_set (by rw [hi.1.size]; exact hil) hun l.length hil
      omega
    exact ⟨hnil, hi.end_ hc hK hnil⟩
  | succ fuel ih =>
    intro listed a W hf hi
    refine ⟨fun hr => hi.end_ hc hK hr, fun i hr => ?_⟩
    obtain ⟨hil, hun, _⟩ := (ready_iff hi.1.size).1 hr
    have := left_set (by rw [hi.1.size]; exact hil) hun l.length hil
    exact wpOpIn_mono (fun a' W' h => ih _ a' W' (by omega) h) (hi.step hbd hc hE hK hr)

/-- **A REGION THAT DRAWS ITS ORDER.** -/
theorem W_drawS {id : Nat} {f : Fr} {w : World} (m : Nat) (pre : List (List Nat)) (S : Nat → Nat → Prop) (hm : P.follows .mixedOrders = true) (hc : regOk N l pre m = true)
    (h : DSeqS ρ P l pre (fun i => bdOf pre i 0 (l.take m)) f { w with drawn := w.drawn + 1 } m S (fun Γ => ∀ val W, Upd (DAll m S) { w with drawn := w.drawn + 1 } W → envH (List.range m) val W Γ → L ρ P N l.toArray Q (l.drop m) ds ⟨envF (List.range m) val Γ ++ f.l, f.b⟩ W) 0 (l.take m) []) :
    Wp ρ P N (.region id l.toArray true) Q ds f w := by
  intro a ha
  have hc := regOk_of hc
  have hlen : (l.take m).length = m := by rw [List.length_take]; have := hc.le; omega
  obtain ⟨E, _, hE, hK⟩ := dseqS_out (l.take m) 0 (fun _ => .no) (fun i hi => by
    rw [hlen] at hi
    rw [List.getElem?_take, if_pos hi, Nat.zero_add]) h
  rw [Nat.zero_add, hlen] at hK
  refine wpIn_region_any hm ?_
  have hs : (l.toArray).size = l.length := by simp
  rw [hs]
  refine DInvS.any (S := S) (w0 := { w with drawn := w.drawn + 1 }) (f0 := f) (E := E) (bd := fun i => bdOf pre i 0 (l.take m)) (fun i j d hj hd hp => bdOf_mem (j := j) (j0 := 0) (by unfold dstAt at hd ⊢; rw [List.getElem?_take_of_lt hj]; exact hd) (by rw [Nat.zero_add]; exact hp)) hc (fun i o hi ho => hE i o (Nat.zero_le _) (by rw [hlen]; omega) ho) hK l.length _ a _ ?_ ?_
  · unfold left
    rw [List.countP_eq_length.2]
    · simp
    · intro i hi
      have := List.mem_range.1 hi
      simp [Array.getD_eq_getD_getElem?, this]
  · have hno : ∀ j, ¬ Lst (Array.replicate l.length false) j := by
      intro j hj
      unfold Lst at hj
      rw [Array.getD_eq_getD_getElem?, Array.getElem?_replicate] at hj
      split at hj <;> simp at hj
    exact ⟨⟨by simp, fun i o hi => (hno i hi).elim⟩, .inl ⟨Upd.refl _ _, f, fun _ => undef, ha, ⟨fun j d _ hj => (hno j hj).elim, fun j _ hj => (hno j hj).elim, fun _ _ => rfl, fun j _ => hno j⟩⟩⟩
end drawlast
end Go.SL
