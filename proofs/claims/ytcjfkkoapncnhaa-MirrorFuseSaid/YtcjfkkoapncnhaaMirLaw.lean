/-
 The plain law of chapter 10. (Printed by wip/gen/t10j.py of this repo.)
-/
import Derived.Test.YtcjfkkoapncnhaaMiI
namespace Go.Proofs.Ytcjfkkoapncnhaa
open Go Go.SL Go.Proofs
set_option linter.unusedVariables false

def P7 : Pg := ⟨7 :: List.replicate 255 0, by rw [List.length_cons, List.length_replicate]⟩
theorem hits_nil {cs : List Wr} {n : Int} : hitsW cs n = [] ↔ ∀ e ∈ cs, e.1 ≠ n := by
 unfold hitsW
 rw [List.map_eq_nil_iff, List.filter_eq_nil_iff]
 simp
theorem hits_push (cs : List Wr) (m n : Int) (p : Pg) : hitsW (cs ++ [(m, p)]) n = if m = n then p :: hitsW cs n else hitsW cs n := by
 unfold hitsW
 rw [List.reverse_append]
 simp only [List.reverse_cons, List.reverse_nil, List.nil_append, List.singleton_append, List.filter_cons]
 by_cases h : m = n
 ·simp [h]
 ·simp [h]
theorem mayD_new (n : Nat) (h1 : 32 ≤ n) (h2 : n ≤ 256) (bs : List Int) (hb : InB n bs bs.length) : MayD n [] bs false := ⟨⟨h1, h2, Nat.zero_le _, fun h => by cases h⟩, fun j c hj => absurd hj (Nat.not_lt_zero j), hb⟩
theorem inB_one {n : Nat} {a : Int} (h0 : 0 ≤ a) (h1 : a < n) : InB n [a] 1 := fun j x hj hx => by
 obtain rfl : j = 0 := by omega
 simp at hx
 subst hx
 exact ⟨h0, h1, fun b h => absurd h (Nat.lt_irrefl 0)⟩
theorem mayD_push {np : Nat} {cs : List Wr} {bs : List Int} {off : Bool} {n : Int} {p : Pg} (h : MayD np cs bs off) (hn : 0 ≤ n) (hn2 : n < np) (ho : off = false) (hl : cs.length < 2000) : MayD np (cs ++ [(n, p)]) bs off := by
 obtain ⟨⟨a1, a2, a3, a4⟩, hc, hb⟩ := h
 refine ⟨⟨a1, a2, by rw [List.length_append]; show cs.length + 1 ≤ 2000; omega, fun h => by rw [ho] at h; cases h⟩, fun j c hj hjc => ?_, hb⟩
 rcases Nat.lt_or_ge j cs.length with h1 | h1
 ·rw [List.getElem?_append_left h1] at hjc; exact hc j c h1 hjc
 ·rw [List.length_append] at hj
  have hj : j < cs.length + 1 := hj
  rw [List.getElem?_append_right h1, show j - cs.length = 0 by omega] at hjc
  simp at hjc
  subst hjc
  exact ⟨hn, hn2⟩

def selP (l : List Pg) (o : Option Pg) : Option Pg := match l with | p :: _ => some p | [] => o
theorem flP_take (ps : List Pg) (cs : List Wr) (n : Nat) (hn : n < ps.length) (hC : ∀ e ∈ cs, 0 ≤ e.1) : ∀ k, k ≤ cs.length → (flP ps (cs.take k))[n]? = selP (hitsW (cs.take k) (n : Int)) ps[n]?
 | 0, _ => rfl
 | k + 1, hk => by
  obtain ⟨e, he⟩ : ∃ e, cs[k]? = some e := ⟨_, List.getElem?_eq_getElem (by omega)⟩
  have h0 := hC e (List.mem_of_getElem? he)
  have ht : cs.take (k + 1) = cs.take k ++ [(e.1, e.2)] := by rw [List.take_add_one, he]; rfl
  rw [flP_step he, ht, hits_push, List.getElem?_set, flP_length]
  by_cases h : e.1 = (n : Int)
  ·rw [if_pos h, if_pos (by omega), if_pos (by omega)]; rfl
  ·rw [if_neg h, if_neg (by omega)]; exact flP_take ps cs n hn hC k (by omega)
theorem flP_at {ps : List Pg} {cs : List Wr} {n : Nat} (hn : n < ps.length) (hC : ∀ e ∈ cs, 0 ≤ e.1) : (flP ps cs)[n]? = selP (hitsW cs (n : Int)) ps[n]? := by
 have h := flP_take ps cs n hn hC cs.length (Nat.le_refl _)
 rwa [List.take_length] at h
theorem flB_mem {bs : List Int} {cs : List Wr} {x : Int} : x ∈ flB bs cs ↔ x ∈ bs ∧ ∀ e ∈ cs, e.1 ≠ x := by
 unfold flB
 induction cs generalizing bs with
 | nil => simp
 | cons a r ih =>
  rw [List.foldl_cons, ih]
  unfold keepI
  simp only [List.mem_filter, decide_eq_true_eq, List.forall_mem_cons]
  constructor
  ·rintro ⟨⟨h1, h2⟩, h3⟩; exact ⟨h1, fun h => h2 h.symm, h3⟩
  ·rintro ⟨h1, h2, h3⟩; exact ⟨⟨h1, fun h => h2 h.symm⟩, h3⟩
theorem readD_flush {ps : List Pg} {cs : List Wr} {bs : List Int} {n : Int} (h0 : 0 ≤ n) (h1 : n < ps.length) (hC : ∀ e ∈ cs, 0 ≤ e.1) : readD (flP ps cs) [] (flB bs cs) n = readD ps cs bs n := by
 obtain ⟨k, rfl⟩ : ∃ k : Nat, n = k := ⟨n.toNat, by omega⟩
 have hk : k < ps.length := by omega
 have hp := flP_at hk hC
 cases hh : hitsW cs (k : Int) with
 | nil =>
  have h2 := hits_nil.1 hh
  rw [hh] at hp
  obtain ⟨p, hp2⟩ : ∃ p, ps[k]? = some p := ⟨_, List.getElem?_eq_getElem hk⟩
  by_cases hb : (k : Int) ∈ bs
  ·rw [readD_bad hh hb, readD_bad rfl (flB_mem.2 ⟨hb, h2⟩)]
  ·rw [readD_page (p := p) hh hb hp2, readD_page (p := p) rfl (fun h => hb (flB_mem.1 h).1) (hp.trans hp2)]
 | cons p r =>
  rw [hh] at hp
  have hne : ¬ (k : Int) ∈ flB bs cs := fun h => by
   have := hits_nil.2 (flB_mem.1 h).2
   rw [hh] at this; cases this
  rw [readD_hit (cs := cs) (p := p) (by rw [hh]; rfl), readD_page (p := p) rfl hne hp]
theorem readD_push (ps : List Pg) (cs : List Wr) (bs : List Int) (m n : Int) (p : Pg) : readD ps (cs ++ [(m, p)]) bs n = if m = n then (p, 0) else readD ps cs bs n := by
 unfold readD
 rw [hits_push]
 by_cases h : m = n
 ·rw [if_pos h, if_pos h]
 ·rw [if_neg h, if_neg h]
theorem inB_pw {n : Nat} {bs : List Int} : InB n bs bs.length ↔ (∀ a ∈ bs, 0 ≤ a ∧ a < n) ∧ bs.Pairwise (· < ·) := by
 constructor
 ·intro h
  refine ⟨fun a ha => ?_, ?_⟩
  ·obtain ⟨j, hj, rfl⟩ := List.getElem_of_mem ha
   obtain ⟨h1, h2, _⟩ := h j _ hj (List.getElem?_eq_getElem hj)
   exact ⟨h1, h2⟩
  ·rw [List.pairwise_iff_getElem]
   intro i j hi hj hij
   obtain ⟨d, rfl⟩ : ∃ d, j = i + 1 + d := ⟨j - i - 1, by omega⟩
   clear hij
   induction d with
   | zero => exact (h (i + 1) _ hj (List.getElem?_eq_getElem hj)).2.2 _ (by omega) (by rw [show i + 1 - 1 = i by omega]; exact List.getElem?_eq_getElem hi)
   | succ d ih =>
    have h1 := ih (by omega)
    have h2 := (h (i + 1 + (d + 1)) _ hj (List.getElem?_eq_getElem hj)).2.2 (bs[i + 1 + d]'(by omega)) (by omega) (by rw [show i + 1 + (d + 1) - 1 = i + 1 + d by omega]; exact List.getElem?_eq_getElem (by omega))
    omega
 ·rintro ⟨h1, h2⟩ j a hj ha
  obtain ⟨h3, h4⟩ := h1 a (List.mem_of_getElem? ha)
  refine ⟨h3, h4, fun b h0 hb => ?_⟩
  rw [List.pairwise_iff_getElem] at h2
  have h5 := h2 (j - 1) j (by omega) hj (by omega)
  rw [(List.getElem?_eq_some_iff.1 ha).2, (List.getElem?_eq_some_iff.1 hb).2] at h5
  exact h5
theorem inB_flB {n : Nat} {bs : List Int} (cs : List Wr) (h : InB n bs bs.length) : InB n (flB bs cs) (flB bs cs).length := by
 rw [inB_pw] at h ⊢
 refine ⟨fun a ha => h.1 a (flB_mem.1 ha).1, ?_⟩
 have h2 := h.2
 unfold flB
 clear h
 induction cs generalizing bs with
 | nil => exact h2
 | cons a r ih => rw [List.foldl_cons]; exact ih (List.Pairwise.filter _ h2)
theorem mayD_flush {np : Nat} {cs ds : List Wr} {bs : List Int} {off : Bool} (h : MayD np cs bs off) : MayD np [] (flB bs ds) off := ⟨⟨h.1.1, h.1.2.1, Nat.zero_le _, fun _ => rfl⟩, fun j c hj => absurd hj (Nat.not_lt_zero j), inB_flB ds h.2.2⟩
theorem inC_mem {n : Nat} {cs : List Wr} (h : InC n cs cs.length) : ∀ e ∈ cs, 0 ≤ e.1 := fun e he => by
 obtain ⟨j, hj, rfl⟩ := List.getElem_of_mem he
 exact (h j _ hj (List.getElem?_eq_getElem hj)).1
theorem write_ok {np : Nat} {cs : List Wr} {bs : List Int} {off : Bool} {n : Int} (p : Pg) (h : askE np cs bs off n = 0) (hl : cs.length < 2000) : wrE np cs bs off n = 0 ∧ writeC np cs bs off n p = cs ++ [(n, p)] := by
 have h1 : wrE np cs bs off n = 0 := by rw [wrE_ask (fun h2 => by omega)]; exact h
 exact ⟨h1, by unfold writeC; exact if_pos h1⟩

/-! ### The plain law of chapter 10 -/
abbrev DD.May (d : DD) : Prop := MayD d.ps.length d.cs d.bs d.off
theorem wr_go {d : DD} {n : Int} {pg : Pg} (hm : d.May) (ho : d.off = false) (hl : d.cs.length < 2000) (h0 : 0 ≤ n) (h1 : n < d.ps.length) : wrD d n pg = (⟨d.ps, d.cs ++ [(n, pg)], d.bs, d.off⟩, 0) := by
 obtain ⟨e1, e2⟩ := write_ok pg (askE_ok hm h0 h1 ho) hl
 unfold wrD
 rw [e1, e2]
theorem put_go {p : PD} {i : Nat} {n : Int} {pg : Pg} (hb : (burnD p).2 = true) (hm : (p.dk i).May) (ho : (p.dk i).off = false) (hl : (p.dk i).cs.length < 2000) (h0 : 0 ≤ n) (h1 : n < (p.dk i).ps.length) :
  putD p i n pg = ((burnD p).1.setD i ⟨(p.dk i).ps, (p.dk i).cs ++ [(n, pg)], (p.dk i).bs, (p.dk i).off⟩, 0) := by
 have h := wr_go (pg := pg) hm ho hl h0 h1
 unfold putD
 rw [does_s hb (by rw [h]), h]
theorem dk_set (p : PD) (i : Nat) (d : DD) : (p.setD i d).dk i = d := by cases i <;> rfl
theorem set_set (p : PD) (i : Nat) (d e : DD) : (p.setD i d).setD i e = p.setD i e := by cases i <;> rfl
theorem set_dk (p : PD) (i : Nat) : p.setD i (p.dk i) = p := by cases i <;> rfl
theorem set_dn (p : PD) (i : Nat) (d : DD) : (p.setD i d).dn = p.dn := by cases i <;> rfl
def addW (pg : Pg) (xs : List Int) (d : DD) : DD := if d.off = true then d else ⟨d.ps, d.cs ++ xs.map (fun a => (a, pg)), d.bs, d.off⟩
theorem addW_off {pg : Pg} {xs : List Int} {d : DD} (h : d.off = true) : addW pg xs d = d := if_pos h
theorem addW_on {pg : Pg} {xs : List Int} {d : DD} (h : d.off = false) : addW pg xs d = ⟨d.ps, d.cs ++ xs.map (fun a => (a, pg)), d.bs, d.off⟩ := if_neg (by rw [h]; decide)
theorem may_add {np : Nat} {bs : List Int} {off : Bool} {pg : Pg} (ho : off = false) : ∀ {xs : List Int} {cs : List Wr}, MayD np cs bs off → cs.length + xs.length ≤ 2000 → (∀ a ∈ xs, 0 ≤ a ∧ a < (np : Int)) → MayD np (cs ++ xs.map (fun a => (a, pg))) bs off
 | [], cs, h, _, _ => by rw [List.map_nil, List.append_nil]; exact h
 | a :: r, cs, h, hl, ha => by
  have hl2 : cs.length + (r.length + 1) ≤ 2000 := hl
  have h1 := mayD_push (n := a) (p := pg) h (ha a (List.mem_cons_self)).1 (ha a (List.mem_cons_self)).2 ho (by omega)
  have h2 := may_add (pg := pg) ho (xs := r) h1 (by rw [List.length_append]; show cs.length + 1 + r.length ≤ 2000; omega) fun x hx => ha x (List.mem_cons_of_mem _ hx)
  rwa [List.append_assoc] at h2
/-- copies on one disk, no fuse -/
theorem run_as (pg : Pg) (i : Nat) : ∀ (xs : List Int) (p : PD) (r : List (Int × Int)), p.dn = false → p.fz < 0 → (p.dk i).May → (p.dk i).cs.length + xs.length ≤ 2000 → (∀ a ∈ xs, 0 ≤ a ∧ a < ((p.dk i).ps.length : Int)) →
  runL pg p (xs.map (fun a => ((i : Int), a)) ++ r) = runL pg (p.setD i (addW pg xs (p.dk i))) r
 | [], p, r, _, _, _, _, _ => by
  have h : addW pg [] (p.dk i) = p.dk i := by
   unfold addW
   rw [List.map_nil, List.append_nil]
   exact ite_self _
  rw [h, set_dk]; rfl
 | a :: xs, p, r, hd, hf, hm, hl, ha => by
  have hl2 : (p.dk i).cs.length + (xs.length + 1) ≤ 2000 := hl
  by_cases ho : (p.dk i).off = true
  ·show runL pg p (((i : Int), a) :: (xs.map (fun a => ((i : Int), a)) ++ r)) = _
   rw [run_off (d := (i : Int)) (by rw [Int.toNat_natCast]; exact ho), run_as pg i xs p r hd hf hm (by omega) fun x hx => ha x (List.mem_cons_of_mem _ hx), addW_off ho, addW_off ho]
  ·have ho : (p.dk i).off = false := by simpa using ho
   have hp := put_go (p := p) (i := i) (n := a) (pg := pg) (by rw [burn_n hd hf]) hm ho (by omega) (ha a (List.mem_cons_self)).1 (ha a (List.mem_cons_self)).2
   rw [burn_n hd hf] at hp
   show runL pg p (((i : Int), a) :: (xs.map (fun a => ((i : Int), a)) ++ r)) = _
   rw [run_ok (d := (i : Int)) (by rw [Int.toNat_natCast]; exact ho) (by rw [Int.toNat_natCast, hp]), Int.toNat_natCast, hp]
   show runL pg (p.setD i ⟨(p.dk i).ps, (p.dk i).cs ++ [(a, pg)], (p.dk i).bs, (p.dk i).off⟩) _ = _
   rw [run_as pg i xs _ r (by rw [set_dn]; exact hd) (by rw [setD_fz]; exact hf) (by rw [dk_set]; exact mayD_push hm (ha a (List.mem_cons_self)).1 (ha a (List.mem_cons_self)).2 ho (by omega))
    (by rw [dk_set]; show ((p.dk i).cs ++ [(a, pg)]).length + xs.length ≤ 2000; rw [List.length_append]; show (p.dk i).cs.length + 1 + xs.length ≤ 2000; omega) (by rw [dk_set]; exact fun x hx => ha x (List.mem_cons_of_mem _ hx)), dk_set, set_set]
   congr 2
   rw [addW_on (d := ⟨(p.dk i).ps, (p.dk i).cs ++ [(a, pg)], (p.dk i).bs, (p.dk i).off⟩) ho, addW_on ho]
   show DD.mk _ ((p.dk i).cs ++ [(a, pg)] ++ xs.map _) _ _ = _
   rw [List.append_assoc]; rfl
def asQ (q : Pt) : List Int := if MetaP q then [q.2.1, q.2.2.1] else [q.2.1]
theorem copL_as (q : Pt) : copL q = (asQ q).map (fun a => (((0 : Nat) : Int), a)) ++ ((asQ q).map (fun a => (((1 : Nat) : Int), a)) ++ []) := by
 unfold copL asQ
 split <;> rfl
theorem asQ_len (q : Pt) : (asQ q).length ≤ 2 ∧ 1 ≤ (asQ q).length := by unfold asQ; split <;> simp
theorem asQ_in {q : Pt} {size : Int} (h : RightP q size) : ∀ a ∈ asQ q, 0 ≤ a ∧ a < size := by
 obtain ⟨_, h1, h2⟩ := h
 intro a ha
 unfold asQ at ha
 split at ha
 ·rename_i hm
  have h3 := h2 hm
  simp only [List.mem_cons, List.not_mem_nil, or_false] at ha
  rcases ha with rfl | rfl
  ·exact ⟨by have := h1.1; omega, h1.2⟩
  ·exact ⟨by have := h3.1; omega, h3.2⟩
 ·simp only [List.mem_cons, List.not_mem_nil, or_false] at ha
  subst ha
  exact ⟨by have := h1.1; omega, h1.2⟩
theorem cop_mem {q : Pt} {d a : Int} (h : (d, a) ∈ copL q) : a ∈ asQ q := by
 unfold copL at h
 unfold asQ
 split at h <;> simp only [List.mem_cons, List.not_mem_nil, or_false, Prod.mk.injEq] at h
 ·rename_i hm
  rw [if_pos hm]
  rcases h with h | h | h | h <;> simp [h.2]
 ·rename_i hm
  rw [if_neg hm]
  rcases h with h | h <;> simp [h.2]
def wroteD (pg : Pg) (q : Pt) (p : PD) : PD := ⟨addW pg (asQ q) p.a, addW pg (asQ q) p.b, p.fz, p.dn⟩
theorem write_law {p : PD} {q : Pt} {pg : Pg} {m : Nat} (hd : p.dn = false) (hf : p.fz < 0) (ho : ¬ (p.a.off = true ∧ p.b.off = true)) (ha : p.a.May) (hb : p.b.May) (hla : p.a.cs.length ≤ 1998) (hlb : p.b.cs.length ≤ 1998) (hma : m ≤ p.a.ps.length) (hmb : m ≤ p.b.ps.length) (hq : RightP q m) :
  writeD p q pg = (wroteD pg q p, 0) := by
 have hl := (asQ_len q).1
 have hin := asQ_in hq
 unfold writeD
 rw [if_pos (show readyD p = 0 from (if_neg (by rw [hd]; decide)).trans (if_neg ho)), copL_as, run_as pg 0 _ p _ hd hf ha (by show p.a.cs.length + _ ≤ _; omega) (fun x hx => ⟨(hin x hx).1, by have := (hin x hx).2; show x < (p.a.ps.length : Int); omega⟩)]
 rw [run_as pg 1 _ _ _ (by rw [set_dn]; exact hd) (by rw [setD_fz]; exact hf) (by exact hb) (by show p.b.cs.length + _ ≤ _; omega) (fun x hx => ⟨(hin x hx).1, by have := (hin x hx).2; show x < (p.b.ps.length : Int); omega⟩)]
 rfl
def flA (d : DD) : DD := if d.off = true then d else ⟨flP d.ps d.cs, [], flB d.bs d.cs, d.off⟩
theorem flA_off {d : DD} (h : d.off = true) : flA d = d := if_pos h
theorem flA_on {d : DD} (h : d.off = false) : flA d = ⟨flP d.ps d.cs, [], flB d.bs d.cs, d.off⟩ := if_neg (by rw [h]; decide)
theorem fl_go {d : DD} (hm : d.May) (ho : d.off = false) : flD d = (flA d, 0) := by
 have h : d.ask 0 = 0 := askE_ok hm (by decide) (by have := hm.1.1; omega) ho
 unfold flD
 rw [h, if_pos rfl, flA_on ho]
theorem fl_does {p : PD} {i : Nat} (hb : (burnD p).2 = true) (hm : (p.dk i).May) (ho : (p.dk i).off = false) : doesD p i flD = ((burnD p).1.setD i (flA (p.dk i)), 0) := by
 rw [does_s hb (by rw [fl_go hm ho]), fl_go hm ho]
def flushedD (p : PD) : PD := ⟨flA p.a, flA p.b, p.fz, p.dn⟩
theorem flush_law {p : PD} (hd : p.dn = false) (hf : p.fz < 0) (ho : ¬ (p.a.off = true ∧ p.b.off = true)) (ha : p.a.May) (hb : p.b.May) : flushD p = (flushedD p, 0) := by
 have hr : readyD p = 0 := (if_neg (by rw [hd]; decide)).trans (if_neg ho)
 have hS : flushS p = (⟨flA p.a, p.b, p.fz, p.dn⟩, 0) := by
  by_cases h : p.a.off = true
  ·rw [flush_Sn (by rintro ⟨_, h2⟩; rw [h] at h2; cases h2), hr, flA_off h]
  ·have h : p.a.off = false := by simpa using h
   rw [flush_S ⟨hr, h⟩, fl_does (i := 0) (by rw [burn_n hd hf]) ha h, burn_n hd hf]; rfl
 by_cases h : p.b.off = true
 ·rw [flush_Dn (by rintro ⟨_, h2⟩; rw [h] at h2; cases h2), hS]
  unfold flushedD
  rw [flA_off h]
 ·have h : p.b.off = false := by simpa using h
  rw [flush_D ⟨by rw [hS], h⟩, hS]
  have h3 := fl_does (p := ⟨flA p.a, p.b, p.fz, p.dn⟩) (i := 1) (by rw [burn_n (p := ⟨flA p.a, p.b, p.fz, p.dn⟩) hd hf]) hb h
  rw [h3, burn_n (p := ⟨flA p.a, p.b, p.fz, p.dn⟩) hd hf]; rfl
theorem add_may {d : DD} {pg : Pg} {xs : List Int} (h : d.May) (hl : d.cs.length + xs.length ≤ 2000) (ha : ∀ a ∈ xs, 0 ≤ a ∧ a < (d.ps.length : Int)) : (addW pg xs d).May := by
 by_cases ho : d.off = true
 ·rw [addW_off ho]; exact h
 ·have ho : d.off = false := by simpa using ho
  rw [addW_on ho]; exact may_add ho h hl ha
theorem fl_may {d : DD} (h : d.May) : (flA d).May := by
 by_cases ho : d.off = true
 ·rw [flA_off ho]; exact h
 ·have ho : d.off = false := by simpa using ho
  rw [flA_on ho]
  show MayD (flP d.ps d.cs).length [] (flB d.bs d.cs) d.off
  rw [flP_length]; exact mayD_flush h
theorem readD_add (ps : List Pg) (bs : List Int) (pg : Pg) {n : Int} : ∀ (xs : List Int) (cs : List Wr), (n ∈ xs ∨ readD ps cs bs n = (pg, 0)) → readD ps (cs ++ xs.map (fun a => (a, pg))) bs n = (pg, 0)
 | [], cs, h => by rw [List.map_nil, List.append_nil]; exact h.elim (fun h => by cases h) id
 | a :: r, cs, h => by
  have h2 := readD_add ps bs pg (n := n) r (cs ++ [(a, pg)]) (by
   rcases h with h | h
   ·rcases List.mem_cons.1 h with rfl | h
    ·exact .inr (by rw [readD_push, if_pos rfl])
    ·exact .inl h
   ·by_cases e : a = n
    ·exact .inr (by rw [readD_push, if_pos e])
    ·exact .inr (by rw [readD_push, if_neg e]; exact h))
  rwa [List.append_assoc] at h2
noncomputable def rdD (d : DD) (n : Int) : Pg × Int := readE d.ps d.cs d.bs d.off n
theorem read_add {d : DD} {pg : Pg} {xs : List Int} {n : Int} (h : d.May) (ho : d.off = false) (hl : d.cs.length + xs.length ≤ 2000) (ha : ∀ a ∈ xs, 0 ≤ a ∧ a < (d.ps.length : Int)) (hn : n ∈ xs) : rdD (addW pg xs d) n = (pg, 0) := by
 have hm := add_may (pg := pg) h hl ha
 rw [addW_on ho] at hm ⊢
 unfold rdD
 rw [readE_ok (askE_ok hm (ha n hn).1 (ha n hn).2 ho)]
 exact readD_add _ _ _ _ _ (.inl hn)
theorem read_flush {d : DD} {n : Int} (h : d.May) (ho : d.off = false) (h0 : 0 ≤ n) (h1 : n < (d.ps.length : Int)) : rdD (flA d) n = rdD d n := by
 have hm := fl_may h
 have e2 : rdD d n = readD d.ps d.cs d.bs n := by unfold rdD; exact readE_ok (askE_ok h h0 h1 ho)
 rw [e2]
 rw [flA_on ho] at hm ⊢
 unfold rdD
 rw [readE_ok (askE_ok hm h0 (by show n < ((flP d.ps d.cs).length : Int); rw [flP_length]; exact h1) ho)]
 exact readD_flush h0 h1 (inC_mem h.2.1)
end Go.Proofs.Ytcjfkkoapncnhaa
