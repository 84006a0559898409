/-
  The walk of VdevBack. (Printed by wip/gen/t03i.py of this repo.)
-/
import Derived.Test.YthongcaijgfojaaDiskH
namespace Go.Proofs.Ythongcaijgfojaa
open Go Go.SL Go.Proofs
set_option linter.unusedVariables false

def selP (l : List Pg) (o : Option Pg) : Option Pg := match l with | p :: _ => some p | [] => o
theorem flP_take (ps : List Pg) (cs : List Wr) (n : Nat) (hn : n < ps.length) (hC : ∀ e ∈ cs, 0 ≤ e.1) : ∀ k, k ≤ cs.length → (flP ps (cs.take k))[n]? = selP (hitsW (cs.take k) (n : Int)) ps[n]?
  | 0, _ => rfl
  | k + 1, hk => by
    obtain ⟨e, he⟩ : ∃ e, cs[k]? = some e := ⟨_, List.getElem?_eq_getElem (by omega)⟩
    have h0 := hC e (List.mem_of_getElem? he)
    have ht : cs.take (k + 1) = cs.take k ++ [(e.1, e.2)] := by rw [List.take_add_one, he]; rfl
    rw [flP_step he, ht, hits_push, List.getElem?_set, flP_length]
    by_cases h : e.1 = (n : Int)
    · rw [if_pos h, if_pos (by omega), if_pos (by omega)]; rfl
    · rw [if_neg h, if_neg (by omega)]; exact flP_take ps cs n hn hC k (by omega)
theorem flP_at {ps : List Pg} {cs : List Wr} {n : Nat} (hn : n < ps.length) (hC : ∀ e ∈ cs, 0 ≤ e.1) : (flP ps cs)[n]? = selP (hitsW cs (n : Int)) ps[n]? := by
  have h := flP_take ps cs n hn hC cs.length (Nat.le_refl _)
  rwa [List.take_length] at h
theorem flB_mem {bs : List Int} {cs : List Wr} {x : Int} : x ∈ flB bs cs ↔ x ∈ bs ∧ ∀ e ∈ cs, e.1 ≠ x := by
  unfold flB
  induction cs generalizing bs with
  | nil => simp
  | cons a r ih =>
    rw [List.foldl_cons, ih]
    unfold keepI
    simp only [List.mem_filter, decide_eq_true_eq, List.forall_mem_cons]
    constructor
    · rintro ⟨⟨h1, h2⟩, h3⟩; exact ⟨h1, fun h => h2 h.symm, h3⟩
    · rintro ⟨h1, h2, h3⟩; exact ⟨⟨h1, fun h => h2 h.symm⟩, h3⟩
theorem readD_flush {ps : List Pg} {cs : List Wr} {bs : List Int} {n : Int} (h0 : 0 ≤ n) (h1 : n < ps.length) (hC : ∀ e ∈ cs, 0 ≤ e.1) : readD (flP ps cs) [] (flB bs cs) n = readD ps cs bs n := by
  obtain ⟨k, rfl⟩ : ∃ k : Nat, n = k := ⟨n.toNat, by omega⟩
  have hk : k < ps.length := by omega
  have hp := flP_at hk hC
  cases hh : hitsW cs (k : Int) with
  | nil =>
    have h2 := hits_nil.1 hh
    rw [hh] at hp
    obtain ⟨p, hp2⟩ : ∃ p, ps[k]? = some p := ⟨_, List.getElem?_eq_getElem hk⟩
    by_cases hb : (k : Int) ∈ bs
    · rw [readD_bad hh hb, readD_bad rfl (flB_mem.2 ⟨hb, h2⟩)]
    · rw [readD_page (p := p) hh hb hp2, readD_page (p := p) rfl (fun h => hb (flB_mem.1 h).1) (hp.trans hp2)]
  | cons p r =>
    rw [hh] at hp
    have hne : ¬ (k : Int) ∈ flB bs cs := fun h => by
      have := hits_nil.2 (flB_mem.1 h).2
      rw [hh] at this; cases this
    rw [readD_hit (cs := cs) (p := p) (by rw [hh]; rfl), readD_page (p := p) rfl hne hp]
theorem readD_push (ps : List Pg) (cs : List Wr) (bs : List Int) (m n : Int) (p : Pg) : readD ps (cs ++ [(m, p)]) bs n = if m = n then (p, 0) else readD ps cs bs n := by
  unfold readD
  rw [hits_push]
  by_cases h : m = n
  · rw [if_pos h, if_pos h]
  · rw [if_neg h, if_neg h]
theorem inB_pw {n : Nat} {bs : List Int} : InB n bs bs.length ↔ (∀ a ∈ bs, 0 ≤ a ∧ a < n) ∧ bs.Pairwise (· < ·) := by
  constructor
  · intro h
    refine ⟨fun a ha => ?_, ?_⟩
    · obtain ⟨j, hj, rfl⟩ := List.getElem_of_mem ha
      obtain ⟨h1, h2, _⟩ := h j _ hj (List.getElem?_eq_getElem hj)
      exact ⟨h1, h2⟩
    · rw [List.pairwise_iff_getElem]
      intro i j hi hj hij
      obtain ⟨d, rfl⟩ : ∃ d, j = i + 1 + d := ⟨j - i - 1, by omega⟩
      clear hij
      induction d with
      | zero => exact (h (i + 1) _ hj (List.getElem?_eq_getElem hj)).2.2 _ (by omega) (by rw [show i + 1 - 1 = i by omega]; exact List.getElem?_eq_getElem hi)
      | succ d ih =>
        have h1 := ih (by omega)
        have h2 := (h (i + 1 + (d + 1)) _ hj (List.getElem?_eq_getElem hj)).2.2 (bs[i + 1 + d]'(by omega)) (by omega) (by rw [show i + 1 + (d + 1) - 1 = i + 1 + d by omega]; exact List.getElem?_eq_getElem (by omega))
        omega
  · rintro ⟨h1, h2⟩ j a hj ha
    obtain ⟨h3, h4⟩ := h1 a (List.mem_of_getElem? ha)
    refine ⟨h3, h4, fun b h0 hb => ?_⟩
    rw [List.pairwise_iff_getElem] at h2
    have h5 := h2 (j - 1) j (by omega) hj (by omega)
    rw [(List.getElem?_eq_some_iff.1 ha).2, (List.getElem?_eq_some_iff.1 hb).2] at h5
    exact h5
theorem inB_flB {n : Nat} {bs : List Int} (cs : List Wr) (h : InB n bs bs.length) : InB n (flB bs cs) (flB bs cs).length := by
  rw [inB_pw] at h ⊢
  refine ⟨fun a ha => h.1 a (flB_mem.1 ha).1, ?_⟩
  have h2 := h.2
  unfold flB
  clear h
  induction cs generalizing bs with
  | nil => exact h2
  | cons a r ih => rw [List.foldl_cons]; exact ih (List.Pairwise.filter _ h2)
theorem mayD_flush {np : Nat} {cs ds : List Wr} {bs : List Int} {off : Bool} (h : MayD np cs bs off) : MayD np [] (flB bs ds) off := ⟨⟨h.1.1, h.1.2.1, Nat.zero_le _, fun _ => rfl⟩, fun j c hj => absurd hj (Nat.not_lt_zero j), inB_flB ds h.2.2⟩
theorem inC_mem {n : Nat} {cs : List Wr} (h : InC n cs cs.length) : ∀ e ∈ cs, 0 ≤ e.1 := fun e he => by
  obtain ⟨j, hj, rfl⟩ := List.getElem_of_mem he
  exact (h j _ hj (List.getElem?_eq_getElem hj)).1
theorem write_ok {np : Nat} {cs : List Wr} {bs : List Int} {off : Bool} {n : Int} (p : Pg) (h : askE np cs bs off n = 0) (hl : cs.length < 2000) : wrE np cs bs off n = 0 ∧ writeC np cs bs off n p = cs ++ [(n, p)] := by
  have h1 : wrE np cs bs off n = 0 := by rw [wrE_ask (fun h2 => by omega)]; exact h
  exact ⟨h1, by unfold writeC; exact if_pos h1⟩

set_option maxRecDepth 10000 in
set_option maxHeartbeats 2000000 in
theorem c_vdevBack (pv cv bv : Value) (ps : List Pg) (cs : List Wr) (bs : List Int) (off : Bool) (m n : Int) (p q : Pg) (w : World) (hp : NRd LP w 0 w.heap.size pv ps) (hc : NRd LW w 0 w.heap.size cv cs) (hb : NRd LI w 0 w.heap.size bv bs) : CT Try.prog 3 #[(.agg #[pv, cv, bv, (.bool (off))]), (.int .i64 (m)), (.int .i64 (n)), (pageV p), (pageV q)] w fun v w' => v = .bool true ∧ Ext w w' := by
  obtain ⟨n0, hn0⟩ : ∃ n, n = w.heap.size := ⟨_, rfl⟩
  have hU : Upd (fun i => n0 ≤ i) w w := Upd.refl _ _
  have hpl := hp.sv.len
  have hcl := hc.sv.len
  have hbl := hb.sv.len
  rw [← hn0] at hp hc hb
  refine CT_of Try.func3 rfl rfl rfl ?_
  refine W_seq ?_
  refine W_reg ?_
  refine L_op rfl (X_box (v := (.agg #[pv, cv, bv, (.bool (off))])) (c := ([pv, cv, bv, (.bool (off))]).toArray) rfl rfl ?_)
  intro b1 w1 hn1
  have hbn1 := hn1.num; have hbs1 := hn1.size
  replace hp := hp.ext hn1.ext
  replace hc := hc.ext hn1.ext
  replace hb := hb.ext hn1.ext
  replace hU := hU.trans (Ext.upd hn1.ext)
  have hB1 := hn1.blk
  refine L_op rfl (X_box (v := (pageV p)) (c := ((p.1).map byteV).toArray) rfl rfl ?_)
  intro b2 w2 hn2
  have hbn2 := hn2.num; have hbs2 := hn2.size
  replace hp := hp.ext hn2.ext
  replace hc := hc.ext hn2.ext
  replace hb := hb.ext hn2.ext
  replace hU := hU.trans (Ext.upd hn2.ext)
  replace hB1 := hB1.ext hn2.ext
  have hB2 := hn2.blk
  refine L_op rfl (X_box (v := (pageV q)) (c := ((q.1).map byteV).toArray) rfl rfl ?_)
  intro b3 w3 hn3
  have hbn3 := hn3.num; have hbs3 := hn3.size
  replace hp := hp.ext hn3.ext
  replace hc := hc.ext hn3.ext
  replace hb := hb.ext hn3.ext
  replace hU := hU.trans (Ext.upd hn3.ext)
  replace hB1 := hB1.ext hn3.ext
  replace hB2 := hB2.ext hn3.ext
  have hB3 := hn3.blk
  refine L_op rfl (X_assign (v := (.bool (false))) rfl ?_)
  refine L_nil ?_
  refine T_n ?_
  refine W_seq ?_
  refine W_seq ?_
  refine W_reg ?_
  refine L_op rfl (X_loadA (p := (ptr b1 (0))) (xs := [pv, cv, bv, (.bool (off))]) A26 rfl hB1.atAll rfl ?_)
  refine L_op rfl (X_buildSliceL (vs := [(.agg ([pv, cv, bv, (.bool (off))]).toArray)]) (c := [pv, cv, bv, (.bool (off))]) S41 (by decide) rfl rfl (List.forall_mem_cons.2 ⟨rfl, (fun _ h => by cases h)⟩) rfl ?_)
  intro b4 w4 hn4
  have hbn4 := hn4.num; have hbs4 := hn4.size
  replace hp := hp.ext hn4.ext
  replace hc := hc.ext hn4.ext
  replace hb := hb.ext hn4.ext
  replace hU := hU.trans (Ext.upd hn4.ext)
  replace hB1 := hB1.ext hn4.ext
  replace hB2 := hB2.ext hn4.ext
  replace hB3 := hB3.ext hn4.ext
  have hB4 := hn4.blk
  refine L_op rfl (X_fn (vs := [(.slice (some ⟨b4, 0, none⟩) 1 1)]) en8 rfl (CT.mono (c_great _ [⟨pv, cv, bv, ps, cs, bs, off⟩] _ (hB4.rd (o := 0) (n := 1) (c := 1) (sz := 4) (by decide) (by decide) rfl (fun j u hj => by rw [Nat.zero_add]; simpa [LD, Dk.cel] using hj)) (List.forall_mem_cons.2 ⟨⟨hp.sv, hc.sv, hb.sv⟩, (fun _ h => by cases h)⟩)) ?_))
  rintro _ _ ⟨⟨gG, rfl, hgG⟩, rfl⟩
  rcases Bool.eq_false_or_eq_true (gG) with hc5 | hc5
  · rw [hc5]
    refine L_op rfl (X_move (v := (.bool (true))) rfl ?_)
    refine L_gn (dj := 26) (t := true) rfl rfl rfl rfl ?_
    refine L_gn (dj := 26) (t := true) rfl rfl rfl rfl ?_
    refine L_gn (dj := 26) (t := true) rfl rfl rfl rfl ?_
    refine L_op rfl (X_pick (t := true) (v := (.bool (true))) rfl rfl ?_)
    refine L_op rfl (X_move (v := (.bool (true))) rfl ?_)
    refine L_gn (dj := 31) (t := true) rfl rfl rfl rfl ?_
    refine L_gn (dj := 31) (t := true) rfl rfl rfl rfl ?_
    refine L_op rfl (X_pick (t := true) (v := (.bool (true))) rfl rfl ?_)
    refine L_op rfl (X_move (v := (.bool (true))) rfl ?_)
    refine L_gn (dj := 35) (t := true) rfl rfl rfl rfl ?_
    refine L_gn (dj := 35) (t := true) rfl rfl rfl rfl ?_
    refine L_op rfl (X_pick (t := true) (v := (.bool (true))) rfl rfl ?_)
    refine L_op rfl (X_move (v := (.bool (true))) rfl ?_)
    refine L_gn (dj := 39) (t := true) rfl rfl rfl rfl ?_
    refine L_gn (dj := 39) (t := true) rfl rfl rfl rfl ?_
    refine L_op rfl (X_pick (t := true) (v := (.bool (true))) rfl rfl ?_)
    refine L_op rfl (X_move (v := (.bool (true))) rfl ?_)
    refine L_gn (dj := 43) (t := true) rfl rfl rfl rfl ?_
    refine L_gn (dj := 43) (t := true) rfl rfl rfl rfl ?_
    refine L_gn (dj := 43) (t := true) rfl rfl rfl rfl ?_
    refine L_gn (dj := 43) (t := true) rfl rfl rfl rfl ?_
    refine L_gn (dj := 43) (t := true) rfl rfl rfl rfl ?_
    refine L_op rfl (X_pick (t := true) (v := (.bool (true))) rfl rfl ?_)
    refine L_op rfl (X_move (v := (.bool (true))) rfl ?_)
    refine L_gn (dj := 50) (t := true) rfl rfl rfl rfl ?_
    refine L_gn (dj := 50) (t := true) rfl rfl rfl rfl ?_
    refine L_gn (dj := 50) (t := true) rfl rfl rfl rfl ?_
    refine L_gn (dj := 50) (t := true) rfl rfl rfl rfl ?_
    refine L_gn (dj := 50) (t := true) rfl rfl rfl rfl ?_
    refine L_op rfl (X_pick (t := true) (v := (.bool (true))) rfl rfl ?_)
    refine L_nil ?_
    refine T_n ?_
    refine W_ct rfl ?_
    refine W_seq ?_
    refine W_reg ?_
    refine L_op rfl (X_fn (vs := []) en10 rfl (CT.mono (c_wakes _) ?_))
    rintro vb6 w6 ⟨hvb6, hu6⟩
    have hz6 := hu6.size
    replace hp := hp.ext hu6
    replace hc := hc.ext hu6
    replace hb := hb.ext hu6
    replace hU := hU.trans (Ext.upd hu6)
    replace hB1 := hB1.ext hu6
    replace hB2 := hB2.ext hu6
    replace hB3 := hB3.ext hu6
    subst hvb6
    refine L_op rfl (X_assign (v := (.bool (true))) rfl ?_)
    refine L_nil ?_
    refine T_n ?_
    refine W_ret ?_
    refine T_r ?_
    exact BQ_r (End_1 Try.results3 (v := .bool true) rfl ⟨rfl, hU.own hn0⟩)
  · rw [hc5]
    refine L_op rfl (X_move (v := (.bool (false))) rfl ?_)
    refine L_gy (dj := 26) rfl rfl rfl (X_loadA (p := (ptr b1 (0))) (xs := [pv, cv, bv, (.bool (off))]) A26 rfl hB1.atAll rfl ?_)
    refine L_gy (dj := 26) rfl rfl rfl (X_fn (vs := [(.agg ([pv, cv, bv, (.bool (off))]).toArray)]) en9 rfl (CT.mono (c_mayR pv cv bv ps cs bs off _ 0 n0 hp hc hb) ?_))
    rintro _ w7 ⟨⟨gM, rfl, hgM⟩, hu7⟩
    have hz7 := hu7.size
    replace hp := hp.ext hu7
    replace hc := hc.ext hu7
    replace hb := hb.ext hu7
    replace hU := hU.trans (Ext.upd hu7)
    replace hB1 := hB1.ext hu7
    replace hB2 := hB2.ext hu7
    replace hB3 := hB3.ext hu7
    rcases Bool.eq_false_or_eq_true (gM) with hc8 | hc8
    · rw [hc8]
      refine L_gy (dj := 26) rfl rfl rfl (X_not (b := true) (r := false) rfl rfl ?_)
      refine L_op rfl (X_pick (t := false) (v := (.bool (false))) rfl rfl ?_)
      refine L_op rfl (X_move (v := (.bool (false))) rfl ?_)
      refine L_gy (dj := 31) rfl rfl rfl (X_fldP (b := b1) (o := 0) (r := 3) Fd26_3 rfl rfl ?_)
      rcases Bool.eq_false_or_eq_true off with ho9 | ho9
      · refine L_gy (dj := 31) rfl rfl rfl (X_load (p := (ptr b1 (3))) (v := .bool true) T4 rfl (hB1.at1 (by rw [ho9]; rfl)) ?_)
        refine L_op rfl (X_pick (t := false) (v := (.bool (true))) rfl rfl ?_)
        refine L_op rfl (X_move (v := (.bool (true))) rfl ?_)
        refine L_gn (dj := 35) (t := true) rfl rfl rfl rfl ?_
        refine L_gn (dj := 35) (t := true) rfl rfl rfl rfl ?_
        refine L_op rfl (X_pick (t := true) (v := (.bool (true))) rfl rfl ?_)
        refine L_op rfl (X_move (v := (.bool (true))) rfl ?_)
        refine L_gn (dj := 39) (t := true) rfl rfl rfl rfl ?_
        refine L_gn (dj := 39) (t := true) rfl rfl rfl rfl ?_
        refine L_op rfl (X_pick (t := true) (v := (.bool (true))) rfl rfl ?_)
        refine L_op rfl (X_move (v := (.bool (true))) rfl ?_)
        refine L_gn (dj := 43) (t := true) rfl rfl rfl rfl ?_
        refine L_gn (dj := 43) (t := true) rfl rfl rfl rfl ?_
        refine L_gn (dj := 43) (t := true) rfl rfl rfl rfl ?_
        refine L_gn (dj := 43) (t := true) rfl rfl rfl rfl ?_
        refine L_gn (dj := 43) (t := true) rfl rfl rfl rfl ?_
        refine L_op rfl (X_pick (t := true) (v := (.bool (true))) rfl rfl ?_)
        refine L_op rfl (X_move (v := (.bool (true))) rfl ?_)
        refine L_gn (dj := 50) (t := true) rfl rfl rfl rfl ?_
        refine L_gn (dj := 50) (t := true) rfl rfl rfl rfl ?_
        refine L_gn (dj := 50) (t := true) rfl rfl rfl rfl ?_
        refine L_gn (dj := 50) (t := true) rfl rfl rfl rfl ?_
        refine L_gn (dj := 50) (t := true) rfl rfl rfl rfl ?_
        refine L_op rfl (X_pick (t := true) (v := (.bool (true))) rfl rfl ?_)
        refine L_nil ?_
        refine T_n ?_
        refine W_ct rfl ?_
        refine W_seq ?_
        refine W_reg ?_
        refine L_op rfl (X_fn (vs := []) en10 rfl (CT.mono (c_wakes _) ?_))
        rintro vb10 w10 ⟨hvb10, hu10⟩
        have hz10 := hu10.size
        replace hp := hp.ext hu10
        replace hc := hc.ext hu10
        replace hb := hb.ext hu10
        replace hU := hU.trans (Ext.upd hu10)
        replace hB1 := hB1.ext hu10
        replace hB2 := hB2.ext hu10
        replace hB3 := hB3.ext hu10
        subst hvb10
        refine L_op rfl (X_assign (v := (.bool (true))) rfl ?_)
        refine L_nil ?_
        refine T_n ?_
        refine W_ret ?_
        refine T_r ?_
        exact BQ_r (End_1 Try.results3 (v := .bool true) rfl ⟨rfl, hU.own hn0⟩)
      · refine L_gy (dj := 31) rfl rfl rfl (X_load (p := (ptr b1 (3))) (v := .bool false) T4 rfl (hB1.at1 (by rw [ho9]; rfl)) ?_)
        refine L_op rfl (X_pick (t := false) (v := (.bool (false))) rfl rfl ?_)
        refine L_op rfl (X_move (v := (.bool (false))) rfl ?_)
        refine L_gy (dj := 35) rfl rfl rfl (X_move (v := (.int .i64 (m))) rfl ?_)
        by_cases hc11 : (m : Int) < (0)
        · refine L_gy (dj := 35) rfl rfl rfl (X_cmp (k := .i64) (a := m) (b := 0) (r := true) rfl rfl rfl (decide_eq_true (p := ((m) : Int) < ((0) : Int)) (by omega)) ?_)
          refine L_op rfl (X_pick (t := false) (v := (.bool (true))) rfl rfl ?_)
          refine L_op rfl (X_move (v := (.bool (true))) rfl ?_)
          refine L_gn (dj := 39) (t := true) rfl rfl rfl rfl ?_
          refine L_gn (dj := 39) (t := true) rfl rfl rfl rfl ?_
          refine L_op rfl (X_pick (t := true) (v := (.bool (true))) rfl rfl ?_)
          refine L_op rfl (X_move (v := (.bool (true))) rfl ?_)
          refine L_gn (dj := 43) (t := true) rfl rfl rfl rfl ?_
          refine L_gn (dj := 43) (t := true) rfl rfl rfl rfl ?_
          refine L_gn (dj := 43) (t := true) rfl rfl rfl rfl ?_
          refine L_gn (dj := 43) (t := true) rfl rfl rfl rfl ?_
          refine L_gn (dj := 43) (t := true) rfl rfl rfl rfl ?_
          refine L_op rfl (X_pick (t := true) (v := (.bool (true))) rfl rfl ?_)
          refine L_op rfl (X_move (v := (.bool (true))) rfl ?_)
          refine L_gn (dj := 50) (t := true) rfl rfl rfl rfl ?_
          refine L_gn (dj := 50) (t := true) rfl rfl rfl rfl ?_
          refine L_gn (dj := 50) (t := true) rfl rfl rfl rfl ?_
          refine L_gn (dj := 50) (t := true) rfl rfl rfl rfl ?_
          refine L_gn (dj := 50) (t := true) rfl rfl rfl rfl ?_
          refine L_op rfl (X_pick (t := true) (v := (.bool (true))) rfl rfl ?_)
          refine L_nil ?_
          refine T_n ?_
          refine W_ct rfl ?_
          refine W_seq ?_
          refine W_reg ?_
          refine L_op rfl (X_fn (vs := []) en10 rfl (CT.mono (c_wakes _) ?_))
          rintro vb12 w12 ⟨hvb12, hu12⟩
          have hz12 := hu12.size
          replace hp := hp.ext hu12
          replace hc := hc.ext hu12
          replace hb := hb.ext hu12
          replace hU := hU.trans (Ext.upd hu12)
          replace hB1 := hB1.ext hu12
          replace hB2 := hB2.ext hu12
          replace hB3 := hB3.ext hu12
          subst hvb12
          refine L_op rfl (X_assign (v := (.bool (true))) rfl ?_)
          refine L_nil ?_
          refine T_n ?_
          refine W_ret ?_
          refine T_r ?_
          exact BQ_r (End_1 Try.results3 (v := .bool true) rfl ⟨rfl, hU.own hn0⟩)
        · refine L_gy (dj := 35) rfl rfl rfl (X_cmp (k := .i64) (a := m) (b := 0) (r := false) rfl rfl rfl (decide_eq_false (p := ((m) : Int) < ((0) : Int)) (by omega)) ?_)
          refine L_op rfl (X_pick (t := false) (v := (.bool (false))) rfl rfl ?_)
          refine L_op rfl (X_move (v := (.bool (false))) rfl ?_)
          refine L_gy (dj := 39) rfl rfl rfl (X_move (v := (.int .i64 (n))) rfl ?_)
          by_cases hc13 : (n : Int) < (0)
          · refine L_gy (dj := 39) rfl rfl rfl (X_cmp (k := .i64) (a := n) (b := 0) (r := true) rfl rfl rfl (decide_eq_true (p := ((n) : Int) < ((0) : Int)) (by omega)) ?_)
            refine L_op rfl (X_pick (t := false) (v := (.bool (true))) rfl rfl ?_)
            refine L_op rfl (X_move (v := (.bool (true))) rfl ?_)
            refine L_gn (dj := 43) (t := true) rfl rfl rfl rfl ?_
            refine L_gn (dj := 43) (t := true) rfl rfl rfl rfl ?_
            refine L_gn (dj := 43) (t := true) rfl rfl rfl rfl ?_
            refine L_gn (dj := 43) (t := true) rfl rfl rfl rfl ?_
            refine L_gn (dj := 43) (t := true) rfl rfl rfl rfl ?_
            refine L_op rfl (X_pick (t := true) (v := (.bool (true))) rfl rfl ?_)
            refine L_op rfl (X_move (v := (.bool (true))) rfl ?_)
            refine L_gn (dj := 50) (t := true) rfl rfl rfl rfl ?_
            refine L_gn (dj := 50) (t := true) rfl rfl rfl rfl ?_
            refine L_gn (dj := 50) (t := true) rfl rfl rfl rfl ?_
            refine L_gn (dj := 50) (t := true) rfl rfl rfl rfl ?_
            refine L_gn (dj := 50) (t := true) rfl rfl rfl rfl ?_
            refine L_op rfl (X_pick (t := true) (v := (.bool (true))) rfl rfl ?_)
            refine L_nil ?_
            refine T_n ?_
            refine W_ct rfl ?_
            refine W_seq ?_
            refine W_reg ?_
            refine L_op rfl (X_fn (vs := []) en10 rfl (CT.mono (c_wakes _) ?_))
            rintro vb14 w14 ⟨hvb14, hu14⟩
            have hz14 := hu14.size
            replace hp := hp.ext hu14
            replace hc := hc.ext hu14
            replace hb := hb.ext hu14
            replace hU := hU.trans (Ext.upd hu14)
            replace hB1 := hB1.ext hu14
            replace hB2 := hB2.ext hu14
            replace hB3 := hB3.ext hu14
            subst hvb14
            refine L_op rfl (X_assign (v := (.bool (true))) rfl ?_)
            refine L_nil ?_
            refine T_n ?_
            refine W_ret ?_
            refine T_r ?_
            exact BQ_r (End_1 Try.results3 (v := .bool true) rfl ⟨rfl, hU.own hn0⟩)
          · refine L_gy (dj := 39) rfl rfl rfl (X_cmp (k := .i64) (a := n) (b := 0) (r := false) rfl rfl rfl (decide_eq_false (p := ((n) : Int) < ((0) : Int)) (by omega)) ?_)
            refine L_op rfl (X_pick (t := false) (v := (.bool (false))) rfl rfl ?_)
            refine L_op rfl (X_move (v := (.bool (false))) rfl ?_)
            refine L_gy (dj := 43) rfl rfl rfl (X_move (v := (.int .i64 (m))) rfl ?_)
            refine L_gy (dj := 43) rfl rfl rfl (X_fldP (b := b1) (o := 0) (r := 0) Fd26_0 rfl rfl ?_)
            refine L_gy (dj := 43) rfl rfl rfl (X_load (p := (ptr b1 (0))) (v := pv) T22 rfl (hB1.at1 rfl) ?_)
            refine L_gy (dj := 43) rfl rfl rfl (X_len (v := pv) (n := ps.length) Try.underlying22 rfl hp.sv ?_)
            by_cases hc15 : (m : Int) ≥ (((ps.length : Nat) : Int))
            · refine L_gy (dj := 43) rfl rfl rfl (X_cmp (k := .i64) (a := m) (b := ((ps.length : Nat) : Int)) (r := true) rfl rfl rfl (decide_eq_true (p := ((((ps.length : Nat) : Int)) : Int) ≤ ((m) : Int)) (by omega)) ?_)
              refine L_op rfl (X_pick (t := false) (v := (.bool (true))) rfl rfl ?_)
              refine L_op rfl (X_move (v := (.bool (true))) rfl ?_)
              refine L_gn (dj := 50) (t := true) rfl rfl rfl rfl ?_
              refine L_gn (dj := 50) (t := true) rfl rfl rfl rfl ?_
              refine L_gn (dj := 50) (t := true) rfl rfl rfl rfl ?_
              refine L_gn (dj := 50) (t := true) rfl rfl rfl rfl ?_
              refine L_gn (dj := 50) (t := true) rfl rfl rfl rfl ?_
              refine L_op rfl (X_pick (t := true) (v := (.bool (true))) rfl rfl ?_)
              refine L_nil ?_
              refine T_n ?_
              refine W_ct rfl ?_
              refine W_seq ?_
              refine W_reg ?_
              refine L_op rfl (X_fn (vs := []) en10 rfl (CT.mono (c_wakes _) ?_))
              rintro vb16 w16 ⟨hvb16, hu16⟩
              have hz16 := hu16.size
              replace hp := hp.ext hu16
              replace hc := hc.ext hu16
              replace hb := hb.ext hu16
              replace hU := hU.trans (Ext.upd hu16)
              replace hB1 := hB1.ext hu16
              replace hB2 := hB2.ext hu16
              replace hB3 := hB3.ext hu16
              subst hvb16
              refine L_op rfl (X_assign (v := (.bool (true))) rfl ?_)
              refine L_nil ?_
              refine T_n ?_
              refine W_ret ?_
              refine T_r ?_
              exact BQ_r (End_1 Try.results3 (v := .bool true) rfl ⟨rfl, hU.own hn0⟩)
            · refine L_gy (dj := 43) rfl rfl rfl (X_cmp (k := .i64) (a := m) (b := ((ps.length : Nat) : Int)) (r := false) rfl rfl rfl (decide_eq_false (p := ((((ps.length : Nat) : Int)) : Int) ≤ ((m) : Int)) (by omega)) ?_)
              refine L_op rfl (X_pick (t := false) (v := (.bool (false))) rfl rfl ?_)
              refine L_op rfl (X_move (v := (.bool (false))) rfl ?_)
              refine L_gy (dj := 50) rfl rfl rfl (X_move (v := (.int .i64 (n))) rfl ?_)
              refine L_gy (dj := 50) rfl rfl rfl (X_fldP (b := b1) (o := 0) (r := 0) Fd26_0 rfl rfl ?_)
              refine L_gy (dj := 50) rfl rfl rfl (X_load (p := (ptr b1 (0))) (v := pv) T22 rfl (hB1.at1 rfl) ?_)
              refine L_gy (dj := 50) rfl rfl rfl (X_len (v := pv) (n := ps.length) Try.underlying22 rfl hp.sv ?_)
              by_cases hc17 : (n : Int) ≥ (((ps.length : Nat) : Int))
              · refine L_gy (dj := 50) rfl rfl rfl (X_cmp (k := .i64) (a := n) (b := ((ps.length : Nat) : Int)) (r := true) rfl rfl rfl (decide_eq_true (p := ((((ps.length : Nat) : Int)) : Int) ≤ ((n) : Int)) (by omega)) ?_)
                refine L_op rfl (X_pick (t := false) (v := (.bool (true))) rfl rfl ?_)
                refine L_nil ?_
                refine T_n ?_
                refine W_ct rfl ?_
                refine W_seq ?_
                refine W_reg ?_
                refine L_op rfl (X_fn (vs := []) en10 rfl (CT.mono (c_wakes _) ?_))
                rintro vb18 w18 ⟨hvb18, hu18⟩
                have hz18 := hu18.size
                replace hp := hp.ext hu18
                replace hc := hc.ext hu18
                replace hb := hb.ext hu18
                replace hU := hU.trans (Ext.upd hu18)
                replace hB1 := hB1.ext hu18
                replace hB2 := hB2.ext hu18
                replace hB3 := hB3.ext hu18
                subst hvb18
                refine L_op rfl (X_assign (v := (.bool (true))) rfl ?_)
                refine L_nil ?_
                refine T_n ?_
                refine W_ret ?_
                refine T_r ?_
                exact BQ_r (End_1 Try.results3 (v := .bool true) rfl ⟨rfl, hU.own hn0⟩)
              · refine L_gy (dj := 50) rfl rfl rfl (X_cmp (k := .i64) (a := n) (b := ((ps.length : Nat) : Int)) (r := false) rfl rfl rfl (decide_eq_false (p := ((((ps.length : Nat) : Int)) : Int) ≤ ((n) : Int)) (by omega)) ?_)
                refine L_op rfl (X_pick (t := false) (v := (.bool (false))) rfl rfl ?_)
                refine L_nil ?_
                refine T_n ?_
                refine W_cf rfl ?_
                refine W_skip ?_
                refine T_n ?_
                refine W_seq ?_
                have hgd := hgG hc5 _ (List.mem_singleton.2 rfl)
                have hM := hgM.1 hc8
                have hof := ho9
                replace hgd : ps.length ≤ 300 ∧ cs.length ≤ 60 ∧ bs.length ≤ 300 := hgd
                have hzn := askE_ok (n := n) hM (by omega) (by omega) hof
                have hzm := askE_ok (n := m) hM (by omega) (by omega) hof
                have hW1 := write_ok p hzm (by omega)
                have hM1 : MayD ps.length (cs ++ [(m, p)]) bs off := mayD_push hM (by omega) (by omega) hof (by omega)
                have hzn1 := askE_ok (n := n) hM1 (by omega) (by omega) hof
                have hzm1 := askE_ok (n := m) hM1 (by omega) (by omega) hof
                have hl1 : (cs ++ [(m, p)]).length < 2000 := by rw [List.length_append, List.length_singleton]; omega
                have hW2 := write_ok q hzm1 hl1
                have hM2 : MayD ps.length (cs ++ [(m, p)] ++ [(m, q)]) bs off := mayD_push hM1 (by omega) (by omega) hof hl1
                have hzm2 := askE_ok (n := m) hM2 (by omega) (by omega) hof
                have hz02 := askE_ok (n := 0) hM2 (by omega) (by omega) hof
                have hM3 : MayD (flP ps (cs ++ [(m, p)] ++ [(m, q)])).length [] (flB bs (cs ++ [(m, p)] ++ [(m, q)])) off := by rw [flP_length]; exact mayD_flush hM2
                have hfl : (flP ps (cs ++ [(m, p)] ++ [(m, q)])).length = ps.length := flP_length _ _
                have hzn3 := askE_ok (n := n) hM3 (by omega) (by omega) hof
                have hzm3 := askE_ok (n := m) hM3 (by omega) (by omega) hof
                obtain ⟨⟨pw, ew⟩, hR0⟩ : ∃ x : Pg × Int, x = readD ps cs bs n := ⟨_, rfl⟩
                obtain ⟨⟨py, ey⟩, hR1⟩ : ∃ x : Pg × Int, x = readD ps (cs ++ [(m, p)]) bs n := ⟨_, rfl⟩
                have hpy : m ≠ n → py = pw ∧ ey = ew := fun h => by have h1 := hR1; rw [readD_push, if_neg h, ← hR0] at h1; exact ⟨congrArg Prod.fst h1, congrArg Prod.snd h1⟩
                obtain ⟨⟨pz, ez⟩, hR3⟩ : ∃ x : Pg × Int, x = readD (flP ps (cs ++ [(m, p)] ++ [(m, q)])) [] (flB bs (cs ++ [(m, p)] ++ [(m, q)])) n := ⟨_, rfl⟩
                have hpz : m ≠ n → pz = pw ∧ ez = ew := fun h => by have h1 := hR3; rw [readD_flush (by omega) (by omega) (inC_mem hM2.2.1), readD_push, if_neg h, readD_push, if_neg h, ← hR0] at h1; exact ⟨congrArg Prod.fst h1, congrArg Prod.snd h1⟩
                have hx1 : readD ps (cs ++ [(m, p)]) bs m = (p, 0) := by rw [readD_push, if_pos rfl]
                have hx2 : readD ps (cs ++ [(m, p)] ++ [(m, q)]) bs m = (q, 0) := by rw [readD_push, if_pos rfl]
                have hx3 : readD (flP ps (cs ++ [(m, p)] ++ [(m, q)])) [] (flB bs (cs ++ [(m, p)] ++ [(m, q)])) m = (q, 0) := by rw [readD_flush (by omega) (by omega) (inC_mem hM2.2.1)]; exact hx2
                refine W_reg ?_
                refine L_op rfl (X_loadA (p := (ptr b1 (0))) (xs := [pv, cv, bv, (.bool (off))]) A26 rfl hB1.atAll rfl ?_)
                refine L_op rfl (X_move (v := (.int .i64 (n))) rfl ?_)
                refine L_op rfl (X_fn (vs := [(.agg ([pv, cv, bv, (.bool (off))]).toArray), (.int .i64 (n))]) en11 rfl (CT.mono (c_read pv cv bv ps cs bs off n _ 0 n0 (by omega) hp hc hb) ?_))
                rintro _ w19 ⟨rfl, hu19⟩
                have hz19 := hu19.size
                replace hp := hp.ext hu19
                replace hc := hc.ext hu19
                replace hb := hb.ext hu19
                replace hU := hU.trans (Ext.upd hu19)
                replace hB1 := hB1.ext hu19
                replace hB2 := hB2.ext hu19
                replace hB3 := hB3.ext hu19
                rw [show readE ps cs bs off n = (pw, ew) from (readE_ok hzn).trans hR0.symm]
                refine L_op rfl (X_move (v := (.tuple #[(pageV pw), (.int .i64 (ew))])) rfl ?_)
                refine L_op rfl (X_extract (l := [(pageV pw), (.int .i64 (ew))]) (v := (pageV pw)) rfl rfl ?_)
                refine L_op rfl (X_extract (l := [(pageV pw), (.int .i64 (ew))]) (v := (.int .i64 (ew))) rfl rfl ?_)
                refine L_op rfl (X_alloc (z := zv28) (c := zc28.toArray) Zv28 rfl ?_)
                intro b20 w20 hn20
                have hbn20 := hn20.num; have hbs20 := hn20.size
                replace hp := hp.ext hn20.ext
                replace hc := hc.ext hn20.ext
                replace hb := hb.ext hn20.ext
                replace hU := hU.trans (Ext.upd hn20.ext)
                replace hB1 := hB1.ext hn20.ext
                replace hB2 := hB2.ext hn20.ext
                replace hB3 := hB3.ext hn20.ext
                have hB20 := hn20.blk
                rw [zc28_eq] at hB20
                refine L_op0 (X_storeW (b := b20) (ys := ((pw.1).map byteV)) A28 rfl rfl (byteV_one _) (by rw [List.length_map]; exact pw.2) hB20 (by rw [List.size_toArray]; exact (by rw [List.length_map]; exact List.length_replicate)) ?_)
                intro w21 hu21 hb21
                have hz21 := hu21.size
                replace hp := hp.upd hu21 fun i h1 h2 h => by have h : i = b20 := h; omega
                replace hc := hc.upd hu21 fun i h1 h2 h => by have h : i = b20 := h; omega
                replace hb := hb.upd hu21 fun i h1 h2 h => by have h : i = b20 := h; omega
                replace hU := hU.trans (hu21.mono fun i _ h => by have h : i = b20 := h; show n0 ≤ i; omega)
                replace hB1 := hB1.upd hu21 fun h => by have h : b1 = b20 := h; omega
                replace hB2 := hB2.upd hu21 fun h => by have h : b2 = b20 := h; omega
                replace hB3 := hB3.upd hu21 fun h => by have h : b3 = b20 := h; omega
                replace hB20 := hb21
                refine L_op rfl (X_assign (v := (.int .i64 (ew))) rfl ?_)
                refine L_nil ?_
                refine T_n ?_
                refine W_seq ?_
                refine W_reg ?_
                refine L_op rfl (X_loadA (p := (ptr b1 (0))) (xs := [pv, cv, bv, (.bool (off))]) A26 rfl hB1.atAll rfl ?_)
                refine L_op rfl (X_move (v := (.int .i64 (m))) rfl ?_)
                refine L_op rfl (X_loadA (p := (ptr b2 (0))) (xs := ((p.1).map byteV)) A28 rfl hB2.atAll (by rw [List.length_map]; exact p.2) ?_)
                obtain ⟨s_a, hs_a⟩ : ∃ n, n = w21.heap.size := ⟨_, rfl⟩
                refine L_op rfl (X_fn (vs := [(.agg ([pv, cv, bv, (.bool (off))]).toArray), (.int .i64 (m)), (.agg (((p.1).map byteV)).toArray)]) en12 rfl (CT.mono (c_write pv cv bv ps cs bs off m p _ 0 n0 (by omega) hp hc hb (by omega) (by omega) (by omega)) ?_))
                rintro _ w22 ⟨p_a, c_a, i_a, rfl, hPa, hCa, hIa, hu22⟩
                have hz22 := hu22.size
                replace hp := hp.ext hu22
                replace hc := hc.ext hu22
                replace hb := hb.ext hu22
                replace hU := hU.trans (Ext.upd hu22)
                replace hB1 := hB1.ext hu22
                replace hB2 := hB2.ext hu22
                replace hB3 := hB3.ext hu22
                replace hB20 := hB20.ext hu22
                rw [(hW1).1]
                rw [(hW1).2] at hCa
                obtain ⟨u_a, hu_a⟩ : ∃ n, n = w22.heap.size := ⟨_, rfl⟩
                rw [← hs_a, ← hu_a] at hPa hCa hIa
                refine L_op rfl (X_move (v := (.tuple #[(.agg #[p_a, c_a, i_a, (.bool (off))]), (.int .i64 (0))])) rfl ?_)
                refine L_op rfl (X_extract (l := [(.agg #[p_a, c_a, i_a, (.bool (off))]), (.int .i64 (0))]) (v := (.agg #[p_a, c_a, i_a, (.bool (off))])) rfl rfl ?_)
                refine L_op rfl (X_extract (l := [(.agg #[p_a, c_a, i_a, (.bool (off))]), (.int .i64 (0))]) (v := (.int .i64 (0))) rfl rfl ?_)
                refine L_op rfl (X_alloc (z := (.agg #[(.slice none 0 0), (.slice none 0 0), (.slice none 0 0), (.bool (false))])) (c := #[(.slice none 0 0), (.slice none 0 0), (.slice none 0 0), (.bool (false))]) Zv26 rfl ?_)
                intro b23 w23 hn23
                have hbn23 := hn23.num; have hbs23 := hn23.size
                replace hp := hp.ext hn23.ext
                replace hc := hc.ext hn23.ext
                replace hb := hb.ext hn23.ext
                replace hU := hU.trans (Ext.upd hn23.ext)
                replace hB1 := hB1.ext hn23.ext
                replace hB2 := hB2.ext hn23.ext
                replace hB3 := hB3.ext hn23.ext
                replace hB20 := hB20.ext hn23.ext
                replace hPa := hPa.ext hn23.ext
                replace hCa := hCa.ext hn23.ext
                replace hIa := hIa.ext hn23.ext
                have hB23 := hn23.blk
                refine L_op0 (X_storeW (b := b23) (ys := [p_a, c_a, i_a, (.bool (off))]) A26 rfl rfl (List.forall_mem_cons.2 ⟨(hPa.1.sv.one), (List.forall_mem_cons.2 ⟨(hCa.1.sv.one), (List.forall_mem_cons.2 ⟨(hIa.1.sv.one), (List.forall_mem_cons.2 ⟨rfl, (fun _ h => by cases h)⟩)⟩)⟩)⟩) rfl hB23 rfl ?_)
                intro w24 hu24 hb24
                have hz24 := hu24.size
                replace hp := hp.upd hu24 fun i h1 h2 h => by have h : i = b23 := h; omega
                replace hc := hc.upd hu24 fun i h1 h2 h => by have h : i = b23 := h; omega
                replace hb := hb.upd hu24 fun i h1 h2 h => by have h : i = b23 := h; omega
                replace hU := hU.trans (hu24.mono fun i _ h => by have h : i = b23 := h; show n0 ≤ i; omega)
                replace hB1 := hB1.upd hu24 fun h => by have h : b1 = b23 := h; omega
                replace hB2 := hB2.upd hu24 fun h => by have h : b2 = b23 := h; omega
                replace hB3 := hB3.upd hu24 fun h => by have h : b3 = b23 := h; omega
                replace hB20 := hB20.upd hu24 fun h => by have h : b20 = b23 := h; omega
                replace hPa := hPa.upd hu24 fun i h1 h2 h => by have h : i = b23 := h; omega
                replace hCa := hCa.upd hu24 fun i h1 h2 h => by have h : i = b23 := h; omega
                replace hIa := hIa.upd hu24 fun i h1 h2 h => by have h : i = b23 := h; omega
                replace hB23 : Blk w24 b23 #[p_a, c_a, i_a, (.bool (off))] 26 := hb24
                refine L_op rfl (X_assign (v := (.int .i64 (0))) rfl ?_)
                refine L_nil ?_
                refine T_n ?_
                refine W_seq ?_
                refine W_reg ?_
                refine L_op rfl (X_loadA (p := (ptr b23 (0))) (xs := [p_a, c_a, i_a, (.bool (off))]) A26 rfl hB23.atAll rfl ?_)
                refine L_op rfl (X_move (v := (.int .i64 (m))) rfl ?_)
                refine L_op rfl (X_fn (vs := [(.agg ([p_a, c_a, i_a, (.bool (off))]).toArray), (.int .i64 (m))]) en11 rfl (CT.mono (c_read p_a c_a i_a ps (cs ++ [(m, p)]) bs off m _ s_a u_a (by omega) hPa.rd hCa.rd hIa.rd) ?_))
                rintro _ w25 ⟨rfl, hu25⟩
                have hz25 := hu25.size
                replace hp := hp.ext hu25
                replace hc := hc.ext hu25
                replace hb := hb.ext hu25
                replace hU := hU.trans (Ext.upd hu25)
                replace hB1 := hB1.ext hu25
                replace hB2 := hB2.ext hu25
                replace hB3 := hB3.ext hu25
                replace hB20 := hB20.ext hu25
                replace hPa := hPa.ext hu25
                replace hCa := hCa.ext hu25
                replace hIa := hIa.ext hu25
                replace hB23 := hB23.ext hu25
                rw [show readE ps (cs ++ [(m, p)]) bs off m = (p, 0) from (readE_ok hzm1).trans hx1]
                refine L_op rfl (X_move (v := (.tuple #[(pageV p), (.int .i64 (0))])) rfl ?_)
                refine L_op rfl (X_extract (l := [(pageV p), (.int .i64 (0))]) (v := (pageV p)) rfl rfl ?_)
                refine L_op rfl (X_extract (l := [(pageV p), (.int .i64 (0))]) (v := (.int .i64 (0))) rfl rfl ?_)
                refine L_op rfl (X_alloc (z := zv28) (c := zc28.toArray) Zv28 rfl ?_)
                intro b26 w26 hn26
                have hbn26 := hn26.num; have hbs26 := hn26.size
                replace hp := hp.ext hn26.ext
                replace hc := hc.ext hn26.ext
                replace hb := hb.ext hn26.ext
                replace hU := hU.trans (Ext.upd hn26.ext)
                replace hB1 := hB1.ext hn26.ext
                replace hB2 := hB2.ext hn26.ext
                replace hB3 := hB3.ext hn26.ext
                replace hB20 := hB20.ext hn26.ext
                replace hPa := hPa.ext hn26.ext
                replace hCa := hCa.ext hn26.ext
                replace hIa := hIa.ext hn26.ext
                replace hB23 := hB23.ext hn26.ext
                have hB26 := hn26.blk
                rw [zc28_eq] at hB26
                refine L_op0 (X_storeW (b := b26) (ys := ((p.1).map byteV)) A28 rfl rfl (byteV_one _) (by rw [List.length_map]; exact p.2) hB26 (by rw [List.size_toArray]; exact (by rw [List.length_map]; exact List.length_replicate)) ?_)
                intro w27 hu27 hb27
                have hz27 := hu27.size
                replace hp := hp.upd hu27 fun i h1 h2 h => by have h : i = b26 := h; omega
                replace hc := hc.upd hu27 fun i h1 h2 h => by have h : i = b26 := h; omega
                replace hb := hb.upd hu27 fun i h1 h2 h => by have h : i = b26 := h; omega
                replace hU := hU.trans (hu27.mono fun i _ h => by have h : i = b26 := h; show n0 ≤ i; omega)
                replace hB1 := hB1.upd hu27 fun h => by have h : b1 = b26 := h; omega
                replace hB2 := hB2.upd hu27 fun h => by have h : b2 = b26 := h; omega
                replace hB3 := hB3.upd hu27 fun h => by have h : b3 = b26 := h; omega
                replace hB20 := hB20.upd hu27 fun h => by have h : b20 = b26 := h; omega
                replace hPa := hPa.upd hu27 fun i h1 h2 h => by have h : i = b26 := h; omega
                replace hCa := hCa.upd hu27 fun i h1 h2 h => by have h : i = b26 := h; omega
                replace hIa := hIa.upd hu27 fun i h1 h2 h => by have h : i = b26 := h; omega
                replace hB23 := hB23.upd hu27 fun h => by have h : b23 = b26 := h; omega
                replace hB26 := hb27
                refine L_op rfl (X_assign (v := (.int .i64 (0))) rfl ?_)
                refine L_nil ?_
                refine T_n ?_
                refine W_seq ?_
                refine W_reg ?_
                refine L_op rfl (X_loadA (p := (ptr b23 (0))) (xs := [p_a, c_a, i_a, (.bool (off))]) A26 rfl hB23.atAll rfl ?_)
                refine L_op rfl (X_move (v := (.int .i64 (n))) rfl ?_)
                refine L_op rfl (X_fn (vs := [(.agg ([p_a, c_a, i_a, (.bool (off))]).toArray), (.int .i64 (n))]) en11 rfl (CT.mono (c_read p_a c_a i_a ps (cs ++ [(m, p)]) bs off n _ s_a u_a (by omega) hPa.rd hCa.rd hIa.rd) ?_))
                rintro _ w28 ⟨rfl, hu28⟩
                have hz28 := hu28.size
                replace hp := hp.ext hu28
                replace hc := hc.ext hu28
                replace hb := hb.ext hu28
                replace hU := hU.trans (Ext.upd hu28)
                replace hB1 := hB1.ext hu28
                replace hB2 := hB2.ext hu28
                replace hB3 := hB3.ext hu28
                replace hB20 := hB20.ext hu28
                replace hPa := hPa.ext hu28
                replace hCa := hCa.ext hu28
                replace hIa := hIa.ext hu28
                replace hB23 := hB23.ext hu28
                replace hB26 := hB26.ext hu28
                rw [show readE ps (cs ++ [(m, p)]) bs off n = (py, ey) from (readE_ok hzn1).trans hR1.symm]
                refine L_op rfl (X_move (v := (.tuple #[(pageV py), (.int .i64 (ey))])) rfl ?_)
                refine L_op rfl (X_extract (l := [(pageV py), (.int .i64 (ey))]) (v := (pageV py)) rfl rfl ?_)
                refine L_op rfl (X_extract (l := [(pageV py), (.int .i64 (ey))]) (v := (.int .i64 (ey))) rfl rfl ?_)
                refine L_op rfl (X_alloc (z := zv28) (c := zc28.toArray) Zv28 rfl ?_)
                intro b29 w29 hn29
                have hbn29 := hn29.num; have hbs29 := hn29.size
                replace hp := hp.ext hn29.ext
                replace hc := hc.ext hn29.ext
                replace hb := hb.ext hn29.ext
                replace hU := hU.trans (Ext.upd hn29.ext)
                replace hB1 := hB1.ext hn29.ext
                replace hB2 := hB2.ext hn29.ext
                replace hB3 := hB3.ext hn29.ext
                replace hB20 := hB20.ext hn29.ext
                replace hPa := hPa.ext hn29.ext
                replace hCa := hCa.ext hn29.ext
                replace hIa := hIa.ext hn29.ext
                replace hB23 := hB23.ext hn29.ext
                replace hB26 := hB26.ext hn29.ext
                have hB29 := hn29.blk
                rw [zc28_eq] at hB29
                refine L_op0 (X_storeW (b := b29) (ys := ((py.1).map byteV)) A28 rfl rfl (byteV_one _) (by rw [List.length_map]; exact py.2) hB29 (by rw [List.size_toArray]; exact (by rw [List.length_map]; exact List.length_replicate)) ?_)
                intro w30 hu30 hb30
                have hz30 := hu30.size
                replace hp := hp.upd hu30 fun i h1 h2 h => by have h : i = b29 := h; omega
                replace hc := hc.upd hu30 fun i h1 h2 h => by have h : i = b29 := h; omega
                replace hb := hb.upd hu30 fun i h1 h2 h => by have h : i = b29 := h; omega
                replace hU := hU.trans (hu30.mono fun i _ h => by have h : i = b29 := h; show n0 ≤ i; omega)
                replace hB1 := hB1.upd hu30 fun h => by have h : b1 = b29 := h; omega
                replace hB2 := hB2.upd hu30 fun h => by have h : b2 = b29 := h; omega
                replace hB3 := hB3.upd hu30 fun h => by have h : b3 = b29 := h; omega
                replace hB20 := hB20.upd hu30 fun h => by have h : b20 = b29 := h; omega
                replace hPa := hPa.upd hu30 fun i h1 h2 h => by have h : i = b29 := h; omega
                replace hCa := hCa.upd hu30 fun i h1 h2 h => by have h : i = b29 := h; omega
                replace hIa := hIa.upd hu30 fun i h1 h2 h => by have h : i = b29 := h; omega
                replace hB23 := hB23.upd hu30 fun h => by have h : b23 = b29 := h; omega
                replace hB26 := hB26.upd hu30 fun h => by have h : b26 = b29 := h; omega
                replace hB29 := hb30
                refine L_op rfl (X_assign (v := (.int .i64 (ey))) rfl ?_)
                refine L_nil ?_
                refine T_n ?_
                refine W_seq ?_
                refine W_seq ?_
                refine W_reg ?_
                refine L_op rfl (X_move (v := (.int .i64 (0))) rfl ?_)
                refine L_op rfl (X_cmp (k := .i64) (a := 0) (b := 0) (r := false) rfl rfl rfl rfl ?_)
                refine L_op rfl (X_move (v := (.bool (false))) rfl ?_)
                refine L_gy (dj := 85) rfl rfl rfl (X_move (v := (.int .i64 (0))) rfl ?_)
                refine L_gy (dj := 85) rfl rfl rfl (X_cmp (k := .i64) (a := 0) (b := 0) (r := false) rfl rfl rfl rfl ?_)
                refine L_op rfl (X_pick (t := false) (v := (.bool (false))) rfl rfl ?_)
                refine L_op rfl (X_move (v := (.bool (false))) rfl ?_)
                refine L_gy (dj := 89) rfl rfl rfl (X_loadA (p := (ptr b26 (0))) (xs := ((p.1).map byteV)) A28 rfl hB26.atAll (by rw [List.length_map]; exact p.2) ?_)
                refine L_gy (dj := 89) rfl rfl rfl (X_loadA (p := (ptr b2 (0))) (xs := ((p.1).map byteV)) A28 rfl hB2.atAll (by rw [List.length_map]; exact p.2) ?_)
                refine L_gy (dj := 89) rfl rfl rfl (X_eqA (n := 256) (l := p.1) (m := p.1) (r := false) Try.underlying28 Try.underlying5 (by kernel_rfl) (by kernel_rfl) (by kernel_rfl) rfl rfl (p.2) (p.2) (.inr ⟨rfl, (by rw [beq_self_eq_true]; rfl)⟩) ?_)
                refine L_op rfl (X_pick (t := false) (v := (.bool (false))) rfl rfl ?_)
                refine L_op rfl (X_move (v := (.bool (false))) rfl ?_)
                refine L_gy (dj := 94) rfl rfl rfl (X_move (v := (.int .i64 (n))) rfl ?_)
                refine L_gy (dj := 94) rfl rfl rfl (X_move (v := (.int .i64 (m))) rfl ?_)
                by_cases hc31 : (n : Int) ≠ (m)
                · refine L_gy (dj := 94) rfl rfl rfl (X_cmp (k := .i64) (a := n) (b := m) (r := true) rfl rfl rfl (decide_eq_true (p := ((n) : Int) ≠ ((m) : Int)) (by omega)) ?_)
                  have hmn : m ≠ n := fun h_ => hc31 h_.symm
                  refine L_gy (dj := 94) rfl rfl rfl (X_move (v := (.bool (true))) rfl ?_)
                  refine L_gy (dj := 98) rfl rfl rfl (X_loadA (p := (ptr b29 (0))) (xs := ((py.1).map byteV)) A28 rfl hB29.atAll (by rw [List.length_map]; exact py.2) ?_)
                  refine L_gy (dj := 98) rfl rfl rfl (X_loadA (p := (ptr b20 (0))) (xs := ((pw.1).map byteV)) A28 rfl hB20.atAll (by rw [List.length_map]; exact pw.2) ?_)
                  refine L_gy (dj := 98) rfl rfl rfl (X_eqA (n := 256) (l := py.1) (m := pw.1) (r := false) Try.underlying28 Try.underlying5 (by kernel_rfl) (by kernel_rfl) (by kernel_rfl) rfl rfl (py.2) (pw.2) (.inr ⟨rfl, (by rw [(hpy hmn).1, beq_self_eq_true]; rfl)⟩) ?_)
                  refine L_gy (dj := 98) rfl rfl rfl (X_move (v := (.bool (false))) rfl ?_)
                  refine L_gy (dj := 102) rfl rfl rfl (X_move (v := (.int .i64 (ey))) rfl ?_)
                  refine L_gy (dj := 102) rfl rfl rfl (X_move (v := (.int .i64 (ew))) rfl ?_)
                  refine L_gy (dj := 102) rfl rfl rfl (X_cmp (k := .i64) (a := ey) (b := ew) (r := false) rfl rfl rfl (decide_eq_false (fun h => h ((hpy hmn).2))) ?_)
                  refine L_gy (dj := 98) rfl rfl rfl (X_pick (t := false) (v := (.bool (false))) rfl rfl ?_)
                  refine L_gy (dj := 94) rfl rfl rfl (X_pick (t := true) (v := (.bool (false))) rfl rfl ?_)
                  refine L_op rfl (X_pick (t := false) (v := (.bool (false))) rfl rfl ?_)
                  refine L_nil ?_
                  refine T_n ?_
                  refine W_cf rfl ?_
                  refine W_skip ?_
                  refine T_n ?_
                  refine W_seq ?_
                  refine W_reg ?_
                  refine L_op rfl (X_loadA (p := (ptr b23 (0))) (xs := [p_a, c_a, i_a, (.bool (off))]) A26 rfl hB23.atAll rfl ?_)
                  refine L_op rfl (X_move (v := (.int .i64 (m))) rfl ?_)
                  refine L_op rfl (X_loadA (p := (ptr b3 (0))) (xs := ((q.1).map byteV)) A28 rfl hB3.atAll (by rw [List.length_map]; exact q.2) ?_)
                  obtain ⟨s_b, hs_b⟩ : ∃ n, n = w30.heap.size := ⟨_, rfl⟩
                  refine L_op rfl (X_fn (vs := [(.agg ([p_a, c_a, i_a, (.bool (off))]).toArray), (.int .i64 (m)), (.agg (((q.1).map byteV)).toArray)]) en12 rfl (CT.mono (c_write p_a c_a i_a ps (cs ++ [(m, p)]) bs off m q _ s_a u_a (by omega) hPa.rd hCa.rd hIa.rd (by omega) (by simp only [List.length_append, List.length_singleton]; omega) (by omega)) ?_))
                  rintro _ w32 ⟨p_b, c_b, i_b, rfl, hPb, hCb, hIb, hu32⟩
                  have hz32 := hu32.size
                  replace hp := hp.ext hu32
                  replace hc := hc.ext hu32
                  replace hb := hb.ext hu32
                  replace hU := hU.trans (Ext.upd hu32)
                  replace hB1 := hB1.ext hu32
                  replace hB2 := hB2.ext hu32
                  replace hB3 := hB3.ext hu32
                  replace hB20 := hB20.ext hu32
                  replace hPa := hPa.ext hu32
                  replace hCa := hCa.ext hu32
                  replace hIa := hIa.ext hu32
                  replace hB23 := hB23.ext hu32
                  replace hB26 := hB26.ext hu32
                  replace hB29 := hB29.ext hu32
                  rw [(hW2).1]
                  rw [(hW2).2] at hCb
                  obtain ⟨u_b, hu_b⟩ : ∃ n, n = w32.heap.size := ⟨_, rfl⟩
                  rw [← hs_b, ← hu_b] at hPb hCb hIb
                  refine L_op rfl (X_move (v := (.tuple #[(.agg #[p_b, c_b, i_b, (.bool (off))]), (.int .i64 (0))])) rfl ?_)
                  refine L_op rfl (X_extract (l := [(.agg #[p_b, c_b, i_b, (.bool (off))]), (.int .i64 (0))]) (v := (.agg #[p_b, c_b, i_b, (.bool (off))])) rfl rfl ?_)
                  refine L_op rfl (X_extract (l := [(.agg #[p_b, c_b, i_b, (.bool (off))]), (.int .i64 (0))]) (v := (.int .i64 (0))) rfl rfl ?_)
                  refine L_op rfl (X_alloc (z := (.agg #[(.slice none 0 0), (.slice none 0 0), (.slice none 0 0), (.bool (false))])) (c := #[(.slice none 0 0), (.slice none 0 0), (.slice none 0 0), (.bool (false))]) Zv26 rfl ?_)
                  intro b33 w33 hn33
                  have hbn33 := hn33.num; have hbs33 := hn33.size
                  replace hp := hp.ext hn33.ext
                  replace hc := hc.ext hn33.ext
                  replace hb := hb.ext hn33.ext
                  replace hU := hU.trans (Ext.upd hn33.ext)
                  replace hB1 := hB1.ext hn33.ext
                  replace hB2 := hB2.ext hn33.ext
                  replace hB3 := hB3.ext hn33.ext
                  replace hB20 := hB20.ext hn33.ext
                  replace hPa := hPa.ext hn33.ext
                  replace hCa := hCa.ext hn33.ext
                  replace hIa := hIa.ext hn33.ext
                  replace hB23 := hB23.ext hn33.ext
                  replace hB26 := hB26.ext hn33.ext
                  replace hB29 := hB29.ext hn33.ext
                  replace hPb := hPb.ext hn33.ext
                  replace hCb := hCb.ext hn33.ext
                  replace hIb := hIb.ext hn33.ext
                  have hB33 := hn33.blk
                  refine L_op0 (X_storeW (b := b33) (ys := [p_b, c_b, i_b, (.bool (off))]) A26 rfl rfl (List.forall_mem_cons.2 ⟨(hPb.1.sv.one), (List.forall_mem_cons.2 ⟨(hCb.1.sv.one), (List.forall_mem_cons.2 ⟨(hIb.1.sv.one), (List.forall_mem_cons.2 ⟨rfl, (fun _ h => by cases h)⟩)⟩)⟩)⟩) rfl hB33 rfl ?_)
                  intro w34 hu34 hb34
                  have hz34 := hu34.size
                  replace hp := hp.upd hu34 fun i h1 h2 h => by have h : i = b33 := h; omega
                  replace hc := hc.upd hu34 fun i h1 h2 h => by have h : i = b33 := h; omega
                  replace hb := hb.upd hu34 fun i h1 h2 h => by have h : i = b33 := h; omega
                  replace hU := hU.trans (hu34.mono fun i _ h => by have h : i = b33 := h; show n0 ≤ i; omega)
                  replace hB1 := hB1.upd hu34 fun h => by have h : b1 = b33 := h; omega
                  replace hB2 := hB2.upd hu34 fun h => by have h : b2 = b33 := h; omega
                  replace hB3 := hB3.upd hu34 fun h => by have h : b3 = b33 := h; omega
                  replace hB20 := hB20.upd hu34 fun h => by have h : b20 = b33 := h; omega
                  replace hPa := hPa.upd hu34 fun i h1 h2 h => by have h : i = b33 := h; omega
                  replace hCa := hCa.upd hu34 fun i h1 h2 h => by have h : i = b33 := h; omega
                  replace hIa := hIa.upd hu34 fun i h1 h2 h => by have h : i = b33 := h; omega
                  replace hB23 := hB23.upd hu34 fun h => by have h : b23 = b33 := h; omega
                  replace hB26 := hB26.upd hu34 fun h => by have h : b26 = b33 := h; omega
                  replace hB29 := hB29.upd hu34 fun h => by have h : b29 = b33 := h; omega
                  replace hPb := hPb.upd hu34 fun i h1 h2 h => by have h : i = b33 := h; omega
                  replace hCb := hCb.upd hu34 fun i h1 h2 h => by have h : i = b33 := h; omega
                  replace hIb := hIb.upd hu34 fun i h1 h2 h => by have h : i = b33 := h; omega
                  replace hB33 : Blk w34 b33 #[p_b, c_b, i_b, (.bool (off))] 26 := hb34
                  refine L_op rfl (X_assign (v := (.int .i64 (0))) rfl ?_)
                  refine L_nil ?_
                  refine T_n ?_
                  refine W_seq ?_
                  refine W_reg ?_
                  refine L_op rfl (X_loadA (p := (ptr b33 (0))) (xs := [p_b, c_b, i_b, (.bool (off))]) A26 rfl hB33.atAll rfl ?_)
                  refine L_op rfl (X_move (v := (.int .i64 (m))) rfl ?_)
                  refine L_op rfl (X_fn (vs := [(.agg ([p_b, c_b, i_b, (.bool (off))]).toArray), (.int .i64 (m))]) en11 rfl (CT.mono (c_read p_b c_b i_b ps (cs ++ [(m, p)] ++ [(m, q)]) bs off m _ s_b u_b (by omega) hPb.rd hCb.rd hIb.rd) ?_))
                  rintro _ w35 ⟨rfl, hu35⟩
                  have hz35 := hu35.size
                  replace hp := hp.ext hu35
                  replace hc := hc.ext hu35
                  replace hb := hb.ext hu35
                  replace hU := hU.trans (Ext.upd hu35)
                  replace hB1 := hB1.ext hu35
                  replace hB2 := hB2.ext hu35
                  replace hB3 := hB3.ext hu35
                  replace hB20 := hB20.ext hu35
                  replace hPa := hPa.ext hu35
                  replace hCa := hCa.ext hu35
                  replace hIa := hIa.ext hu35
                  replace hB23 := hB23.ext hu35
                  replace hB26 := hB26.ext hu35
                  replace hB29 := hB29.ext hu35
                  replace hPb := hPb.ext hu35
                  replace hCb := hCb.ext hu35
                  replace hIb := hIb.ext hu35
                  replace hB33 := hB33.ext hu35
                  rw [show readE ps (cs ++ [(m, p)] ++ [(m, q)]) bs off m = (q, 0) from (readE_ok hzm2).trans hx2]
                  refine L_op rfl (X_move (v := (.tuple #[(pageV q), (.int .i64 (0))])) rfl ?_)
                  refine L_op rfl (X_extract (l := [(pageV q), (.int .i64 (0))]) (v := (pageV q)) rfl rfl ?_)
                  refine L_op rfl (X_extract (l := [(pageV q), (.int .i64 (0))]) (v := (.int .i64 (0))) rfl rfl ?_)
                  refine L_op0 (X_storeW (b := b26) (ys := ((q.1).map byteV)) A28 rfl rfl (byteV_one _) (by rw [List.length_map]; exact q.2) hB26 (by rw [List.size_toArray]; exact (by rw [List.length_map]; exact p.2)) ?_)
                  intro w36 hu36 hb36
                  have hz36 := hu36.size
                  replace hp := hp.upd hu36 fun i h1 h2 h => by have h : i = b26 := h; omega
                  replace hc := hc.upd hu36 fun i h1 h2 h => by have h : i = b26 := h; omega
                  replace hb := hb.upd hu36 fun i h1 h2 h => by have h : i = b26 := h; omega
                  replace hU := hU.trans (hu36.mono fun i _ h => by have h : i = b26 := h; show n0 ≤ i; omega)
                  replace hB1 := hB1.upd hu36 fun h => by have h : b1 = b26 := h; omega
                  replace hB2 := hB2.upd hu36 fun h => by have h : b2 = b26 := h; omega
                  replace hB3 := hB3.upd hu36 fun h => by have h : b3 = b26 := h; omega
                  replace hB20 := hB20.upd hu36 fun h => by have h : b20 = b26 := h; omega
                  replace hPa := hPa.upd hu36 fun i h1 h2 h => by have h : i = b26 := h; omega
                  replace hCa := hCa.upd hu36 fun i h1 h2 h => by have h : i = b26 := h; omega
                  replace hIa := hIa.upd hu36 fun i h1 h2 h => by have h : i = b26 := h; omega
                  replace hB23 := hB23.upd hu36 fun h => by have h : b23 = b26 := h; omega
                  replace hB29 := hB29.upd hu36 fun h => by have h : b29 = b26 := h; omega
                  replace hPb := hPb.upd hu36 fun i h1 h2 h => by have h : i = b26 := h; omega
                  replace hCb := hCb.upd hu36 fun i h1 h2 h => by have h : i = b26 := h; omega
                  replace hIb := hIb.upd hu36 fun i h1 h2 h => by have h : i = b26 := h; omega
                  replace hB33 := hB33.upd hu36 fun h => by have h : b33 = b26 := h; omega
                  replace hB26 := hb36
                  refine L_op rfl (X_assign (v := (.int .i64 (0))) rfl ?_)
                  refine L_nil ?_
                  refine T_n ?_
                  refine W_seq ?_
                  refine W_reg ?_
                  refine L_op rfl (X_loadA (p := (ptr b33 (0))) (xs := [p_b, c_b, i_b, (.bool (off))]) A26 rfl hB33.atAll rfl ?_)
                  obtain ⟨s_c, hs_c⟩ : ∃ n, n = w36.heap.size := ⟨_, rfl⟩
                  refine L_op rfl (X_fn (vs := [(.agg ([p_b, c_b, i_b, (.bool (off))]).toArray)]) en13 rfl (CT.mono (c_flush p_b c_b i_b ps (cs ++ [(m, p)] ++ [(m, q)]) bs off _ s_b u_b (by omega) hPb.rd hCb.rd hIb.rd (by omega) (by simp only [List.length_append, List.length_singleton]; omega) (by omega)) ?_))
                  rintro _ w37 ⟨p_c, c_c, i_c, qsc, dsc, asc, rfl, hPc, hCc, hIc, hokc, _, hu37⟩
                  have hz37 := hu37.size
                  replace hp := hp.ext hu37
                  replace hc := hc.ext hu37
                  replace hb := hb.ext hu37
                  replace hU := hU.trans (Ext.upd hu37)
                  replace hB1 := hB1.ext hu37
                  replace hB2 := hB2.ext hu37
                  replace hB3 := hB3.ext hu37
                  replace hB20 := hB20.ext hu37
                  replace hPa := hPa.ext hu37
                  replace hCa := hCa.ext hu37
                  replace hIa := hIa.ext hu37
                  replace hB23 := hB23.ext hu37
                  replace hB29 := hB29.ext hu37
                  replace hPb := hPb.ext hu37
                  replace hCb := hCb.ext hu37
                  replace hIb := hIb.ext hu37
                  replace hB33 := hB33.ext hu37
                  replace hB26 := hB26.ext hu37
                  obtain ⟨rfl, rfl, rfl⟩ := hokc hz02
                  rw [hz02]
                  obtain ⟨u_c, hu_c⟩ : ∃ n, n = w37.heap.size := ⟨_, rfl⟩
                  rw [← hs_c, ← hu_c] at hPc hCc hIc
                  refine L_op rfl (X_move (v := (.tuple #[(.agg #[p_c, c_c, i_c, (.bool (off))]), (.int .i64 (0))])) rfl ?_)
                  refine L_op rfl (X_extract (l := [(.agg #[p_c, c_c, i_c, (.bool (off))]), (.int .i64 (0))]) (v := (.agg #[p_c, c_c, i_c, (.bool (off))])) rfl rfl ?_)
                  refine L_op rfl (X_extract (l := [(.agg #[p_c, c_c, i_c, (.bool (off))]), (.int .i64 (0))]) (v := (.int .i64 (0))) rfl rfl ?_)
                  refine L_op rfl (X_alloc (z := (.agg #[(.slice none 0 0), (.slice none 0 0), (.slice none 0 0), (.bool (false))])) (c := #[(.slice none 0 0), (.slice none 0 0), (.slice none 0 0), (.bool (false))]) Zv26 rfl ?_)
                  intro b38 w38 hn38
                  have hbn38 := hn38.num; have hbs38 := hn38.size
                  replace hp := hp.ext hn38.ext
                  replace hc := hc.ext hn38.ext
                  replace hb := hb.ext hn38.ext
                  replace hU := hU.trans (Ext.upd hn38.ext)
                  replace hB1 := hB1.ext hn38.ext
                  replace hB2 := hB2.ext hn38.ext
                  replace hB3 := hB3.ext hn38.ext
                  replace hB20 := hB20.ext hn38.ext
                  replace hPa := hPa.ext hn38.ext
                  replace hCa := hCa.ext hn38.ext
                  replace hIa := hIa.ext hn38.ext
                  replace hB23 := hB23.ext hn38.ext
                  replace hB29 := hB29.ext hn38.ext
                  replace hPb := hPb.ext hn38.ext
                  replace hCb := hCb.ext hn38.ext
                  replace hIb := hIb.ext hn38.ext
                  replace hB33 := hB33.ext hn38.ext
                  replace hB26 := hB26.ext hn38.ext
                  replace hPc := hPc.ext hn38.ext
                  replace hCc := hCc.ext hn38.ext
                  replace hIc := hIc.ext hn38.ext
                  have hB38 := hn38.blk
                  refine L_op0 (X_storeW (b := b38) (ys := [p_c, c_c, i_c, (.bool (off))]) A26 rfl rfl (List.forall_mem_cons.2 ⟨(hPc.1.sv.one), (List.forall_mem_cons.2 ⟨(hCc.1.sv.one), (List.forall_mem_cons.2 ⟨(hIc.1.sv.one), (List.forall_mem_cons.2 ⟨rfl, (fun _ h => by cases h)⟩)⟩)⟩)⟩) rfl hB38 rfl ?_)
                  intro w39 hu39 hb39
                  have hz39 := hu39.size
                  replace hp := hp.upd hu39 fun i h1 h2 h => by have h : i = b38 := h; omega
                  replace hc := hc.upd hu39 fun i h1 h2 h => by have h : i = b38 := h; omega
                  replace hb := hb.upd hu39 fun i h1 h2 h => by have h : i = b38 := h; omega
                  replace hU := hU.trans (hu39.mono fun i _ h => by have h : i = b38 := h; show n0 ≤ i; omega)
                  replace hB1 := hB1.upd hu39 fun h => by have h : b1 = b38 := h; omega
                  replace hB2 := hB2.upd hu39 fun h => by have h : b2 = b38 := h; omega
                  replace hB3 := hB3.upd hu39 fun h => by have h : b3 = b38 := h; omega
                  replace hB20 := hB20.upd hu39 fun h => by have h : b20 = b38 := h; omega
                  replace hPa := hPa.upd hu39 fun i h1 h2 h => by have h : i = b38 := h; omega
                  replace hCa := hCa.upd hu39 fun i h1 h2 h => by have h : i = b38 := h; omega
                  replace hIa := hIa.upd hu39 fun i h1 h2 h => by have h : i = b38 := h; omega
                  replace hB23 := hB23.upd hu39 fun h => by have h : b23 = b38 := h; omega
                  replace hB29 := hB29.upd hu39 fun h => by have h : b29 = b38 := h; omega
                  replace hPb := hPb.upd hu39 fun i h1 h2 h => by have h : i = b38 := h; omega
                  replace hCb := hCb.upd hu39 fun i h1 h2 h => by have h : i = b38 := h; omega
                  replace hIb := hIb.upd hu39 fun i h1 h2 h => by have h : i = b38 := h; omega
                  replace hB33 := hB33.upd hu39 fun h => by have h : b33 = b38 := h; omega
                  replace hB26 := hB26.upd hu39 fun h => by have h : b26 = b38 := h; omega
                  replace hPc := hPc.upd hu39 fun i h1 h2 h => by have h : i = b38 := h; omega
                  replace hCc := hCc.upd hu39 fun i h1 h2 h => by have h : i = b38 := h; omega
                  replace hIc := hIc.upd hu39 fun i h1 h2 h => by have h : i = b38 := h; omega
                  replace hB38 : Blk w39 b38 #[p_c, c_c, i_c, (.bool (off))] 26 := hb39
                  refine L_op rfl (X_assign (v := (.int .i64 (0))) rfl ?_)
                  refine L_nil ?_
                  refine T_n ?_
                  refine W_seq ?_
                  refine W_reg ?_
                  refine L_op rfl (X_loadA (p := (ptr b38 (0))) (xs := [p_c, c_c, i_c, (.bool (off))]) A26 rfl hB38.atAll rfl ?_)
                  refine L_op rfl (X_move (v := (.int .i64 (m))) rfl ?_)
                  refine L_op rfl (X_fn (vs := [(.agg ([p_c, c_c, i_c, (.bool (off))]).toArray), (.int .i64 (m))]) en11 rfl (CT.mono (c_read p_c c_c i_c (flP ps (cs ++ [(m, p)] ++ [(m, q)])) [] (flB bs (cs ++ [(m, p)] ++ [(m, q)])) off m _ s_c u_c (by omega) hPc.rd hCc.rd hIc.rd) ?_))
                  rintro _ w40 ⟨rfl, hu40⟩
                  have hz40 := hu40.size
                  replace hp := hp.ext hu40
                  replace hc := hc.ext hu40
                  replace hb := hb.ext hu40
                  replace hU := hU.trans (Ext.upd hu40)
                  replace hB1 := hB1.ext hu40
                  replace hB2 := hB2.ext hu40
                  replace hB3 := hB3.ext hu40
                  replace hB20 := hB20.ext hu40
                  replace hPa := hPa.ext hu40
                  replace hCa := hCa.ext hu40
                  replace hIa := hIa.ext hu40
                  replace hB23 := hB23.ext hu40
                  replace hB29 := hB29.ext hu40
                  replace hPb := hPb.ext hu40
                  replace hCb := hCb.ext hu40
                  replace hIb := hIb.ext hu40
                  replace hB33 := hB33.ext hu40
                  replace hB26 := hB26.ext hu40
                  replace hPc := hPc.ext hu40
                  replace hCc := hCc.ext hu40
                  replace hIc := hIc.ext hu40
                  replace hB38 := hB38.ext hu40
                  rw [show readE (flP ps (cs ++ [(m, p)] ++ [(m, q)])) [] (flB bs (cs ++ [(m, p)] ++ [(m, q)])) off m = (q, 0) from (readE_ok hzm3).trans hx3]
                  refine L_op rfl (X_move (v := (.tuple #[(pageV q), (.int .i64 (0))])) rfl ?_)
                  refine L_op rfl (X_extract (l := [(pageV q), (.int .i64 (0))]) (v := (pageV q)) rfl rfl ?_)
                  refine L_op rfl (X_extract (l := [(pageV q), (.int .i64 (0))]) (v := (.int .i64 (0))) rfl rfl ?_)
                  refine L_op rfl (X_alloc (z := zv28) (c := zc28.toArray) Zv28 rfl ?_)
                  intro b41 w41 hn41
                  have hbn41 := hn41.num; have hbs41 := hn41.size
                  replace hp := hp.ext hn41.ext
                  replace hc := hc.ext hn41.ext
                  replace hb := hb.ext hn41.ext
                  replace hU := hU.trans (Ext.upd hn41.ext)
                  replace hB1 := hB1.ext hn41.ext
                  replace hB2 := hB2.ext hn41.ext
                  replace hB3 := hB3.ext hn41.ext
                  replace hB20 := hB20.ext hn41.ext
                  replace hPa := hPa.ext hn41.ext
                  replace hCa := hCa.ext hn41.ext
                  replace hIa := hIa.ext hn41.ext
                  replace hB23 := hB23.ext hn41.ext
                  replace hB29 := hB29.ext hn41.ext
                  replace hPb := hPb.ext hn41.ext
                  replace hCb := hCb.ext hn41.ext
                  replace hIb := hIb.ext hn41.ext
                  replace hB33 := hB33.ext hn41.ext
                  replace hB26 := hB26.ext hn41.ext
                  replace hPc := hPc.ext hn41.ext
                  replace hCc := hCc.ext hn41.ext
                  replace hIc := hIc.ext hn41.ext
                  replace hB38 := hB38.ext hn41.ext
                  have hB41 := hn41.blk
                  rw [zc28_eq] at hB41
                  refine L_op0 (X_storeW (b := b41) (ys := ((q.1).map byteV)) A28 rfl rfl (byteV_one _) (by rw [List.length_map]; exact q.2) hB41 (by rw [List.size_toArray]; exact (by rw [List.length_map]; exact List.length_replicate)) ?_)
                  intro w42 hu42 hb42
                  have hz42 := hu42.size
                  replace hp := hp.upd hu42 fun i h1 h2 h => by have h : i = b41 := h; omega
                  replace hc := hc.upd hu42 fun i h1 h2 h => by have h : i = b41 := h; omega
                  replace hb := hb.upd hu42 fun i h1 h2 h => by have h : i = b41 := h; omega
                  replace hU := hU.trans (hu42.mono fun i _ h => by have h : i = b41 := h; show n0 ≤ i; omega)
                  replace hB1 := hB1.upd hu42 fun h => by have h : b1 = b41 := h; omega
                  replace hB2 := hB2.upd hu42 fun h => by have h : b2 = b41 := h; omega
                  replace hB3 := hB3.upd hu42 fun h => by have h : b3 = b41 := h; omega
                  replace hB20 := hB20.upd hu42 fun h => by have h : b20 = b41 := h; omega
                  replace hPa := hPa.upd hu42 fun i h1 h2 h => by have h : i = b41 := h; omega
                  replace hCa := hCa.upd hu42 fun i h1 h2 h => by have h : i = b41 := h; omega
                  replace hIa := hIa.upd hu42 fun i h1 h2 h => by have h : i = b41 := h; omega
                  replace hB23 := hB23.upd hu42 fun h => by have h : b23 = b41 := h; omega
                  replace hB29 := hB29.upd hu42 fun h => by have h : b29 = b41 := h; omega
                  replace hPb := hPb.upd hu42 fun i h1 h2 h => by have h : i = b41 := h; omega
                  replace hCb := hCb.upd hu42 fun i h1 h2 h => by have h : i = b41 := h; omega
                  replace hIb := hIb.upd hu42 fun i h1 h2 h => by have h : i = b41 := h; omega
                  replace hB33 := hB33.upd hu42 fun h => by have h : b33 = b41 := h; omega
                  replace hB26 := hB26.upd hu42 fun h => by have h : b26 = b41 := h; omega
                  replace hPc := hPc.upd hu42 fun i h1 h2 h => by have h : i = b41 := h; omega
                  replace hCc := hCc.upd hu42 fun i h1 h2 h => by have h : i = b41 := h; omega
                  replace hIc := hIc.upd hu42 fun i h1 h2 h => by have h : i = b41 := h; omega
                  replace hB38 := hB38.upd hu42 fun h => by have h : b38 = b41 := h; omega
                  replace hB41 := hb42
                  refine L_op rfl (X_assign (v := (.int .i64 (0))) rfl ?_)
                  refine L_nil ?_
                  refine T_n ?_
                  refine W_seq ?_
                  refine W_seq ?_
                  refine W_reg ?_
                  refine L_op rfl (X_move (v := (.int .i64 (0))) rfl ?_)
                  refine L_op rfl (X_cmp (k := .i64) (a := 0) (b := 0) (r := false) rfl rfl rfl rfl ?_)
                  refine L_op rfl (X_move (v := (.bool (false))) rfl ?_)
                  refine L_gy (dj := 135) rfl rfl rfl (X_move (v := (.int .i64 (0))) rfl ?_)
                  refine L_gy (dj := 135) rfl rfl rfl (X_cmp (k := .i64) (a := 0) (b := 0) (r := false) rfl rfl rfl rfl ?_)
                  refine L_op rfl (X_pick (t := false) (v := (.bool (false))) rfl rfl ?_)
                  refine L_op rfl (X_move (v := (.bool (false))) rfl ?_)
                  refine L_gy (dj := 139) rfl rfl rfl (X_loadA (p := (ptr b26 (0))) (xs := ((q.1).map byteV)) A28 rfl hB26.atAll (by rw [List.length_map]; exact q.2) ?_)
                  refine L_gy (dj := 139) rfl rfl rfl (X_loadA (p := (ptr b3 (0))) (xs := ((q.1).map byteV)) A28 rfl hB3.atAll (by rw [List.length_map]; exact q.2) ?_)
                  refine L_gy (dj := 139) rfl rfl rfl (X_eqA (n := 256) (l := q.1) (m := q.1) (r := false) Try.underlying28 Try.underlying5 (by kernel_rfl) (by kernel_rfl) (by kernel_rfl) rfl rfl (q.2) (q.2) (.inr ⟨rfl, (by rw [beq_self_eq_true]; rfl)⟩) ?_)
                  refine L_op rfl (X_pick (t := false) (v := (.bool (false))) rfl rfl ?_)
                  refine L_op rfl (X_move (v := (.bool (false))) rfl ?_)
                  refine L_gy (dj := 144) rfl rfl rfl (X_move (v := (.int .i64 (0))) rfl ?_)
                  refine L_gy (dj := 144) rfl rfl rfl (X_cmp (k := .i64) (a := 0) (b := 0) (r := false) rfl rfl rfl rfl ?_)
                  refine L_op rfl (X_pick (t := false) (v := (.bool (false))) rfl rfl ?_)
                  refine L_op rfl (X_move (v := (.bool (false))) rfl ?_)
                  refine L_gy (dj := 148) rfl rfl rfl (X_move (v := (.int .i64 (0))) rfl ?_)
                  refine L_gy (dj := 148) rfl rfl rfl (X_cmp (k := .i64) (a := 0) (b := 0) (r := false) rfl rfl rfl rfl ?_)
                  refine L_op rfl (X_pick (t := false) (v := (.bool (false))) rfl rfl ?_)
                  refine L_op rfl (X_move (v := (.bool (false))) rfl ?_)
                  refine L_gy (dj := 152) rfl rfl rfl (X_loadA (p := (ptr b41 (0))) (xs := ((q.1).map byteV)) A28 rfl hB41.atAll (by rw [List.length_map]; exact q.2) ?_)
                  refine L_gy (dj := 152) rfl rfl rfl (X_loadA (p := (ptr b3 (0))) (xs := ((q.1).map byteV)) A28 rfl hB3.atAll (by rw [List.length_map]; exact q.2) ?_)
                  refine L_gy (dj := 152) rfl rfl rfl (X_eqA (n := 256) (l := q.1) (m := q.1) (r := false) Try.underlying28 Try.underlying5 (by kernel_rfl) (by kernel_rfl) (by kernel_rfl) rfl rfl (q.2) (q.2) (.inr ⟨rfl, (by rw [beq_self_eq_true]; rfl)⟩) ?_)
                  refine L_op rfl (X_pick (t := false) (v := (.bool (false))) rfl rfl ?_)
                  refine L_op rfl (X_move (v := (.bool (false))) rfl ?_)
                  refine L_gy (dj := 157) rfl rfl rfl (X_loadA (p := (ptr b38 (0))) (xs := [p_c, c_c, i_c, (.bool (off))]) A26 rfl hB38.atAll rfl ?_)
                  refine L_gy (dj := 157) rfl rfl rfl (X_fn (vs := [(.agg ([p_c, c_c, i_c, (.bool (off))]).toArray)]) en14 rfl (CT.mono (c_waits0 p_c c_c i_c off _ hCc.1.sv) ?_))
                  rintro _ w43 ⟨rfl, hu43⟩
                  have hz43 := hu43.size
                  replace hp := hp.ext hu43
                  replace hc := hc.ext hu43
                  replace hb := hb.ext hu43
                  replace hU := hU.trans (Ext.upd hu43)
                  replace hB1 := hB1.ext hu43
                  replace hB2 := hB2.ext hu43
                  replace hB3 := hB3.ext hu43
                  replace hB20 := hB20.ext hu43
                  replace hPa := hPa.ext hu43
                  replace hCa := hCa.ext hu43
                  replace hIa := hIa.ext hu43
                  replace hB23 := hB23.ext hu43
                  replace hB29 := hB29.ext hu43
                  replace hPb := hPb.ext hu43
                  replace hCb := hCb.ext hu43
                  replace hIb := hIb.ext hu43
                  replace hB33 := hB33.ext hu43
                  replace hB26 := hB26.ext hu43
                  replace hPc := hPc.ext hu43
                  replace hCc := hCc.ext hu43
                  replace hIc := hIc.ext hu43
                  replace hB38 := hB38.ext hu43
                  replace hB41 := hB41.ext hu43
                  refine L_gy (dj := 157) rfl rfl rfl (X_len (v := (.slice none 0 0)) (n := 0) Try.underlying24 rfl (Own.nil w 0 5 1).sv ?_)
                  refine L_gy (dj := 157) rfl rfl rfl (X_cmp (k := .i64) (a := 0) (b := 0) (r := false) rfl rfl rfl rfl ?_)
                  refine L_op rfl (X_pick (t := false) (v := (.bool (false))) rfl rfl ?_)
                  refine L_op rfl (X_move (v := (.bool (false))) rfl ?_)
                  refine L_gy (dj := 163) rfl rfl rfl (X_fldP (b := b38) (o := 0) (r := 0) Fd26_0 rfl rfl ?_)
                  refine L_gy (dj := 163) rfl rfl rfl (X_load (p := (ptr b38 (0))) (v := p_c) T22 rfl (hB38.at1 rfl) ?_)
                  refine L_gy (dj := 163) rfl rfl rfl (X_len (v := p_c) (n := (flP ps (cs ++ [(m, p)] ++ [(m, q)])).length) Try.underlying22 rfl hPc.1.sv ?_)
                  refine L_gy (dj := 163) rfl rfl rfl (X_fldP (b := b1) (o := 0) (r := 0) Fd26_0 rfl rfl ?_)
                  refine L_gy (dj := 163) rfl rfl rfl (X_load (p := (ptr b1 (0))) (v := pv) T22 rfl (hB1.at1 rfl) ?_)
                  refine L_gy (dj := 163) rfl rfl rfl (X_len (v := pv) (n := ps.length) Try.underlying22 rfl hp.sv ?_)
                  refine L_gy (dj := 163) rfl rfl rfl (X_cmp (k := .i64) (a := (((flP ps (cs ++ [(m, p)] ++ [(m, q)])).length : Nat) : Int)) (b := ((ps.length : Nat) : Int)) (r := false) rfl rfl rfl (decide_eq_false (p := (((((flP ps (cs ++ [(m, p)] ++ [(m, q)])).length : Nat) : Int)) : Int) ≠ ((((ps.length : Nat) : Int)) : Int)) (by omega)) ?_)
                  refine L_op rfl (X_pick (t := false) (v := (.bool (false))) rfl rfl ?_)
                  refine L_nil ?_
                  refine T_n ?_
                  refine W_cf rfl ?_
                  refine W_skip ?_
                  refine T_n ?_
                  refine W_seq ?_
                  refine W_reg ?_
                  refine L_op rfl (X_loadA (p := (ptr b38 (0))) (xs := [p_c, c_c, i_c, (.bool (off))]) A26 rfl hB38.atAll rfl ?_)
                  refine L_op rfl (X_move (v := (.int .i64 (n))) rfl ?_)
                  refine L_op rfl (X_fn (vs := [(.agg ([p_c, c_c, i_c, (.bool (off))]).toArray), (.int .i64 (n))]) en11 rfl (CT.mono (c_read p_c c_c i_c (flP ps (cs ++ [(m, p)] ++ [(m, q)])) [] (flB bs (cs ++ [(m, p)] ++ [(m, q)])) off n _ s_c u_c (by omega) hPc.rd hCc.rd hIc.rd) ?_))
                  rintro _ w44 ⟨rfl, hu44⟩
                  have hz44 := hu44.size
                  replace hp := hp.ext hu44
                  replace hc := hc.ext hu44
                  replace hb := hb.ext hu44
                  replace hU := hU.trans (Ext.upd hu44)
                  replace hB1 := hB1.ext hu44
                  replace hB2 := hB2.ext hu44
                  replace hB3 := hB3.ext hu44
                  replace hB20 := hB20.ext hu44
                  replace hPa := hPa.ext hu44
                  replace hCa := hCa.ext hu44
                  replace hIa := hIa.ext hu44
                  replace hB23 := hB23.ext hu44
                  replace hB29 := hB29.ext hu44
                  replace hPb := hPb.ext hu44
                  replace hCb := hCb.ext hu44
                  replace hIb := hIb.ext hu44
                  replace hB33 := hB33.ext hu44
                  replace hB26 := hB26.ext hu44
                  replace hPc := hPc.ext hu44
                  replace hCc := hCc.ext hu44
                  replace hIc := hIc.ext hu44
                  replace hB38 := hB38.ext hu44
                  replace hB41 := hB41.ext hu44
                  rw [show readE (flP ps (cs ++ [(m, p)] ++ [(m, q)])) [] (flB bs (cs ++ [(m, p)] ++ [(m, q)])) off n = (pz, ez) from (readE_ok hzn3).trans hR3.symm]
                  refine L_op rfl (X_move (v := (.tuple #[(pageV pz), (.int .i64 (ez))])) rfl ?_)
                  refine L_op rfl (X_extract (l := [(pageV pz), (.int .i64 (ez))]) (v := (pageV pz)) rfl rfl ?_)
                  refine L_op rfl (X_extract (l := [(pageV pz), (.int .i64 (ez))]) (v := (.int .i64 (ez))) rfl rfl ?_)
                  refine L_op0 (X_storeW (b := b29) (ys := ((pz.1).map byteV)) A28 rfl rfl (byteV_one _) (by rw [List.length_map]; exact pz.2) hB29 (by rw [List.size_toArray]; exact (by rw [List.length_map]; exact py.2)) ?_)
                  intro w45 hu45 hb45
                  have hz45 := hu45.size
                  replace hp := hp.upd hu45 fun i h1 h2 h => by have h : i = b29 := h; omega
                  replace hc := hc.upd hu45 fun i h1 h2 h => by have h : i = b29 := h; omega
                  replace hb := hb.upd hu45 fun i h1 h2 h => by have h : i = b29 := h; omega
                  replace hU := hU.trans (hu45.mono fun i _ h => by have h : i = b29 := h; show n0 ≤ i; omega)
                  replace hB1 := hB1.upd hu45 fun h => by have h : b1 = b29 := h; omega
                  replace hB2 := hB2.upd hu45 fun h => by have h : b2 = b29 := h; omega
                  replace hB3 := hB3.upd hu45 fun h => by have h : b3 = b29 := h; omega
                  replace hB20 := hB20.upd hu45 fun h => by have h : b20 = b29 := h; omega
                  replace hPa := hPa.upd hu45 fun i h1 h2 h => by have h : i = b29 := h; omega
                  replace hCa := hCa.upd hu45 fun i h1 h2 h => by have h : i = b29 := h; omega
                  replace hIa := hIa.upd hu45 fun i h1 h2 h => by have h : i = b29 := h; omega
                  replace hB23 := hB23.upd hu45 fun h => by have h : b23 = b29 := h; omega
                  replace hPb := hPb.upd hu45 fun i h1 h2 h => by have h : i = b29 := h; omega
                  replace hCb := hCb.upd hu45 fun i h1 h2 h => by have h : i = b29 := h; omega
                  replace hIb := hIb.upd hu45 fun i h1 h2 h => by have h : i = b29 := h; omega
                  replace hB33 := hB33.upd hu45 fun h => by have h : b33 = b29 := h; omega
                  replace hB26 := hB26.upd hu45 fun h => by have h : b26 = b29 := h; omega
                  replace hPc := hPc.upd hu45 fun i h1 h2 h => by have h : i = b29 := h; omega
                  replace hCc := hCc.upd hu45 fun i h1 h2 h => by have h : i = b29 := h; omega
                  replace hIc := hIc.upd hu45 fun i h1 h2 h => by have h : i = b29 := h; omega
                  replace hB38 := hB38.upd hu45 fun h => by have h : b38 = b29 := h; omega
                  replace hB41 := hB41.upd hu45 fun h => by have h : b41 = b29 := h; omega
                  replace hB29 := hb45
                  refine L_op rfl (X_assign (v := (.int .i64 (ez))) rfl ?_)
                  refine L_nil ?_
                  refine T_n ?_
                  refine W_seq ?_
                  refine W_reg ?_
                  refine L_op rfl (X_move (v := (.int .i64 (n))) rfl ?_)
                  refine L_op rfl (X_move (v := (.int .i64 (m))) rfl ?_)
                  by_cases hc46 : (n : Int) = (m)
                  · refine L_op rfl (X_cmp (k := .i64) (a := n) (b := m) (r := true) rfl rfl rfl (decide_eq_true (p := ((n) : Int) = ((m) : Int)) (by omega)) ?_)
                    refine L_op rfl (X_move (v := (.bool (true))) rfl ?_)
                    refine L_gn (dj := 181) (t := true) rfl rfl rfl rfl ?_
                    refine L_gn (dj := 181) (t := true) rfl rfl rfl rfl ?_
                    refine L_gn (dj := 181) (t := true) rfl rfl rfl rfl ?_
                    refine L_gn (dj := 181) (t := true) rfl rfl rfl rfl ?_
                    refine L_gu (dj := 185) rfl rfl rfl ?_
                    refine L_gu (dj := 185) rfl rfl rfl ?_
                    refine L_gu (dj := 185) rfl rfl rfl ?_
                    refine L_gn (dj := 181) (t := true) rfl rfl rfl rfl ?_
                    refine L_op rfl (X_pick (t := true) (v := (.bool (true))) rfl rfl ?_)
                    refine L_op rfl (X_move (v := (.bool (true))) rfl ?_)
                    refine L_gy (dj := 191) rfl rfl rfl (X_loadA (p := (ptr b23 (0))) (xs := [p_a, c_a, i_a, (.bool (off))]) A26 rfl hB23.atAll rfl ?_)
                    refine L_gy (dj := 191) rfl rfl rfl (X_fn (vs := [(.agg ([p_a, c_a, i_a, (.bool (off))]).toArray)]) en15 rfl (CT.mono (c_may p_a c_a i_a ps (cs ++ [(m, p)]) bs off _ s_a u_a (by omega) hPa.rd hCa.rd hIa.rd) ?_))
                    rintro _ w47 ⟨⟨g47, rfl, hg47⟩, hu47⟩
                    have hz47 := hu47.size
                    replace hp := hp.ext hu47
                    replace hc := hc.ext hu47
                    replace hb := hb.ext hu47
                    replace hU := hU.trans (Ext.upd hu47)
                    replace hB1 := hB1.ext hu47
                    replace hB2 := hB2.ext hu47
                    replace hB3 := hB3.ext hu47
                    replace hB20 := hB20.ext hu47
                    replace hPa := hPa.ext hu47
                    replace hCa := hCa.ext hu47
                    replace hIa := hIa.ext hu47
                    replace hB23 := hB23.ext hu47
                    replace hPb := hPb.ext hu47
                    replace hCb := hCb.ext hu47
                    replace hIb := hIb.ext hu47
                    replace hB33 := hB33.ext hu47
                    replace hB26 := hB26.ext hu47
                    replace hPc := hPc.ext hu47
                    replace hCc := hCc.ext hu47
                    replace hIc := hIc.ext hu47
                    replace hB38 := hB38.ext hu47
                    replace hB41 := hB41.ext hu47
                    replace hB29 := hB29.ext hu47
                    obtain rfl : g47 = true := hg47.2 hM1
                    refine L_op rfl (X_pick (t := true) (v := (.bool (true))) rfl rfl ?_)
                    refine L_op rfl (X_move (v := (.bool (true))) rfl ?_)
                    refine L_gy (dj := 195) rfl rfl rfl (X_loadA (p := (ptr b38 (0))) (xs := [p_c, c_c, i_c, (.bool (off))]) A26 rfl hB38.atAll rfl ?_)
                    refine L_gy (dj := 195) rfl rfl rfl (X_fn (vs := [(.agg ([p_c, c_c, i_c, (.bool (off))]).toArray)]) en15 rfl (CT.mono (c_may p_c c_c i_c (flP ps (cs ++ [(m, p)] ++ [(m, q)])) [] (flB bs (cs ++ [(m, p)] ++ [(m, q)])) off _ s_c u_c (by omega) hPc.rd hCc.rd hIc.rd) ?_))
                    rintro _ w48 ⟨⟨g48, rfl, hg48⟩, hu48⟩
                    have hz48 := hu48.size
                    replace hp := hp.ext hu48
                    replace hc := hc.ext hu48
                    replace hb := hb.ext hu48
                    replace hU := hU.trans (Ext.upd hu48)
                    replace hB1 := hB1.ext hu48
                    replace hB2 := hB2.ext hu48
                    replace hB3 := hB3.ext hu48
                    replace hB20 := hB20.ext hu48
                    replace hPa := hPa.ext hu48
                    replace hCa := hCa.ext hu48
                    replace hIa := hIa.ext hu48
                    replace hB23 := hB23.ext hu48
                    replace hPb := hPb.ext hu48
                    replace hCb := hCb.ext hu48
                    replace hIb := hIb.ext hu48
                    replace hB33 := hB33.ext hu48
                    replace hB26 := hB26.ext hu48
                    replace hPc := hPc.ext hu48
                    replace hCc := hCc.ext hu48
                    replace hIc := hIc.ext hu48
                    replace hB38 := hB38.ext hu48
                    replace hB41 := hB41.ext hu48
                    replace hB29 := hB29.ext hu48
                    obtain rfl : g48 = true := hg48.2 hM3
                    refine L_op rfl (X_pick (t := true) (v := (.bool (true))) rfl rfl ?_)
                    refine L_op rfl (X_move (v := (.bool (true))) rfl ?_)
                    refine L_gy (dj := 199) rfl rfl rfl (X_fn (vs := []) en10 rfl (CT.mono (c_wakes _) ?_))
                    rintro vb49 w49 ⟨hvb49, hu49⟩
                    have hz49 := hu49.size
                    replace hp := hp.ext hu49
                    replace hc := hc.ext hu49
                    replace hb := hb.ext hu49
                    replace hU := hU.trans (Ext.upd hu49)
                    replace hB1 := hB1.ext hu49
                    replace hB2 := hB2.ext hu49
                    replace hB3 := hB3.ext hu49
                    replace hB20 := hB20.ext hu49
                    replace hPa := hPa.ext hu49
                    replace hCa := hCa.ext hu49
                    replace hIa := hIa.ext hu49
                    replace hB23 := hB23.ext hu49
                    replace hPb := hPb.ext hu49
                    replace hCb := hCb.ext hu49
                    replace hIb := hIb.ext hu49
                    replace hB33 := hB33.ext hu49
                    replace hB26 := hB26.ext hu49
                    replace hPc := hPc.ext hu49
                    replace hCc := hCc.ext hu49
                    replace hIc := hIc.ext hu49
                    replace hB38 := hB38.ext hu49
                    replace hB41 := hB41.ext hu49
                    replace hB29 := hB29.ext hu49
                    subst hvb49
                    refine L_op rfl (X_pick (t := true) (v := (.bool (true))) rfl rfl ?_)
                    refine L_op rfl (X_assign (v := (.bool (true))) rfl ?_)
                    refine L_nil ?_
                    refine T_n ?_
                    refine W_ret ?_
                    exact BQ_r (End_1 Try.results3 (v := .bool true) rfl ⟨rfl, hU.own hn0⟩)
                  · refine L_op rfl (X_cmp (k := .i64) (a := n) (b := m) (r := false) rfl rfl rfl (decide_eq_false (p := ((n) : Int) = ((m) : Int)) (by omega)) ?_)
                    have hmn2 : m ≠ n := fun h_ => hc46 h_.symm
                    refine L_op rfl (X_move (v := (.bool (false))) rfl ?_)
                    refine L_gy (dj := 181) rfl rfl rfl (X_loadA (p := (ptr b29 (0))) (xs := ((pz.1).map byteV)) A28 rfl hB29.atAll (by rw [List.length_map]; exact pz.2) ?_)
                    refine L_gy (dj := 181) rfl rfl rfl (X_loadA (p := (ptr b20 (0))) (xs := ((pw.1).map byteV)) A28 rfl hB20.atAll (by rw [List.length_map]; exact pw.2) ?_)
                    refine L_gy (dj := 181) rfl rfl rfl (X_eqA (n := 256) (l := pz.1) (m := pw.1) (r := true) Try.underlying28 Try.underlying5 (by kernel_rfl) (by kernel_rfl) (by kernel_rfl) rfl rfl (pz.2) (pw.2) (.inl ⟨rfl, (by rw [(hpz hmn2).1, beq_self_eq_true])⟩) ?_)
                    refine L_gy (dj := 181) rfl rfl rfl (X_move (v := (.bool (true))) rfl ?_)
                    refine L_gy (dj := 185) rfl rfl rfl (X_move (v := (.int .i64 (ez))) rfl ?_)
                    refine L_gy (dj := 185) rfl rfl rfl (X_move (v := (.int .i64 (ew))) rfl ?_)
                    refine L_gy (dj := 185) rfl rfl rfl (X_cmp (k := .i64) (a := ez) (b := ew) (r := true) rfl rfl rfl (decide_eq_true ((hpz hmn2).2)) ?_)
                    refine L_gy (dj := 181) rfl rfl rfl (X_pick (t := true) (v := (.bool (true))) rfl rfl ?_)
                    refine L_op rfl (X_pick (t := false) (v := (.bool (true))) rfl rfl ?_)
                    refine L_op rfl (X_move (v := (.bool (true))) rfl ?_)
                    refine L_gy (dj := 191) rfl rfl rfl (X_loadA (p := (ptr b23 (0))) (xs := [p_a, c_a, i_a, (.bool (off))]) A26 rfl hB23.atAll rfl ?_)
                    refine L_gy (dj := 191) rfl rfl rfl (X_fn (vs := [(.agg ([p_a, c_a, i_a, (.bool (off))]).toArray)]) en15 rfl (CT.mono (c_may p_a c_a i_a ps (cs ++ [(m, p)]) bs off _ s_a u_a (by omega) hPa.rd hCa.rd hIa.rd) ?_))
                    rintro _ w50 ⟨⟨g50, rfl, hg50⟩, hu50⟩
                    have hz50 := hu50.size
                    replace hp := hp.ext hu50
                    replace hc := hc.ext hu50
                    replace hb := hb.ext hu50
                    replace hU := hU.trans (Ext.upd hu50)
                    replace hB1 := hB1.ext hu50
                    replace hB2 := hB2.ext hu50
                    replace hB3 := hB3.ext hu50
                    replace hB20 := hB20.ext hu50
                    replace hPa := hPa.ext hu50
                    replace hCa := hCa.ext hu50
                    replace hIa := hIa.ext hu50
                    replace hB23 := hB23.ext hu50
                    replace hPb := hPb.ext hu50
                    replace hCb := hCb.ext hu50
                    replace hIb := hIb.ext hu50
                    replace hB33 := hB33.ext hu50
                    replace hB26 := hB26.ext hu50
                    replace hPc := hPc.ext hu50
                    replace hCc := hCc.ext hu50
                    replace hIc := hIc.ext hu50
                    replace hB38 := hB38.ext hu50
                    replace hB41 := hB41.ext hu50
                    replace hB29 := hB29.ext hu50
                    obtain rfl : g50 = true := hg50.2 hM1
                    refine L_op rfl (X_pick (t := true) (v := (.bool (true))) rfl rfl ?_)
                    refine L_op rfl (X_move (v := (.bool (true))) rfl ?_)
                    refine L_gy (dj := 195) rfl rfl rfl (X_loadA (p := (ptr b38 (0))) (xs := [p_c, c_c, i_c, (.bool (off))]) A26 rfl hB38.atAll rfl ?_)
                    refine L_gy (dj := 195) rfl rfl rfl (X_fn (vs := [(.agg ([p_c, c_c, i_c, (.bool (off))]).toArray)]) en15 rfl (CT.mono (c_may p_c c_c i_c (flP ps (cs ++ [(m, p)] ++ [(m, q)])) [] (flB bs (cs ++ [(m, p)] ++ [(m, q)])) off _ s_c u_c (by omega) hPc.rd hCc.rd hIc.rd) ?_))
                    rintro _ w51 ⟨⟨g51, rfl, hg51⟩, hu51⟩
                    have hz51 := hu51.size
                    replace hp := hp.ext hu51
                    replace hc := hc.ext hu51
                    replace hb := hb.ext hu51
                    replace hU := hU.trans (Ext.upd hu51)
                    replace hB1 := hB1.ext hu51
                    replace hB2 := hB2.ext hu51
                    replace hB3 := hB3.ext hu51
                    replace hB20 := hB20.ext hu51
                    replace hPa := hPa.ext hu51
                    replace hCa := hCa.ext hu51
                    replace hIa := hIa.ext hu51
                    replace hB23 := hB23.ext hu51
                    replace hPb := hPb.ext hu51
                    replace hCb := hCb.ext hu51
                    replace hIb := hIb.ext hu51
                    replace hB33 := hB33.ext hu51
                    replace hB26 := hB26.ext hu51
                    replace hPc := hPc.ext hu51
                    replace hCc := hCc.ext hu51
                    replace hIc := hIc.ext hu51
                    replace hB38 := hB38.ext hu51
                    replace hB41 := hB41.ext hu51
                    replace hB29 := hB29.ext hu51
                    obtain rfl : g51 = true := hg51.2 hM3
                    refine L_op rfl (X_pick (t := true) (v := (.bool (true))) rfl rfl ?_)
                    refine L_op rfl (X_move (v := (.bool (true))) rfl ?_)
                    refine L_gy (dj := 199) rfl rfl rfl (X_fn (vs := []) en10 rfl (CT.mono (c_wakes _) ?_))
                    rintro vb52 w52 ⟨hvb52, hu52⟩
                    have hz52 := hu52.size
                    replace hp := hp.ext hu52
                    replace hc := hc.ext hu52
                    replace hb := hb.ext hu52
                    replace hU := hU.trans (Ext.upd hu52)
                    replace hB1 := hB1.ext hu52
                    replace hB2 := hB2.ext hu52
                    replace hB3 := hB3.ext hu52
                    replace hB20 := hB20.ext hu52
                    replace hPa := hPa.ext hu52
                    replace hCa := hCa.ext hu52
                    replace hIa := hIa.ext hu52
                    replace hB23 := hB23.ext hu52
                    replace hPb := hPb.ext hu52
                    replace hCb := hCb.ext hu52
                    replace hIb := hIb.ext hu52
                    replace hB33 := hB33.ext hu52
                    replace hB26 := hB26.ext hu52
                    replace hPc := hPc.ext hu52
                    replace hCc := hCc.ext hu52
                    replace hIc := hIc.ext hu52
                    replace hB38 := hB38.ext hu52
                    replace hB41 := hB41.ext hu52
                    replace hB29 := hB29.ext hu52
                    subst hvb52
                    refine L_op rfl (X_pick (t := true) (v := (.bool (true))) rfl rfl ?_)
                    refine L_op rfl (X_assign (v := (.bool (true))) rfl ?_)
                    refine L_nil ?_
                    refine T_n ?_
                    refine W_ret ?_
                    exact BQ_r (End_1 Try.results3 (v := .bool true) rfl ⟨rfl, hU.own hn0⟩)
                · refine L_gy (dj := 94) rfl rfl rfl (X_cmp (k := .i64) (a := n) (b := m) (r := false) rfl rfl rfl (decide_eq_false (p := ((n) : Int) ≠ ((m) : Int)) (by omega)) ?_)
                  refine L_gy (dj := 94) rfl rfl rfl (X_move (v := (.bool (false))) rfl ?_)
                  refine L_gn (dj := 98) (t := false) rfl rfl rfl rfl ?_
                  refine L_gn (dj := 98) (t := false) rfl rfl rfl rfl ?_
                  refine L_gn (dj := 98) (t := false) rfl rfl rfl rfl ?_
                  refine L_gn (dj := 98) (t := false) rfl rfl rfl rfl ?_
                  refine L_gu (dj := 102) rfl rfl rfl ?_
                  refine L_gu (dj := 102) rfl rfl rfl ?_
                  refine L_gu (dj := 102) rfl rfl rfl ?_
                  refine L_gn (dj := 98) (t := false) rfl rfl rfl rfl ?_
                  refine L_gy (dj := 94) rfl rfl rfl (X_pick (t := false) (v := (.bool (false))) rfl rfl ?_)
                  refine L_op rfl (X_pick (t := false) (v := (.bool (false))) rfl rfl ?_)
                  refine L_nil ?_
                  refine T_n ?_
                  refine W_cf rfl ?_
                  refine W_skip ?_
                  refine T_n ?_
                  refine W_seq ?_
                  refine W_reg ?_
                  refine L_op rfl (X_loadA (p := (ptr b23 (0))) (xs := [p_a, c_a, i_a, (.bool (off))]) A26 rfl hB23.atAll rfl ?_)
                  refine L_op rfl (X_move (v := (.int .i64 (m))) rfl ?_)
                  refine L_op rfl (X_loadA (p := (ptr b3 (0))) (xs := ((q.1).map byteV)) A28 rfl hB3.atAll (by rw [List.length_map]; exact q.2) ?_)
                  obtain ⟨s_b, hs_b⟩ : ∃ n, n = w30.heap.size := ⟨_, rfl⟩
                  refine L_op rfl (X_fn (vs := [(.agg ([p_a, c_a, i_a, (.bool (off))]).toArray), (.int .i64 (m)), (.agg (((q.1).map byteV)).toArray)]) en12 rfl (CT.mono (c_write p_a c_a i_a ps (cs ++ [(m, p)]) bs off m q _ s_a u_a (by omega) hPa.rd hCa.rd hIa.rd (by omega) (by simp only [List.length_append, List.length_singleton]; omega) (by omega)) ?_))
                  rintro _ w53 ⟨p_b, c_b, i_b, rfl, hPb, hCb, hIb, hu53⟩
                  have hz53 := hu53.size
                  replace hp := hp.ext hu53
                  replace hc := hc.ext hu53
                  replace hb := hb.ext hu53
                  replace hU := hU.trans (Ext.upd hu53)
                  replace hB1 := hB1.ext hu53
                  replace hB2 := hB2.ext hu53
                  replace hB3 := hB3.ext hu53
                  replace hB20 := hB20.ext hu53
                  replace hPa := hPa.ext hu53
                  replace hCa := hCa.ext hu53
                  replace hIa := hIa.ext hu53
                  replace hB23 := hB23.ext hu53
                  replace hB26 := hB26.ext hu53
                  replace hB29 := hB29.ext hu53
                  rw [(hW2).1]
                  rw [(hW2).2] at hCb
                  obtain ⟨u_b, hu_b⟩ : ∃ n, n = w53.heap.size := ⟨_, rfl⟩
                  rw [← hs_b, ← hu_b] at hPb hCb hIb
                  refine L_op rfl (X_move (v := (.tuple #[(.agg #[p_b, c_b, i_b, (.bool (off))]), (.int .i64 (0))])) rfl ?_)
                  refine L_op rfl (X_extract (l := [(.agg #[p_b, c_b, i_b, (.bool (off))]), (.int .i64 (0))]) (v := (.agg #[p_b, c_b, i_b, (.bool (off))])) rfl rfl ?_)
                  refine L_op rfl (X_extract (l := [(.agg #[p_b, c_b, i_b, (.bool (off))]), (.int .i64 (0))]) (v := (.int .i64 (0))) rfl rfl ?_)
                  refine L_op rfl (X_alloc (z := (.agg #[(.slice none 0 0), (.slice none 0 0), (.slice none 0 0), (.bool (false))])) (c := #[(.slice none 0 0), (.slice none 0 0), (.slice none 0 0), (.bool (false))]) Zv26 rfl ?_)
                  intro b54 w54 hn54
                  have hbn54 := hn54.num; have hbs54 := hn54.size
                  replace hp := hp.ext hn54.ext
                  replace hc := hc.ext hn54.ext
                  replace hb := hb.ext hn54.ext
                  replace hU := hU.trans (Ext.upd hn54.ext)
                  replace hB1 := hB1.ext hn54.ext
                  replace hB2 := hB2.ext hn54.ext
                  replace hB3 := hB3.ext hn54.ext
                  replace hB20 := hB20.ext hn54.ext
                  replace hPa := hPa.ext hn54.ext
                  replace hCa := hCa.ext hn54.ext
                  replace hIa := hIa.ext hn54.ext
                  replace hB23 := hB23.ext hn54.ext
                  replace hB26 := hB26.ext hn54.ext
                  replace hB29 := hB29.ext hn54.ext
                  replace hPb := hPb.ext hn54.ext
                  replace hCb := hCb.ext hn54.ext
                  replace hIb := hIb.ext hn54.ext
                  have hB54 := hn54.blk
                  refine L_op0 (X_storeW (b := b54) (ys := [p_b, c_b, i_b, (.bool (off))]) A26 rfl rfl (List.forall_mem_cons.2 ⟨(hPb.1.sv.one), (List.forall_mem_cons.2 ⟨(hCb.1.sv.one), (List.forall_mem_cons.2 ⟨(hIb.1.sv.one), (List.forall_mem_cons.2 ⟨rfl, (fun _ h => by cases h)⟩)⟩)⟩)⟩) rfl hB54 rfl ?_)
                  intro w55 hu55 hb55
                  have hz55 := hu55.size
                  replace hp := hp.upd hu55 fun i h1 h2 h => by have h : i = b54 := h; omega
                  replace hc := hc.upd hu55 fun i h1 h2 h => by have h : i = b54 := h; omega
                  replace hb := hb.upd hu55 fun i h1 h2 h => by have h : i = b54 := h; omega
                  replace hU := hU.trans (hu55.mono fun i _ h => by have h : i = b54 := h; show n0 ≤ i; omega)
                  replace hB1 := hB1.upd hu55 fun h => by have h : b1 = b54 := h; omega
                  replace hB2 := hB2.upd hu55 fun h => by have h : b2 = b54 := h; omega
                  replace hB3 := hB3.upd hu55 fun h => by have h : b3 = b54 := h; omega
                  replace hB20 := hB20.upd hu55 fun h => by have h : b20 = b54 := h; omega
                  replace hPa := hPa.upd hu55 fun i h1 h2 h => by have h : i = b54 := h; omega
                  replace hCa := hCa.upd hu55 fun i h1 h2 h => by have h : i = b54 := h; omega
                  replace hIa := hIa.upd hu55 fun i h1 h2 h => by have h : i = b54 := h; omega
                  replace hB23 := hB23.upd hu55 fun h => by have h : b23 = b54 := h; omega
                  replace hB26 := hB26.upd hu55 fun h => by have h : b26 = b54 := h; omega
                  replace hB29 := hB29.upd hu55 fun h => by have h : b29 = b54 := h; omega
                  replace hPb := hPb.upd hu55 fun i h1 h2 h => by have h : i = b54 := h; omega
                  replace hCb := hCb.upd hu55 fun i h1 h2 h => by have h : i = b54 := h; omega
                  replace hIb := hIb.upd hu55 fun i h1 h2 h => by have h : i = b54 := h; omega
                  replace hB54 : Blk w55 b54 #[p_b, c_b, i_b, (.bool (off))] 26 := hb55
                  refine L_op rfl (X_assign (v := (.int .i64 (0))) rfl ?_)
                  refine L_nil ?_
                  refine T_n ?_
                  refine W_seq ?_
                  refine W_reg ?_
                  refine L_op rfl (X_loadA (p := (ptr b54 (0))) (xs := [p_b, c_b, i_b, (.bool (off))]) A26 rfl hB54.atAll rfl ?_)
                  refine L_op rfl (X_move (v := (.int .i64 (m))) rfl ?_)
                  refine L_op rfl (X_fn (vs := [(.agg ([p_b, c_b, i_b, (.bool (off))]).toArray), (.int .i64 (m))]) en11 rfl (CT.mono (c_read p_b c_b i_b ps (cs ++ [(m, p)] ++ [(m, q)]) bs off m _ s_b u_b (by omega) hPb.rd hCb.rd hIb.rd) ?_))
                  rintro _ w56 ⟨rfl, hu56⟩
                  have hz56 := hu56.size
                  replace hp := hp.ext hu56
                  replace hc := hc.ext hu56
                  replace hb := hb.ext hu56
                  replace hU := hU.trans (Ext.upd hu56)
                  replace hB1 := hB1.ext hu56
                  replace hB2 := hB2.ext hu56
                  replace hB3 := hB3.ext hu56
                  replace hB20 := hB20.ext hu56
                  replace hPa := hPa.ext hu56
                  replace hCa := hCa.ext hu56
                  replace hIa := hIa.ext hu56
                  replace hB23 := hB23.ext hu56
                  replace hB26 := hB26.ext hu56
                  replace hB29 := hB29.ext hu56
                  replace hPb := hPb.ext hu56
                  replace hCb := hCb.ext hu56
                  replace hIb := hIb.ext hu56
                  replace hB54 := hB54.ext hu56
                  rw [show readE ps (cs ++ [(m, p)] ++ [(m, q)]) bs off m = (q, 0) from (readE_ok hzm2).trans hx2]
                  refine L_op rfl (X_move (v := (.tuple #[(pageV q), (.int .i64 (0))])) rfl ?_)
                  refine L_op rfl (X_extract (l := [(pageV q), (.int .i64 (0))]) (v := (pageV q)) rfl rfl ?_)
                  refine L_op rfl (X_extract (l := [(pageV q), (.int .i64 (0))]) (v := (.int .i64 (0))) rfl rfl ?_)
                  refine L_op0 (X_storeW (b := b26) (ys := ((q.1).map byteV)) A28 rfl rfl (byteV_one _) (by rw [List.length_map]; exact q.2) hB26 (by rw [List.size_toArray]; exact (by rw [List.length_map]; exact p.2)) ?_)
                  intro w57 hu57 hb57
                  have hz57 := hu57.size
                  replace hp := hp.upd hu57 fun i h1 h2 h => by have h : i = b26 := h; omega
                  replace hc := hc.upd hu57 fun i h1 h2 h => by have h : i = b26 := h; omega
                  replace hb := hb.upd hu57 fun i h1 h2 h => by have h : i = b26 := h; omega
                  replace hU := hU.trans (hu57.mono fun i _ h => by have h : i = b26 := h; show n0 ≤ i; omega)
                  replace hB1 := hB1.upd hu57 fun h => by have h : b1 = b26 := h; omega
                  replace hB2 := hB2.upd hu57 fun h => by have h : b2 = b26 := h; omega
                  replace hB3 := hB3.upd hu57 fun h => by have h : b3 = b26 := h; omega
                  replace hB20 := hB20.upd hu57 fun h => by have h : b20 = b26 := h; omega
                  replace hPa := hPa.upd hu57 fun i h1 h2 h => by have h : i = b26 := h; omega
                  replace hCa := hCa.upd hu57 fun i h1 h2 h => by have h : i = b26 := h; omega
                  replace hIa := hIa.upd hu57 fun i h1 h2 h => by have h : i = b26 := h; omega
                  replace hB23 := hB23.upd hu57 fun h => by have h : b23 = b26 := h; omega
                  replace hB29 := hB29.upd hu57 fun h => by have h : b29 = b26 := h; omega
                  replace hPb := hPb.upd hu57 fun i h1 h2 h => by have h : i = b26 := h; omega
                  replace hCb := hCb.upd hu57 fun i h1 h2 h => by have h : i = b26 := h; omega
                  replace hIb := hIb.upd hu57 fun i h1 h2 h => by have h : i = b26 := h; omega
                  replace hB54 := hB54.upd hu57 fun h => by have h : b54 = b26 := h; omega
                  replace hB26 := hb57
                  refine L_op rfl (X_assign (v := (.int .i64 (0))) rfl ?_)
                  refine L_nil ?_
                  refine T_n ?_
                  refine W_seq ?_
                  refine W_reg ?_
                  refine L_op rfl (X_loadA (p := (ptr b54 (0))) (xs := [p_b, c_b, i_b, (.bool (off))]) A26 rfl hB54.atAll rfl ?_)
                  obtain ⟨s_c, hs_c⟩ : ∃ n, n = w57.heap.size := ⟨_, rfl⟩
                  refine L_op rfl (X_fn (vs := [(.agg ([p_b, c_b, i_b, (.bool (off))]).toArray)]) en13 rfl (CT.mono (c_flush p_b c_b i_b ps (cs ++ [(m, p)] ++ [(m, q)]) bs off _ s_b u_b (by omega) hPb.rd hCb.rd hIb.rd (by omega) (by simp only [List.length_append, List.length_singleton]; omega) (by omega)) ?_))
                  rintro _ w58 ⟨p_c, c_c, i_c, qsc, dsc, asc, rfl, hPc, hCc, hIc, hokc, _, hu58⟩
                  have hz58 := hu58.size
                  replace hp := hp.ext hu58
                  replace hc := hc.ext hu58
                  replace hb := hb.ext hu58
                  replace hU := hU.trans (Ext.upd hu58)
                  replace hB1 := hB1.ext hu58
                  replace hB2 := hB2.ext hu58
                  replace hB3 := hB3.ext hu58
                  replace hB20 := hB20.ext hu58
                  replace hPa := hPa.ext hu58
                  replace hCa := hCa.ext hu58
                  replace hIa := hIa.ext hu58
                  replace hB23 := hB23.ext hu58
                  replace hB29 := hB29.ext hu58
                  replace hPb := hPb.ext hu58
                  replace hCb := hCb.ext hu58
                  replace hIb := hIb.ext hu58
                  replace hB54 := hB54.ext hu58
                  replace hB26 := hB26.ext hu58
                  obtain ⟨rfl, rfl, rfl⟩ := hokc hz02
                  rw [hz02]
                  obtain ⟨u_c, hu_c⟩ : ∃ n, n = w58.heap.size := ⟨_, rfl⟩
                  rw [← hs_c, ← hu_c] at hPc hCc hIc
                  refine L_op rfl (X_move (v := (.tuple #[(.agg #[p_c, c_c, i_c, (.bool (off))]), (.int .i64 (0))])) rfl ?_)
                  refine L_op rfl (X_extract (l := [(.agg #[p_c, c_c, i_c, (.bool (off))]), (.int .i64 (0))]) (v := (.agg #[p_c, c_c, i_c, (.bool (off))])) rfl rfl ?_)
                  refine L_op rfl (X_extract (l := [(.agg #[p_c, c_c, i_c, (.bool (off))]), (.int .i64 (0))]) (v := (.int .i64 (0))) rfl rfl ?_)
                  refine L_op rfl (X_alloc (z := (.agg #[(.slice none 0 0), (.slice none 0 0), (.slice none 0 0), (.bool (false))])) (c := #[(.slice none 0 0), (.slice none 0 0), (.slice none 0 0), (.bool (false))]) Zv26 rfl ?_)
                  intro b59 w59 hn59
                  have hbn59 := hn59.num; have hbs59 := hn59.size
                  replace hp := hp.ext hn59.ext
                  replace hc := hc.ext hn59.ext
                  replace hb := hb.ext hn59.ext
                  replace hU := hU.trans (Ext.upd hn59.ext)
                  replace hB1 := hB1.ext hn59.ext
                  replace hB2 := hB2.ext hn59.ext
                  replace hB3 := hB3.ext hn59.ext
                  replace hB20 := hB20.ext hn59.ext
                  replace hPa := hPa.ext hn59.ext
                  replace hCa := hCa.ext hn59.ext
                  replace hIa := hIa.ext hn59.ext
                  replace hB23 := hB23.ext hn59.ext
                  replace hB29 := hB29.ext hn59.ext
                  replace hPb := hPb.ext hn59.ext
                  replace hCb := hCb.ext hn59.ext
                  replace hIb := hIb.ext hn59.ext
                  replace hB54 := hB54.ext hn59.ext
                  replace hB26 := hB26.ext hn59.ext
                  replace hPc := hPc.ext hn59.ext
                  replace hCc := hCc.ext hn59.ext
                  replace hIc := hIc.ext hn59.ext
                  have hB59 := hn59.blk
                  refine L_op0 (X_storeW (b := b59) (ys := [p_c, c_c, i_c, (.bool (off))]) A26 rfl rfl (List.forall_mem_cons.2 ⟨(hPc.1.sv.one), (List.forall_mem_cons.2 ⟨(hCc.1.sv.one), (List.forall_mem_cons.2 ⟨(hIc.1.sv.one), (List.forall_mem_cons.2 ⟨rfl, (fun _ h => by cases h)⟩)⟩)⟩)⟩) rfl hB59 rfl ?_)
                  intro w60 hu60 hb60
                  have hz60 := hu60.size
                  replace hp := hp.upd hu60 fun i h1 h2 h => by have h : i = b59 := h; omega
                  replace hc := hc.upd hu60 fun i h1 h2 h => by have h : i = b59 := h; omega
                  replace hb := hb.upd hu60 fun i h1 h2 h => by have h : i = b59 := h; omega
                  replace hU := hU.trans (hu60.mono fun i _ h => by have h : i = b59 := h; show n0 ≤ i; omega)
                  replace hB1 := hB1.upd hu60 fun h => by have h : b1 = b59 := h; omega
                  replace hB2 := hB2.upd hu60 fun h => by have h : b2 = b59 := h; omega
                  replace hB3 := hB3.upd hu60 fun h => by have h : b3 = b59 := h; omega
                  replace hB20 := hB20.upd hu60 fun h => by have h : b20 = b59 := h; omega
                  replace hPa := hPa.upd hu60 fun i h1 h2 h => by have h : i = b59 := h; omega
                  replace hCa := hCa.upd hu60 fun i h1 h2 h => by have h : i = b59 := h; omega
                  replace hIa := hIa.upd hu60 fun i h1 h2 h => by have h : i = b59 := h; omega
                  replace hB23 := hB23.upd hu60 fun h => by have h : b23 = b59 := h; omega
                  replace hB29 := hB29.upd hu60 fun h => by have h : b29 = b59 := h; omega
                  replace hPb := hPb.upd hu60 fun i h1 h2 h => by have h : i = b59 := h; omega
                  replace hCb := hCb.upd hu60 fun i h1 h2 h => by have h : i = b59 := h; omega
                  replace hIb := hIb.upd hu60 fun i h1 h2 h => by have h : i = b59 := h; omega
                  replace hB54 := hB54.upd hu60 fun h => by have h : b54 = b59 := h; omega
                  replace hB26 := hB26.upd hu60 fun h => by have h : b26 = b59 := h; omega
                  replace hPc := hPc.upd hu60 fun i h1 h2 h => by have h : i = b59 := h; omega
                  replace hCc := hCc.upd hu60 fun i h1 h2 h => by have h : i = b59 := h; omega
                  replace hIc := hIc.upd hu60 fun i h1 h2 h => by have h : i = b59 := h; omega
                  replace hB59 : Blk w60 b59 #[p_c, c_c, i_c, (.bool (off))] 26 := hb60
                  refine L_op rfl (X_assign (v := (.int .i64 (0))) rfl ?_)
                  refine L_nil ?_
                  refine T_n ?_
                  refine W_seq ?_
                  refine W_reg ?_
                  refine L_op rfl (X_loadA (p := (ptr b59 (0))) (xs := [p_c, c_c, i_c, (.bool (off))]) A26 rfl hB59.atAll rfl ?_)
                  refine L_op rfl (X_move (v := (.int .i64 (m))) rfl ?_)
                  refine L_op rfl (X_fn (vs := [(.agg ([p_c, c_c, i_c, (.bool (off))]).toArray), (.int .i64 (m))]) en11 rfl (CT.mono (c_read p_c c_c i_c (flP ps (cs ++ [(m, p)] ++ [(m, q)])) [] (flB bs (cs ++ [(m, p)] ++ [(m, q)])) off m _ s_c u_c (by omega) hPc.rd hCc.rd hIc.rd) ?_))
                  rintro _ w61 ⟨rfl, hu61⟩
                  have hz61 := hu61.size
                  replace hp := hp.ext hu61
                  replace hc := hc.ext hu61
                  replace hb := hb.ext hu61
                  replace hU := hU.trans (Ext.upd hu61)
                  replace hB1 := hB1.ext hu61
                  replace hB2 := hB2.ext hu61
                  replace hB3 := hB3.ext hu61
                  replace hB20 := hB20.ext hu61
                  replace hPa := hPa.ext hu61
                  replace hCa := hCa.ext hu61
                  replace hIa := hIa.ext hu61
                  replace hB23 := hB23.ext hu61
                  replace hB29 := hB29.ext hu61
                  replace hPb := hPb.ext hu61
                  replace hCb := hCb.ext hu61
                  replace hIb := hIb.ext hu61
                  replace hB54 := hB54.ext hu61
                  replace hB26 := hB26.ext hu61
                  replace hPc := hPc.ext hu61
                  replace hCc := hCc.ext hu61
                  replace hIc := hIc.ext hu61
                  replace hB59 := hB59.ext hu61
                  rw [show readE (flP ps (cs ++ [(m, p)] ++ [(m, q)])) [] (flB bs (cs ++ [(m, p)] ++ [(m, q)])) off m = (q, 0) from (readE_ok hzm3).trans hx3]
                  refine L_op rfl (X_move (v := (.tuple #[(pageV q), (.int .i64 (0))])) rfl ?_)
                  refine L_op rfl (X_extract (l := [(pageV q), (.int .i64 (0))]) (v := (pageV q)) rfl rfl ?_)
                  refine L_op rfl (X_extract (l := [(pageV q), (.int .i64 (0))]) (v := (.int .i64 (0))) rfl rfl ?_)
                  refine L_op rfl (X_alloc (z := zv28) (c := zc28.toArray) Zv28 rfl ?_)
                  intro b62 w62 hn62
                  have hbn62 := hn62.num; have hbs62 := hn62.size
                  replace hp := hp.ext hn62.ext
                  replace hc := hc.ext hn62.ext
                  replace hb := hb.ext hn62.ext
                  replace hU := hU.trans (Ext.upd hn62.ext)
                  replace hB1 := hB1.ext hn62.ext
                  replace hB2 := hB2.ext hn62.ext
                  replace hB3 := hB3.ext hn62.ext
                  replace hB20 := hB20.ext hn62.ext
                  replace hPa := hPa.ext hn62.ext
                  replace hCa := hCa.ext hn62.ext
                  replace hIa := hIa.ext hn62.ext
                  replace hB23 := hB23.ext hn62.ext
                  replace hB29 := hB29.ext hn62.ext
                  replace hPb := hPb.ext hn62.ext
                  replace hCb := hCb.ext hn62.ext
                  replace hIb := hIb.ext hn62.ext
                  replace hB54 := hB54.ext hn62.ext
                  replace hB26 := hB26.ext hn62.ext
                  replace hPc := hPc.ext hn62.ext
                  replace hCc := hCc.ext hn62.ext
                  replace hIc := hIc.ext hn62.ext
                  replace hB59 := hB59.ext hn62.ext
                  have hB62 := hn62.blk
                  rw [zc28_eq] at hB62
                  refine L_op0 (X_storeW (b := b62) (ys := ((q.1).map byteV)) A28 rfl rfl (byteV_one _) (by rw [List.length_map]; exact q.2) hB62 (by rw [List.size_toArray]; exact (by rw [List.length_map]; exact List.length_replicate)) ?_)
                  intro w63 hu63 hb63
                  have hz63 := hu63.size
                  replace hp := hp.upd hu63 fun i h1 h2 h => by have h : i = b62 := h; omega
                  replace hc := hc.upd hu63 fun i h1 h2 h => by have h : i = b62 := h; omega
                  replace hb := hb.upd hu63 fun i h1 h2 h => by have h : i = b62 := h; omega
                  replace hU := hU.trans (hu63.mono fun i _ h => by have h : i = b62 := h; show n0 ≤ i; omega)
                  replace hB1 := hB1.upd hu63 fun h => by have h : b1 = b62 := h; omega
                  replace hB2 := hB2.upd hu63 fun h => by have h : b2 = b62 := h; omega
                  replace hB3 := hB3.upd hu63 fun h => by have h : b3 = b62 := h; omega
                  replace hB20 := hB20.upd hu63 fun h => by have h : b20 = b62 := h; omega
                  replace hPa := hPa.upd hu63 fun i h1 h2 h => by have h : i = b62 := h; omega
                  replace hCa := hCa.upd hu63 fun i h1 h2 h => by have h : i = b62 := h; omega
                  replace hIa := hIa.upd hu63 fun i h1 h2 h => by have h : i = b62 := h; omega
                  replace hB23 := hB23.upd hu63 fun h => by have h : b23 = b62 := h; omega
                  replace hB29 := hB29.upd hu63 fun h => by have h : b29 = b62 := h; omega
                  replace hPb := hPb.upd hu63 fun i h1 h2 h => by have h : i = b62 := h; omega
                  replace hCb := hCb.upd hu63 fun i h1 h2 h => by have h : i = b62 := h; omega
                  replace hIb := hIb.upd hu63 fun i h1 h2 h => by have h : i = b62 := h; omega
                  replace hB54 := hB54.upd hu63 fun h => by have h : b54 = b62 := h; omega
                  replace hB26 := hB26.upd hu63 fun h => by have h : b26 = b62 := h; omega
                  replace hPc := hPc.upd hu63 fun i h1 h2 h => by have h : i = b62 := h; omega
                  replace hCc := hCc.upd hu63 fun i h1 h2 h => by have h : i = b62 := h; omega
                  replace hIc := hIc.upd hu63 fun i h1 h2 h => by have h : i = b62 := h; omega
                  replace hB59 := hB59.upd hu63 fun h => by have h : b59 = b62 := h; omega
                  replace hB62 := hb63
                  refine L_op rfl (X_assign (v := (.int .i64 (0))) rfl ?_)
                  refine L_nil ?_
                  refine T_n ?_
                  refine W_seq ?_
                  refine W_seq ?_
                  refine W_reg ?_
                  refine L_op rfl (X_move (v := (.int .i64 (0))) rfl ?_)
                  refine L_op rfl (X_cmp (k := .i64) (a := 0) (b := 0) (r := false) rfl rfl rfl rfl ?_)
                  refine L_op rfl (X_move (v := (.bool (false))) rfl ?_)
                  refine L_gy (dj := 135) rfl rfl rfl (X_move (v := (.int .i64 (0))) rfl ?_)
                  refine L_gy (dj := 135) rfl rfl rfl (X_cmp (k := .i64) (a := 0) (b := 0) (r := false) rfl rfl rfl rfl ?_)
                  refine L_op rfl (X_pick (t := false) (v := (.bool (false))) rfl rfl ?_)
                  refine L_op rfl (X_move (v := (.bool (false))) rfl ?_)
                  refine L_gy (dj := 139) rfl rfl rfl (X_loadA (p := (ptr b26 (0))) (xs := ((q.1).map byteV)) A28 rfl hB26.atAll (by rw [List.length_map]; exact q.2) ?_)
                  refine L_gy (dj := 139) rfl rfl rfl (X_loadA (p := (ptr b3 (0))) (xs := ((q.1).map byteV)) A28 rfl hB3.atAll (by rw [List.length_map]; exact q.2) ?_)
                  refine L_gy (dj := 139) rfl rfl rfl (X_eqA (n := 256) (l := q.1) (m := q.1) (r := false) Try.underlying28 Try.underlying5 (by kernel_rfl) (by kernel_rfl) (by kernel_rfl) rfl rfl (q.2) (q.2) (.inr ⟨rfl, (by rw [beq_self_eq_true]; rfl)⟩) ?_)
                  refine L_op rfl (X_pick (t := false) (v := (.bool (false))) rfl rfl ?_)
                  refine L_op rfl (X_move (v := (.bool (false))) rfl ?_)
                  refine L_gy (dj := 144) rfl rfl rfl (X_move (v := (.int .i64 (0))) rfl ?_)
                  refine L_gy (dj := 144) rfl rfl rfl (X_cmp (k := .i64) (a := 0) (b := 0) (r := false) rfl rfl rfl rfl ?_)
                  refine L_op rfl (X_pick (t := false) (v := (.bool (false))) rfl rfl ?_)
                  refine L_op rfl (X_move (v := (.bool (false))) rfl ?_)
                  refine L_gy (dj := 148) rfl rfl rfl (X_move (v := (.int .i64 (0))) rfl ?_)
                  refine L_gy (dj := 148) rfl rfl rfl (X_cmp (k := .i64) (a := 0) (b := 0) (r := false) rfl rfl rfl rfl ?_)
                  refine L_op rfl (X_pick (t := false) (v := (.bool (false))) rfl rfl ?_)
                  refine L_op rfl (X_move (v := (.bool (false))) rfl ?_)
                  refine L_gy (dj := 152) rfl rfl rfl (X_loadA (p := (ptr b62 (0))) (xs := ((q.1).map byteV)) A28 rfl hB62.atAll (by rw [List.length_map]; exact q.2) ?_)
                  refine L_gy (dj := 152) rfl rfl rfl (X_loadA (p := (ptr b3 (0))) (xs := ((q.1).map byteV)) A28 rfl hB3.atAll (by rw [List.length_map]; exact q.2) ?_)
                  refine L_gy (dj := 152) rfl rfl rfl (X_eqA (n := 256) (l := q.1) (m := q.1) (r := false) Try.underlying28 Try.underlying5 (by kernel_rfl) (by kernel_rfl) (by kernel_rfl) rfl rfl (q.2) (q.2) (.inr ⟨rfl, (by rw [beq_self_eq_true]; rfl)⟩) ?_)
                  refine L_op rfl (X_pick (t := false) (v := (.bool (false))) rfl rfl ?_)
                  refine L_op rfl (X_move (v := (.bool (false))) rfl ?_)
                  refine L_gy (dj := 157) rfl rfl rfl (X_loadA (p := (ptr b59 (0))) (xs := [p_c, c_c, i_c, (.bool (off))]) A26 rfl hB59.atAll rfl ?_)
                  refine L_gy (dj := 157) rfl rfl rfl (X_fn (vs := [(.agg ([p_c, c_c, i_c, (.bool (off))]).toArray)]) en14 rfl (CT.mono (c_waits0 p_c c_c i_c off _ hCc.1.sv) ?_))
                  rintro _ w64 ⟨rfl, hu64⟩
                  have hz64 := hu64.size
                  replace hp := hp.ext hu64
                  replace hc := hc.ext hu64
                  replace hb := hb.ext hu64
                  replace hU := hU.trans (Ext.upd hu64)
                  replace hB1 := hB1.ext hu64
                  replace hB2 := hB2.ext hu64
                  replace hB3 := hB3.ext hu64
                  replace hB20 := hB20.ext hu64
                  replace hPa := hPa.ext hu64
                  replace hCa := hCa.ext hu64
                  replace hIa := hIa.ext hu64
                  replace hB23 := hB23.ext hu64
                  replace hB29 := hB29.ext hu64
                  replace hPb := hPb.ext hu64
                  replace hCb := hCb.ext hu64
                  replace hIb := hIb.ext hu64
                  replace hB54 := hB54.ext hu64
                  replace hB26 := hB26.ext hu64
                  replace hPc := hPc.ext hu64
                  replace hCc := hCc.ext hu64
                  replace hIc := hIc.ext hu64
                  replace hB59 := hB59.ext hu64
                  replace hB62 := hB62.ext hu64
                  refine L_gy (dj := 157) rfl rfl rfl (X_len (v := (.slice none 0 0)) (n := 0) Try.underlying24 rfl (Own.nil w 0 5 1).sv ?_)
                  refine L_gy (dj := 157) rfl rfl rfl (X_cmp (k := .i64) (a := 0) (b := 0) (r := false) rfl rfl rfl rfl ?_)
                  refine L_op rfl (X_pick (t := false) (v := (.bool (false))) rfl rfl ?_)
                  refine L_op rfl (X_move (v := (.bool (false))) rfl ?_)
                  refine L_gy (dj := 163) rfl rfl rfl (X_fldP (b := b59) (o := 0) (r := 0) Fd26_0 rfl rfl ?_)
                  refine L_gy (dj := 163) rfl rfl rfl (X_load (p := (ptr b59 (0))) (v := p_c) T22 rfl (hB59.at1 rfl) ?_)
                  refine L_gy (dj := 163) rfl rfl rfl (X_len (v := p_c) (n := (flP ps (cs ++ [(m, p)] ++ [(m, q)])).length) Try.underlying22 rfl hPc.1.sv ?_)
                  refine L_gy (dj := 163) rfl rfl rfl (X_fldP (b := b1) (o := 0) (r := 0) Fd26_0 rfl rfl ?_)
                  refine L_gy (dj := 163) rfl rfl rfl (X_load (p := (ptr b1 (0))) (v := pv) T22 rfl (hB1.at1 rfl) ?_)
                  refine L_gy (dj := 163) rfl rfl rfl (X_len (v := pv) (n := ps.length) Try.underlying22 rfl hp.sv ?_)
                  refine L_gy (dj := 163) rfl rfl rfl (X_cmp (k := .i64) (a := (((flP ps (cs ++ [(m, p)] ++ [(m, q)])).length : Nat) : Int)) (b := ((ps.length : Nat) : Int)) (r := false) rfl rfl rfl (decide_eq_false (p := (((((flP ps (cs ++ [(m, p)] ++ [(m, q)])).length : Nat) : Int)) : Int) ≠ ((((ps.length : Nat) : Int)) : Int)) (by omega)) ?_)
                  refine L_op rfl (X_pick (t := false) (v := (.bool (false))) rfl rfl ?_)
                  refine L_nil ?_
                  refine T_n ?_
                  refine W_cf rfl ?_
                  refine W_skip ?_
                  refine T_n ?_
                  refine W_seq ?_
                  refine W_reg ?_
                  refine L_op rfl (X_loadA (p := (ptr b59 (0))) (xs := [p_c, c_c, i_c, (.bool (off))]) A26 rfl hB59.atAll rfl ?_)
                  refine L_op rfl (X_move (v := (.int .i64 (n))) rfl ?_)
                  refine L_op rfl (X_fn (vs := [(.agg ([p_c, c_c, i_c, (.bool (off))]).toArray), (.int .i64 (n))]) en11 rfl (CT.mono (c_read p_c c_c i_c (flP ps (cs ++ [(m, p)] ++ [(m, q)])) [] (flB bs (cs ++ [(m, p)] ++ [(m, q)])) off n _ s_c u_c (by omega) hPc.rd hCc.rd hIc.rd) ?_))
                  rintro _ w65 ⟨rfl, hu65⟩
                  have hz65 := hu65.size
                  replace hp := hp.ext hu65
                  replace hc := hc.ext hu65
                  replace hb := hb.ext hu65
                  replace hU := hU.trans (Ext.upd hu65)
                  replace hB1 := hB1.ext hu65
                  replace hB2 := hB2.ext hu65
                  replace hB3 := hB3.ext hu65
                  replace hB20 := hB20.ext hu65
                  replace hPa := hPa.ext hu65
                  replace hCa := hCa.ext hu65
                  replace hIa := hIa.ext hu65
                  replace hB23 := hB23.ext hu65
                  replace hB29 := hB29.ext hu65
                  replace hPb := hPb.ext hu65
                  replace hCb := hCb.ext hu65
                  replace hIb := hIb.ext hu65
                  replace hB54 := hB54.ext hu65
                  replace hB26 := hB26.ext hu65
                  replace hPc := hPc.ext hu65
                  replace hCc := hCc.ext hu65
                  replace hIc := hIc.ext hu65
                  replace hB59 := hB59.ext hu65
                  replace hB62 := hB62.ext hu65
                  rw [show readE (flP ps (cs ++ [(m, p)] ++ [(m, q)])) [] (flB bs (cs ++ [(m, p)] ++ [(m, q)])) off n = (pz, ez) from (readE_ok hzn3).trans hR3.symm]
                  refine L_op rfl (X_move (v := (.tuple #[(pageV pz), (.int .i64 (ez))])) rfl ?_)
                  refine L_op rfl (X_extract (l := [(pageV pz), (.int .i64 (ez))]) (v := (pageV pz)) rfl rfl ?_)
                  refine L_op rfl (X_extract (l := [(pageV pz), (.int .i64 (ez))]) (v := (.int .i64 (ez))) rfl rfl ?_)
                  refine L_op0 (X_storeW (b := b29) (ys := ((pz.1).map byteV)) A28 rfl rfl (byteV_one _) (by rw [List.length_map]; exact pz.2) hB29 (by rw [List.size_toArray]; exact (by rw [List.length_map]; exact py.2)) ?_)
                  intro w66 hu66 hb66
                  have hz66 := hu66.size
                  replace hp := hp.upd hu66 fun i h1 h2 h => by have h : i = b29 := h; omega
                  replace hc := hc.upd hu66 fun i h1 h2 h => by have h : i = b29 := h; omega
                  replace hb := hb.upd hu66 fun i h1 h2 h => by have h : i = b29 := h; omega
                  replace hU := hU.trans (hu66.mono fun i _ h => by have h : i = b29 := h; show n0 ≤ i; omega)
                  replace hB1 := hB1.upd hu66 fun h => by have h : b1 = b29 := h; omega
                  replace hB2 := hB2.upd hu66 fun h => by have h : b2 = b29 := h; omega
                  replace hB3 := hB3.upd hu66 fun h => by have h : b3 = b29 := h; omega
                  replace hB20 := hB20.upd hu66 fun h => by have h : b20 = b29 := h; omega
                  replace hPa := hPa.upd hu66 fun i h1 h2 h => by have h : i = b29 := h; omega
                  replace hCa := hCa.upd hu66 fun i h1 h2 h => by have h : i = b29 := h; omega
                  replace hIa := hIa.upd hu66 fun i h1 h2 h => by have h : i = b29 := h; omega
                  replace hB23 := hB23.upd hu66 fun h => by have h : b23 = b29 := h; omega
                  replace hPb := hPb.upd hu66 fun i h1 h2 h => by have h : i = b29 := h; omega
                  replace hCb := hCb.upd hu66 fun i h1 h2 h => by have h : i = b29 := h; omega
                  replace hIb := hIb.upd hu66 fun i h1 h2 h => by have h : i = b29 := h; omega
                  replace hB54 := hB54.upd hu66 fun h => by have h : b54 = b29 := h; omega
                  replace hB26 := hB26.upd hu66 fun h => by have h : b26 = b29 := h; omega
                  replace hPc := hPc.upd hu66 fun i h1 h2 h => by have h : i = b29 := h; omega
                  replace hCc := hCc.upd hu66 fun i h1 h2 h => by have h : i = b29 := h; omega
                  replace hIc := hIc.upd hu66 fun i h1 h2 h => by have h : i = b29 := h; omega
                  replace hB59 := hB59.upd hu66 fun h => by have h : b59 = b29 := h; omega
                  replace hB62 := hB62.upd hu66 fun h => by have h : b62 = b29 := h; omega
                  replace hB29 := hb66
                  refine L_op rfl (X_assign (v := (.int .i64 (ez))) rfl ?_)
                  refine L_nil ?_
                  refine T_n ?_
                  refine W_seq ?_
                  refine W_reg ?_
                  refine L_op rfl (X_move (v := (.int .i64 (n))) rfl ?_)
                  refine L_op rfl (X_move (v := (.int .i64 (m))) rfl ?_)
                  by_cases hc67 : (n : Int) = (m)
                  · refine L_op rfl (X_cmp (k := .i64) (a := n) (b := m) (r := true) rfl rfl rfl (decide_eq_true (p := ((n) : Int) = ((m) : Int)) (by omega)) ?_)
                    refine L_op rfl (X_move (v := (.bool (true))) rfl ?_)
                    refine L_gn (dj := 181) (t := true) rfl rfl rfl rfl ?_
                    refine L_gn (dj := 181) (t := true) rfl rfl rfl rfl ?_
                    refine L_gn (dj := 181) (t := true) rfl rfl rfl rfl ?_
                    refine L_gn (dj := 181) (t := true) rfl rfl rfl rfl ?_
                    refine L_gu (dj := 185) rfl rfl rfl ?_
                    refine L_gu (dj := 185) rfl rfl rfl ?_
                    refine L_gu (dj := 185) rfl rfl rfl ?_
                    refine L_gn (dj := 181) (t := true) rfl rfl rfl rfl ?_
                    refine L_op rfl (X_pick (t := true) (v := (.bool (true))) rfl rfl ?_)
                    refine L_op rfl (X_move (v := (.bool (true))) rfl ?_)
                    refine L_gy (dj := 191) rfl rfl rfl (X_loadA (p := (ptr b23 (0))) (xs := [p_a, c_a, i_a, (.bool (off))]) A26 rfl hB23.atAll rfl ?_)
                    refine L_gy (dj := 191) rfl rfl rfl (X_fn (vs := [(.agg ([p_a, c_a, i_a, (.bool (off))]).toArray)]) en15 rfl (CT.mono (c_may p_a c_a i_a ps (cs ++ [(m, p)]) bs off _ s_a u_a (by omega) hPa.rd hCa.rd hIa.rd) ?_))
                    rintro _ w68 ⟨⟨g68, rfl, hg68⟩, hu68⟩
                    have hz68 := hu68.size
                    replace hp := hp.ext hu68
                    replace hc := hc.ext hu68
                    replace hb := hb.ext hu68
                    replace hU := hU.trans (Ext.upd hu68)
                    replace hB1 := hB1.ext hu68
                    replace hB2 := hB2.ext hu68
                    replace hB3 := hB3.ext hu68
                    replace hB20 := hB20.ext hu68
                    replace hPa := hPa.ext hu68
                    replace hCa := hCa.ext hu68
                    replace hIa := hIa.ext hu68
                    replace hB23 := hB23.ext hu68
                    replace hPb := hPb.ext hu68
                    replace hCb := hCb.ext hu68
                    replace hIb := hIb.ext hu68
                    replace hB54 := hB54.ext hu68
                    replace hB26 := hB26.ext hu68
                    replace hPc := hPc.ext hu68
                    replace hCc := hCc.ext hu68
                    replace hIc := hIc.ext hu68
                    replace hB59 := hB59.ext hu68
                    replace hB62 := hB62.ext hu68
                    replace hB29 := hB29.ext hu68
                    obtain rfl : g68 = true := hg68.2 hM1
                    refine L_op rfl (X_pick (t := true) (v := (.bool (true))) rfl rfl ?_)
                    refine L_op rfl (X_move (v := (.bool (true))) rfl ?_)
                    refine L_gy (dj := 195) rfl rfl rfl (X_loadA (p := (ptr b59 (0))) (xs := [p_c, c_c, i_c, (.bool (off))]) A26 rfl hB59.atAll rfl ?_)
                    refine L_gy (dj := 195) rfl rfl rfl (X_fn (vs := [(.agg ([p_c, c_c, i_c, (.bool (off))]).toArray)]) en15 rfl (CT.mono (c_may p_c c_c i_c (flP ps (cs ++ [(m, p)] ++ [(m, q)])) [] (flB bs (cs ++ [(m, p)] ++ [(m, q)])) off _ s_c u_c (by omega) hPc.rd hCc.rd hIc.rd) ?_))
                    rintro _ w69 ⟨⟨g69, rfl, hg69⟩, hu69⟩
                    have hz69 := hu69.size
                    replace hp := hp.ext hu69
                    replace hc := hc.ext hu69
                    replace hb := hb.ext hu69
                    replace hU := hU.trans (Ext.upd hu69)
                    replace hB1 := hB1.ext hu69
                    replace hB2 := hB2.ext hu69
                    replace hB3 := hB3.ext hu69
                    replace hB20 := hB20.ext hu69
                    replace hPa := hPa.ext hu69
                    replace hCa := hCa.ext hu69
                    replace hIa := hIa.ext hu69
                    replace hB23 := hB23.ext hu69
                    replace hPb := hPb.ext hu69
                    replace hCb := hCb.ext hu69
                    replace hIb := hIb.ext hu69
                    replace hB54 := hB54.ext hu69
                    replace hB26 := hB26.ext hu69
                    replace hPc := hPc.ext hu69
                    replace hCc := hCc.ext hu69
                    replace hIc := hIc.ext hu69
                    replace hB59 := hB59.ext hu69
                    replace hB62 := hB62.ext hu69
                    replace hB29 := hB29.ext hu69
                    obtain rfl : g69 = true := hg69.2 hM3
                    refine L_op rfl (X_pick (t := true) (v := (.bool (true))) rfl rfl ?_)
                    refine L_op rfl (X_move (v := (.bool (true))) rfl ?_)
                    refine L_gy (dj := 199) rfl rfl rfl (X_fn (vs := []) en10 rfl (CT.mono (c_wakes _) ?_))
                    rintro vb70 w70 ⟨hvb70, hu70⟩
                    have hz70 := hu70.size
                    replace hp := hp.ext hu70
                    replace hc := hc.ext hu70
                    replace hb := hb.ext hu70
                    replace hU := hU.trans (Ext.upd hu70)
                    replace hB1 := hB1.ext hu70
                    replace hB2 := hB2.ext hu70
                    replace hB3 := hB3.ext hu70
                    replace hB20 := hB20.ext hu70
                    replace hPa := hPa.ext hu70
                    replace hCa := hCa.ext hu70
                    replace hIa := hIa.ext hu70
                    replace hB23 := hB23.ext hu70
                    replace hPb := hPb.ext hu70
                    replace hCb := hCb.ext hu70
                    replace hIb := hIb.ext hu70
                    replace hB54 := hB54.ext hu70
                    replace hB26 := hB26.ext hu70
                    replace hPc := hPc.ext hu70
                    replace hCc := hCc.ext hu70
                    replace hIc := hIc.ext hu70
                    replace hB59 := hB59.ext hu70
                    replace hB62 := hB62.ext hu70
                    replace hB29 := hB29.ext hu70
                    subst hvb70
                    refine L_op rfl (X_pick (t := true) (v := (.bool (true))) rfl rfl ?_)
                    refine L_op rfl (X_assign (v := (.bool (true))) rfl ?_)
                    refine L_nil ?_
                    refine T_n ?_
                    refine W_ret ?_
                    exact BQ_r (End_1 Try.results3 (v := .bool true) rfl ⟨rfl, hU.own hn0⟩)
                  · refine L_op rfl (X_cmp (k := .i64) (a := n) (b := m) (r := false) rfl rfl rfl (decide_eq_false (p := ((n) : Int) = ((m) : Int)) (by omega)) ?_)
                    have hmn2 : m ≠ n := fun h_ => hc67 h_.symm
                    refine L_op rfl (X_move (v := (.bool (false))) rfl ?_)
                    refine L_gy (dj := 181) rfl rfl rfl (X_loadA (p := (ptr b29 (0))) (xs := ((pz.1).map byteV)) A28 rfl hB29.atAll (by rw [List.length_map]; exact pz.2) ?_)
                    refine L_gy (dj := 181) rfl rfl rfl (X_loadA (p := (ptr b20 (0))) (xs := ((pw.1).map byteV)) A28 rfl hB20.atAll (by rw [List.length_map]; exact pw.2) ?_)
                    refine L_gy (dj := 181) rfl rfl rfl (X_eqA (n := 256) (l := pz.1) (m := pw.1) (r := true) Try.underlying28 Try.underlying5 (by kernel_rfl) (by kernel_rfl) (by kernel_rfl) rfl rfl (pz.2) (pw.2) (.inl ⟨rfl, (by rw [(hpz hmn2).1, beq_self_eq_true])⟩) ?_)
                    refine L_gy (dj := 181) rfl rfl rfl (X_move (v := (.bool (true))) rfl ?_)
                    refine L_gy (dj := 185) rfl rfl rfl (X_move (v := (.int .i64 (ez))) rfl ?_)
                    refine L_gy (dj := 185) rfl rfl rfl (X_move (v := (.int .i64 (ew))) rfl ?_)
                    refine L_gy (dj := 185) rfl rfl rfl (X_cmp (k := .i64) (a := ez) (b := ew) (r := true) rfl rfl rfl (decide_eq_true ((hpz hmn2).2)) ?_)
                    refine L_gy (dj := 181) rfl rfl rfl (X_pick (t := true) (v := (.bool (true))) rfl rfl ?_)
                    refine L_op rfl (X_pick (t := false) (v := (.bool (true))) rfl rfl ?_)
                    refine L_op rfl (X_move (v := (.bool (true))) rfl ?_)
                    refine L_gy (dj := 191) rfl rfl rfl (X_loadA (p := (ptr b23 (0))) (xs := [p_a, c_a, i_a, (.bool (off))]) A26 rfl hB23.atAll rfl ?_)
                    refine L_gy (dj := 191) rfl rfl rfl (X_fn (vs := [(.agg ([p_a, c_a, i_a, (.bool (off))]).toArray)]) en15 rfl (CT.mono (c_may p_a c_a i_a ps (cs ++ [(m, p)]) bs off _ s_a u_a (by omega) hPa.rd hCa.rd hIa.rd) ?_))
                    rintro _ w71 ⟨⟨g71, rfl, hg71⟩, hu71⟩
                    have hz71 := hu71.size
                    replace hp := hp.ext hu71
                    replace hc := hc.ext hu71
                    replace hb := hb.ext hu71
                    replace hU := hU.trans (Ext.upd hu71)
                    replace hB1 := hB1.ext hu71
                    replace hB2 := hB2.ext hu71
                    replace hB3 := hB3.ext hu71
                    replace hB20 := hB20.ext hu71
                    replace hPa := hPa.ext hu71
                    replace hCa := hCa.ext hu71
                    replace hIa := hIa.ext hu71
                    replace hB23 := hB23.ext hu71
                    replace hPb := hPb.ext hu71
                    replace hCb := hCb.ext hu71
                    replace hIb := hIb.ext hu71
                    replace hB54 := hB54.ext hu71
                    replace hB26 := hB26.ext hu71
                    replace hPc := hPc.ext hu71
                    replace hCc := hCc.ext hu71
                    replace hIc := hIc.ext hu71
                    replace hB59 := hB59.ext hu71
                    replace hB62 := hB62.ext hu71
                    replace hB29 := hB29.ext hu71
                    obtain rfl : g71 = true := hg71.2 hM1
                    refine L_op rfl (X_pick (t := true) (v := (.bool (true))) rfl rfl ?_)
                    refine L_op rfl (X_move (v := (.bool (true))) rfl ?_)
                    refine L_gy (dj := 195) rfl rfl rfl (X_loadA (p := (ptr b59 (0))) (xs := [p_c, c_c, i_c, (.bool (off))]) A26 rfl hB59.atAll rfl ?_)
                    refine L_gy (dj := 195) rfl rfl rfl (X_fn (vs := [(.agg ([p_c, c_c, i_c, (.bool (off))]).toArray)]) en15 rfl (CT.mono (c_may p_c c_c i_c (flP ps (cs ++ [(m, p)] ++ [(m, q)])) [] (flB bs (cs ++ [(m, p)] ++ [(m, q)])) off _ s_c u_c (by omega) hPc.rd hCc.rd hIc.rd) ?_))
                    rintro _ w72 ⟨⟨g72, rfl, hg72⟩, hu72⟩
                    have hz72 := hu72.size
                    replace hp := hp.ext hu72
                    replace hc := hc.ext hu72
                    replace hb := hb.ext hu72
                    replace hU := hU.trans (Ext.upd hu72)
                    replace hB1 := hB1.ext hu72
                    replace hB2 := hB2.ext hu72
                    replace hB3 := hB3.ext hu72
                    replace hB20 := hB20.ext hu72
                    replace hPa := hPa.ext hu72
                    replace hCa := hCa.ext hu72
                    replace hIa := hIa.ext hu72
                    replace hB23 := hB23.ext hu72
                    replace hPb := hPb.ext hu72
                    replace hCb := hCb.ext hu72
                    replace hIb := hIb.ext hu72
                    replace hB54 := hB54.ext hu72
                    replace hB26 := hB26.ext hu72
                    replace hPc := hPc.ext hu72
                    replace hCc := hCc.ext hu72
                    replace hIc := hIc.ext hu72
                    replace hB59 := hB59.ext hu72
                    replace hB62 := hB62.ext hu72
                    replace hB29 := hB29.ext hu72
                    obtain rfl : g72 = true := hg72.2 hM3
                    refine L_op rfl (X_pick (t := true) (v := (.bool (true))) rfl rfl ?_)
                    refine L_op rfl (X_move (v := (.bool (true))) rfl ?_)
                    refine L_gy (dj := 199) rfl rfl rfl (X_fn (vs := []) en10 rfl (CT.mono (c_wakes _) ?_))
                    rintro vb73 w73 ⟨hvb73, hu73⟩
                    have hz73 := hu73.size
                    replace hp := hp.ext hu73
                    replace hc := hc.ext hu73
                    replace hb := hb.ext hu73
                    replace hU := hU.trans (Ext.upd hu73)
                    replace hB1 := hB1.ext hu73
                    replace hB2 := hB2.ext hu73
                    replace hB3 := hB3.ext hu73
                    replace hB20 := hB20.ext hu73
                    replace hPa := hPa.ext hu73
                    replace hCa := hCa.ext hu73
                    replace hIa := hIa.ext hu73
                    replace hB23 := hB23.ext hu73
                    replace hPb := hPb.ext hu73
                    replace hCb := hCb.ext hu73
                    replace hIb := hIb.ext hu73
                    replace hB54 := hB54.ext hu73
                    replace hB26 := hB26.ext hu73
                    replace hPc := hPc.ext hu73
                    replace hCc := hCc.ext hu73
                    replace hIc := hIc.ext hu73
                    replace hB59 := hB59.ext hu73
                    replace hB62 := hB62.ext hu73
                    replace hB29 := hB29.ext hu73
                    subst hvb73
                    refine L_op rfl (X_pick (t := true) (v := (.bool (true))) rfl rfl ?_)
                    refine L_op rfl (X_assign (v := (.bool (true))) rfl ?_)
                    refine L_nil ?_
                    refine T_n ?_
                    refine W_ret ?_
                    exact BQ_r (End_1 Try.results3 (v := .bool true) rfl ⟨rfl, hU.own hn0⟩)
    · rw [hc8]
      refine L_gy (dj := 26) rfl rfl rfl (X_not (b := false) (r := true) rfl rfl ?_)
      refine L_op rfl (X_pick (t := false) (v := (.bool (true))) rfl rfl ?_)
      refine L_op rfl (X_move (v := (.bool (true))) rfl ?_)
      refine L_gn (dj := 31) (t := true) rfl rfl rfl rfl ?_
      refine L_gn (dj := 31) (t := true) rfl rfl rfl rfl ?_
      refine L_op rfl (X_pick (t := true) (v := (.bool (true))) rfl rfl ?_)
      refine L_op rfl (X_move (v := (.bool (true))) rfl ?_)
      refine L_gn (dj := 35) (t := true) rfl rfl rfl rfl ?_
      refine L_gn (dj := 35) (t := true) rfl rfl rfl rfl ?_
      refine L_op rfl (X_pick (t := true) (v := (.bool (true))) rfl rfl ?_)
      refine L_op rfl (X_move (v := (.bool (true))) rfl ?_)
      refine L_gn (dj := 39) (t := true) rfl rfl rfl rfl ?_
      refine L_gn (dj := 39) (t := true) rfl rfl rfl rfl ?_
      refine L_op rfl (X_pick (t := true) (v := (.bool (true))) rfl rfl ?_)
      refine L_op rfl (X_move (v := (.bool (true))) rfl ?_)
      refine L_gn (dj := 43) (t := true) rfl rfl rfl rfl ?_
      refine L_gn (dj := 43) (t := true) rfl rfl rfl rfl ?_
      refine L_gn (dj := 43) (t := true) rfl rfl rfl rfl ?_
      refine L_gn (dj := 43) (t := true) rfl rfl rfl rfl ?_
      refine L_gn (dj := 43) (t := true) rfl rfl rfl rfl ?_
      refine L_op rfl (X_pick (t := true) (v := (.bool (true))) rfl rfl ?_)
      refine L_op rfl (X_move (v := (.bool (true))) rfl ?_)
      refine L_gn (dj := 50) (t := true) rfl rfl rfl rfl ?_
      refine L_gn (dj := 50) (t := true) rfl rfl rfl rfl ?_
      refine L_gn (dj := 50) (t := true) rfl rfl rfl rfl ?_
      refine L_gn (dj := 50) (t := true) rfl rfl rfl rfl ?_
      refine L_gn (dj := 50) (t := true) rfl rfl rfl rfl ?_
      refine L_op rfl (X_pick (t := true) (v := (.bool (true))) rfl rfl ?_)
      refine L_nil ?_
      refine T_n ?_
      refine W_ct rfl ?_
      refine W_seq ?_
      refine W_reg ?_
      refine L_op rfl (X_fn (vs := []) en10 rfl (CT.mono (c_wakes _) ?_))
      rintro vb74 w74 ⟨hvb74, hu74⟩
      have hz74 := hu74.size
      replace hp := hp.ext hu74
      replace hc := hc.ext hu74
      replace hb := hb.ext hu74
      replace hU := hU.trans (Ext.upd hu74)
      replace hB1 := hB1.ext hu74
      replace hB2 := hB2.ext hu74
      replace hB3 := hB3.ext hu74
      subst hvb74
      refine L_op rfl (X_assign (v := (.bool (true))) rfl ?_)
      refine L_nil ?_
      refine T_n ?_
      refine W_ret ?_
      refine T_r ?_
      exact BQ_r (End_1 Try.results3 (v := .bool true) rfl ⟨rfl, hU.own hn0⟩)
end Go.Proofs.Ythongcaijgfojaa
