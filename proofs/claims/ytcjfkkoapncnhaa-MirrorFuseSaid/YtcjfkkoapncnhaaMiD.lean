/-
 The contracts of chapter 10: pairs, fuses. (Printed by wip/gen/t10d.py of this repo.)
-/
import Derived.Test.YtcjfkkoapncnhaaMiB
import Derived.Test.YtcjfkkoapncnhaaBasePR
namespace Go.Proofs.Ytcjfkkoapncnhaa
open Go Go.SL Go.Proofs
set_option linter.unusedVariables false

structure DD where
 (ps : List Pg) (cs : List Wr) (bs : List Int) (off : Bool)
def _root_.Go.SL.Dk.da (d : Dk) : DD := ⟨d.ps, d.cs, d.bs, d.off⟩
noncomputable def DD.ask (d : DD) (n : Int) : Int := askE d.ps.length d.cs d.bs d.off n
noncomputable def wrD (d : DD) (n : Int) (pg : Pg) : DD × Int := (⟨d.ps, writeC d.ps.length d.cs d.bs d.off n pg, d.bs, d.off⟩, wrE d.ps.length d.cs d.bs d.off n)
noncomputable def flD (d : DD) : DD × Int := (if d.ask 0 = 0 then ⟨flP d.ps d.cs, [], flB d.bs d.cs, d.off⟩ else d, d.ask 0)
structure PD where
 (a b : DD) (fz : Int) (dn : Bool)
def _root_.Go.SL.Pr.da (p : Pr) : PD := ⟨p.d0.da, p.d1.da, p.fz, p.dn⟩
def PD.dk (p : PD) : Nat → DD
 | 0 => p.a
 | _ + 1 => p.b
def PD.setD (p : PD) : Nat → DD → PD
 | 0, d => { p with a := d }
 | _ + 1, d => { p with b := d }
def burnD (p : PD) : PD × Bool := if p.dn = true then (p, false) else if p.fz = 0 then ({ p with dn := true }, false) else if 0 < p.fz then ({ p with fz := p.fz - 1 }, true) else (p, true)
def doesD (p : PD) (i : Nat) (g : DD → DD × Int) : PD × Int :=
 if (burnD p).2 = false then ((burnD p).1, 100) else if (g (p.dk i)).2 = 0 then ((burnD p).1.setD i (g (p.dk i)).1, 0) else ((burnD p).1, (g (p.dk i)).2)
noncomputable def putD (p : PD) (i : Nat) (n : Int) (pg : Pg) : PD × Int := doesD p i fun d => wrD d n pg
def readyD (p : PD) : Int := if p.dn = true then 100 else if p.a.off = true ∧ p.b.off = true then 30 else 0
def liveD (p : PD) : Int := (if p.a.off = true then 0 else 1) + (if p.b.off = true then 0 else 2)
abbrev MetaP (q : Pt) : Prop := q.1 = 1 ∨ q.1 = 2
def copL (q : Pt) : List (Int × Int) := if MetaP q then [(0, q.2.1), (0, q.2.2.1), (1, q.2.1), (1, q.2.2.1)] else [(0, q.2.1), (1, q.2.1)]
noncomputable def runL (pg : Pg) : PD → List (Int × Int) → PD × Int
 | p, [] => (p, 0)
 | p, x :: r => if (p.dk x.1.toNat).off = true then runL pg p r else if (putD p x.1.toNat x.2 pg).2 = 0 then runL pg (putD p x.1.toNat x.2 pg).1 r else putD p x.1.toNat x.2 pg
noncomputable def writeD (p : PD) (q : Pt) (pg : Pg) : PD × Int := if readyD p = 0 then runL pg p (copL q) else (p, readyD p)
noncomputable def flushS (p : PD) : PD × Int := if readyD p = 0 ∧ p.a.off = false then doesD p 0 flD else (p, readyD p)
noncomputable def flushD (p : PD) : PD × Int := if (flushS p).2 = 0 ∧ p.b.off = false then doesD (flushS p).1 1 flD else flushS p
def Sz (d : DD) (m : Nat) : Prop := d.ps.length ≤ m ∧ d.cs.length ≤ m ∧ d.bs.length ≤ m
theorem Sz.mono {d : DD} {m k : Nat} (h : Sz d m) (hk : m ≤ k) : Sz d k := ⟨Nat.le_trans h.1 hk, Nat.le_trans h.2.1 hk, Nat.le_trans h.2.2 hk⟩
theorem writeC_le (np : Nat) (cs : List Wr) (bs : List Int) (off : Bool) (n : Int) (pg : Pg) : (writeC np cs bs off n pg).length ≤ cs.length + 1 := by
 unfold writeC
 split
 ·rw [List.length_append]; exact Nat.le_refl _
 ·exact Nat.le_succ _
theorem wrD_sz {d : DD} {m : Nat} (h : Sz d m) (n : Int) (pg : Pg) : Sz (wrD d n pg).1 (m + 1) := ⟨Nat.le_succ_of_le h.1, Nat.le_trans (writeC_le _ _ _ _ _ _) (Nat.succ_le_succ h.2.1), Nat.le_succ_of_le h.2.2⟩
theorem flD_sz {d : DD} {m : Nat} (h : Sz d m) : Sz (flD d).1 m := by
 unfold flD
 show Sz (if d.ask 0 = 0 then _ else d) m
 split
 ·exact ⟨by show (flP d.ps d.cs).length ≤ m; rw [flP_length]; exact h.1, Nat.zero_le _, Nat.le_trans (flB_le _ _) h.2.2⟩
 ·exact h
theorem burn_a (p : PD) : (burnD p).1.a = p.a := by unfold burnD; split <;> (try split) <;> (try split) <;> rfl
theorem burn_b (p : PD) : (burnD p).1.b = p.b := by unfold burnD; split <;> (try split) <;> (try split) <;> rfl
theorem burn_dn {p : PD} (h : p.dn = true) : burnD p = (p, false) := if_pos h
theorem burn_0 {p : PD} (h : p.dn = false) (h0 : p.fz = 0) : burnD p = ({ p with dn := true }, false) := (if_neg (by rw [h]; decide)).trans (if_pos h0)
theorem burn_p {p : PD} (h : p.dn = false) (h0 : 0 < p.fz) : burnD p = ({ p with fz := p.fz - 1 }, true) := (if_neg (by rw [h]; decide)).trans ((if_neg (by omega)).trans (if_pos h0))
theorem burn_n {p : PD} (h : p.dn = false) (h0 : p.fz < 0) : burnD p = (p, true) := (if_neg (by rw [h]; decide)).trans ((if_neg (by omega)).trans (if_neg (by omega)))
theorem burn_fz (p : PD) (h : 0 ≤ (burnD p).1.fz ∨ (burnD p).1.fz < 0) : (burnD p).1.fz = p.fz ∨ ((burnD p).1.fz = p.fz - 1 ∧ 0 < p.fz) := by
 unfold burnD
 split
 ·exact .inl rfl
 ·split
  ·exact .inl rfl
  ·split
   ·exact .inr ⟨rfl, by assumption⟩
   ·exact .inl rfl

/-- a disk whose rows are owned, of their types -/
def _root_.Go.SL.Dk.Ow (w : World) (lo hi : Nat) (d : Dk) : Prop := NOwn LP w 37 5 lo hi d.pv d.ps ∧ NOwn LW w 63 5 lo hi d.cv d.cs ∧ NOwn LI w 3 5 lo hi d.bv d.bs
theorem _root_.Go.SL.Dk.Ow.rd {w : World} {d : Dk} {lo hi : Nat} (h : d.Ow w lo hi) : d.Rd w lo hi := ⟨h.1.rd, h.2.1.rd, h.2.2.rd⟩
theorem _root_.Go.SL.Dk.Ow.upd {w w' : World} {D : Nat → Prop} {d : Dk} {lo hi : Nat} (h : d.Ow w lo hi) (hu : Upd D w w') (hd : ∀ b, lo ≤ b → b < hi → ¬ D b) : d.Ow w' lo hi := ⟨h.1.upd hu hd, h.2.1.upd hu hd, h.2.2.upd hu hd⟩
theorem _root_.Go.SL.Dk.Ow.ext {w w' : World} {d : Dk} {lo hi : Nat} (h : d.Ow w lo hi) (hu : Ext w w') : d.Ow w' lo hi := h.upd hu fun _ _ _ hx => hx
theorem _root_.Go.SL.Dk.Ow.mono {w : World} {d : Dk} {lo hi lo' hi' : Nat} (h : d.Ow w lo hi) (h1 : lo' ≤ lo) (h2 : hi ≤ hi') : d.Ow w lo' hi' := ⟨h.1.mono h1 h2, h.2.1.mono h1 h2, h.2.2.mono h1 h2⟩
theorem own_ne {w : World} {B e sz n b t : Nat} {v : Value} {xs : List Value} {cs : Array Value} (h : Own w B e sz v n xs) (hb : Blk w b cs t) (ht : e ≠ t) : ∀ b', obk v = some b' → ¬ b' = b := by
 rintro b' hb' rfl
 obtain ⟨c, h1⟩ := h.block hb'
 unfold Blk at h1 hb
 rw [h1] at hb
 simp only [Option.some.injEq, Obj.cells.injEq] at hb
 exact ht hb.2.1
theorem nown_ne {ε : Type} {L : Lay ε} {w w' : World} {er eb lo hi b t : Nat} {v : Value} {es : List ε} {cs : Array Value} (hs : ∀ e, L.sub e = []) (h : NOwn L w er eb lo hi v es) (hb : Blk w b cs t) (ht : er ≠ t) (hu : Upd (fun i => i = b) w w') : NOwn L w' er eb lo hi v es :=
 NOwn.of hs (h.1.upd hu (own_ne h.1 hb ht)) h.2.1
/-- a store into a pair's block leaves the rows -/
theorem _root_.Go.SL.Dk.Ow.st {w w' : World} {d : Dk} {lo hi b : Nat} {cs : Array Value} (h : d.Ow w lo hi) (hb : Blk w b cs 29) (hu : Upd (fun i => i = b) w w') : d.Ow w' lo hi := ⟨nown_ne (fun _ => rfl) h.1 hb (by decide) hu, nown_ne (fun _ => rfl) h.2.1 hb (by decide) hu, nown_ne (fun _ => rfl) h.2.2 hb (by decide) hu⟩
theorem c_writeD (d : Dk) (n : Int) (pg : Pg) (w : World) (lo up : Nat) (hup : up ≤ w.heap.size) (h : d.Rd w lo up) (hz : Sz d.da 1048576) : CT Try.prog 34 #[.agg #[d.pv, d.cv, d.bv, .bool d.off], .int .i64 n, pageV pg] w fun v w' => ∃ d2 : Dk, v = .tuple #[.agg #[d2.pv, d2.cv, d2.bv, .bool d2.off], .int .i64 (wrD d.da n pg).2] ∧ d2.Ow w' w.heap.size w'.heap.size ∧ d2.da = (wrD d.da n pg).1 ∧ Ext w w' := by
 refine CT.mono (c_write d.pv d.cv d.bv d.ps d.cs d.bs d.off n pg w lo up hup h.1 h.2.1 h.2.2 hz.1 hz.2.1 hz.2.2) ?_
 rintro v w' ⟨p2, c2, i2, rfl, hP, hC, hI, hu⟩
 exact ⟨⟨p2, c2, i2, d.ps, _, d.bs, d.off⟩, rfl, ⟨hP, hC, hI⟩, rfl, hu⟩
theorem c_flushD (d : Dk) (w : World) (lo up : Nat) (hup : up ≤ w.heap.size) (h : d.Rd w lo up) (hz : Sz d.da 1048576) : CT Try.prog 29 #[.agg #[d.pv, d.cv, d.bv, .bool d.off]] w fun v w' => ∃ d2 : Dk, v = .tuple #[.agg #[d2.pv, d2.cv, d2.bv, .bool d2.off], .int .i64 (flD d.da).2] ∧ d2.Ow w' w.heap.size w'.heap.size ∧ d2.da = (flD d.da).1 ∧ Ext w w' := by
 refine CT.mono (c_flush d.pv d.cv d.bv d.ps d.cs d.bs d.off w lo up hup h.1 h.2.1 h.2.2 hz.1 hz.2.1 hz.2.2) ?_
 rintro v w' ⟨p2, c2, i2, qs, ds, as_, rfl, hP, hC, hI, h1, h2, hu⟩
 refine ⟨⟨p2, c2, i2, qs, ds, as_, d.off⟩, rfl, ⟨hP, hC, hI⟩, ?_, hu⟩
 by_cases h0 : askE d.ps.length d.cs d.bs d.off 0 = 0
 ·obtain ⟨rfl, rfl, rfl⟩ := h1 h0
  exact (if_pos (show DD.ask d.da 0 = 0 from h0)).symm
 ·obtain ⟨rfl, rfl, rfl⟩ := h2 h0
  exact (if_neg (show ¬ DD.ask d.da 0 = 0 from h0)).symm

theorem c_burn (p : Pr) (w : World) (hfz : p.fz ≤ 1000000) (lo0 up0 lo1 up1 : Nat) (hup0 : up0 ≤ w.heap.size) (hup1 : up1 ≤ w.heap.size) (h0 : p.d0.Rd w lo0 up0) (h1 : p.d1.Rd w lo1 up1) : CT Try.prog 42 #[(.agg #[p.d0.pv, p.d0.cv, p.d0.bv, (.bool (p.d0.off)), p.d1.pv, p.d1.cv, p.d1.bv, (.bool (p.d1.off)), (.int .i64 (p.fz)), (.bool (p.dn))])] w fun v w' => v = .tuple #[.agg #[p.d0.pv, p.d0.cv, p.d0.bv, .bool p.d0.off, p.d1.pv, p.d1.cv, p.d1.bv, .bool p.d1.off, .int .i64 (burnD p.da).1.fz, .bool (burnD p.da).1.dn], .bool (burnD p.da).2] ∧ Ext w w' := by
 obtain ⟨n0, hn0⟩ : ∃ n, n = w.heap.size := ⟨_, rfl⟩
 have hU : Upd (fun i => n0 ≤ i) w w := Upd.refl _ _
 rw [← hn0] at hup0 hup1
 refine CT_of Try.func42 rfl rfl rfl ?_
 refine W_seq ?_
 refine W_reg ?_
 refine L_op rfl (X_box (v := (.agg #[p.d0.pv, p.d0.cv, p.d0.bv, (.bool (p.d0.off)), p.d1.pv, p.d1.cv, p.d1.bv, (.bool (p.d1.off)), (.int .i64 (p.fz)), (.bool (p.dn))])) (c := ([p.d0.pv, p.d0.cv, p.d0.bv, (.bool (p.d0.off)), p.d1.pv, p.d1.cv, p.d1.bv, (.bool (p.d1.off)), (.int .i64 (p.fz)), (.bool (p.dn))]).toArray) rfl rfl ?_)
 intro b1 w1 hn1
 have hbn1 := hn1.num; have hbs1 := hn1.size
 replace h0 := h0.ext hn1.ext
 replace h1 := h1.ext hn1.ext
 replace hU := hU.trans (Ext.upd hn1.ext)
 have hB1 := hn1.blk
 refine L_op rfl (X_alloc (z := (.agg #[(.slice none 0 0), (.slice none 0 0), (.slice none 0 0), (.bool (false)), (.slice none 0 0), (.slice none 0 0), (.slice none 0 0), (.bool (false)), (.int .i64 (0)), (.bool (false))])) (c := #[(.slice none 0 0), (.slice none 0 0), (.slice none 0 0), (.bool (false)), (.slice none 0 0), (.slice none 0 0), (.slice none 0 0), (.bool (false)), (.int .i64 (0)), (.bool (false))]) Zv29 rfl ?_)
 intro b2 w2 hn2
 have hbn2 := hn2.num; have hbs2 := hn2.size
 replace h0 := h0.ext hn2.ext
 replace h1 := h1.ext hn2.ext
 replace hU := hU.trans (Ext.upd hn2.ext)
 replace hB1 := hB1.ext hn2.ext
 have hB2 := hn2.blk
 refine L_op rfl (X_assign (v := (.bool (false))) rfl ?_)
 refine L_nil ?_
 refine T_n ?_
 refine W_seq ?_
 refine W_block ?_
 refine W_seq ?_
 refine W_reg ?_
 rcases Bool.eq_false_or_eq_true p.dn with hdn_ | hdn_
 ·have hdn : p.da.dn = true := hdn_
  refine L_op rfl (X_fldP (b := b1) (o := 0) (r := 9) Fd29_2 rfl rfl ?_)
  refine L_op rfl (X_load (p := (ptr b1 (9))) (v := .bool true) T4 rfl (hB1.at1 (by rw [hdn_]; rfl)) ?_)
  refine L_op rfl (X_assign (v := (.bool (true))) rfl ?_)
  refine L_nil ?_
  refine T_n ?_
  refine W_ct rfl ?_
  refine W_seq ?_
  refine W_reg ?_
  refine L_op rfl (X_loadA (p := (ptr b1 (0))) (xs := [p.d0.pv, p.d0.cv, p.d0.bv, (.bool (p.d0.off)), p.d1.pv, p.d1.cv, p.d1.bv, (.bool (p.d1.off)), (.int .i64 (p.fz)), (.bool (p.dn))]) A29 rfl hB1.atAll rfl ?_)
  refine L_op0 (X_storeW (b := b2) (ys := [p.d0.pv, p.d0.cv, p.d0.bv, (.bool (p.d0.off)), p.d1.pv, p.d1.cv, p.d1.bv, (.bool (p.d1.off)), (.int .i64 (p.fz)), (.bool (p.dn))]) A29 rfl rfl (List.forall_mem_cons.2 ⟨(h0.1.sv.one), (List.forall_mem_cons.2 ⟨(h0.2.1.sv.one), (List.forall_mem_cons.2 ⟨(h0.2.2.sv.one), (List.forall_mem_cons.2 ⟨rfl, (List.forall_mem_cons.2 ⟨(h1.1.sv.one), (List.forall_mem_cons.2 ⟨(h1.2.1.sv.one), (List.forall_mem_cons.2 ⟨(h1.2.2.sv.one), (List.forall_mem_cons.2 ⟨rfl, (List.forall_mem_cons.2 ⟨rfl, (List.forall_mem_cons.2 ⟨rfl, (fun _ h => by cases h)⟩)⟩)⟩)⟩)⟩)⟩)⟩)⟩)⟩)⟩) rfl hB2 rfl ?_)
  intro w3 hu3 hb3
  have hz3 := hu3.size
  replace h0 := h0.upd hu3 fun i h1 h2 h => by have h : i = b2 := h; omega
  replace h1 := h1.upd hu3 fun i h1 h2 h => by have h : i = b2 := h; omega
  replace hU := hU.trans (hu3.mono fun i _ h => by have h : i = b2 := h; show n0 ≤ i; omega)
  replace hB1 := hB1.upd hu3 fun h => by have h : b1 = b2 := h; omega
  replace hB2 : Blk w3 b2 #[p.d0.pv, p.d0.cv, p.d0.bv, (.bool (p.d0.off)), p.d1.pv, p.d1.cv, p.d1.bv, (.bool (p.d1.off)), (.int .i64 (p.fz)), (.bool (p.dn))] 29 := hb3
  refine L_op rfl (X_assign (v := (.bool (false))) rfl ?_)
  refine L_nil ?_
  refine T_n ?_
  refine W_ret ?_
  refine B_r ?_
  refine T_r ?_
  have hbu : burnD p.da = (p.da, false) := burn_dn hdn
  exact BQ_r (End_2 Try.results42 (RV_A A29 rfl hB2.atAll rfl) (v2 := .bool false) rfl ⟨by rw [hbu] <;> rfl, hU.own hn0⟩)
 ·have hdn : p.da.dn = false := hdn_
  refine L_op rfl (X_fldP (b := b1) (o := 0) (r := 9) Fd29_2 rfl rfl ?_)
  refine L_op rfl (X_load (p := (ptr b1 (9))) (v := .bool false) T4 rfl (hB1.at1 (by rw [hdn_]; rfl)) ?_)
  refine L_op rfl (X_assign (v := (.bool (false))) rfl ?_)
  refine L_nil ?_
  refine T_n ?_
  refine W_cf rfl ?_
  refine W_seq ?_
  refine W_reg ?_
  refine L_op rfl (X_fldP (b := b1) (o := 0) (r := 8) Fd29_1 rfl rfl ?_)
  refine L_op rfl (X_load (p := (ptr b1 (8))) (v := (.int .i64 (p.fz))) T3 rfl (hB1.at1 rfl) ?_)
  by_cases hc4 : (p.fz : Int) = (0)
  ·refine L_op rfl (X_cmp (k := .i64) (a := p.fz) (b := 0) (r := true) rfl rfl rfl (decide_eq_true (p := ((p.fz) : Int) = ((0) : Int)) (by omega)) ?_)
   refine L_op rfl (X_assign (v := (.bool (true))) rfl ?_)
   refine L_nil ?_
   refine T_n ?_
   refine W_ct rfl ?_
   refine W_seq ?_
   refine W_reg ?_
   refine L_op rfl (X_fldP (b := b1) (o := 0) (r := 9) Fd29_2 rfl rfl ?_)
   refine L_op0 (X_store (b := b1) (o := 9) T4 rfl rfl rfl hB1 (by show (9 : Nat) < 10; decide) ?_)
   intro w5 hu5 hb5
   have hz5 := hu5.size
   replace h0 := h0.upd hu5 fun i h1 h2 h => by have h : i = b1 := h; omega
   replace h1 := h1.upd hu5 fun i h1 h2 h => by have h : i = b1 := h; omega
   replace hU := hU.trans (hu5.mono fun i _ h => by have h : i = b1 := h; show n0 ≤ i; omega)
   replace hB2 := hB2.upd hu5 fun h => by have h : b2 = b1 := h; omega
   replace hB1 : Blk w5 b1 #[p.d0.pv, p.d0.cv, p.d0.bv, (.bool (p.d0.off)), p.d1.pv, p.d1.cv, p.d1.bv, (.bool (p.d1.off)), (.int .i64 (p.fz)), (.bool (true))] 29 := hb5
   refine L_nil ?_
   refine T_n ?_
   refine W_seq ?_
   refine W_reg ?_
   refine L_op rfl (X_loadA (p := (ptr b1 (0))) (xs := [p.d0.pv, p.d0.cv, p.d0.bv, (.bool (p.d0.off)), p.d1.pv, p.d1.cv, p.d1.bv, (.bool (p.d1.off)), (.int .i64 (p.fz)), (.bool (true))]) A29 rfl hB1.atAll rfl ?_)
   refine L_op0 (X_storeW (b := b2) (ys := [p.d0.pv, p.d0.cv, p.d0.bv, (.bool (p.d0.off)), p.d1.pv, p.d1.cv, p.d1.bv, (.bool (p.d1.off)), (.int .i64 (p.fz)), (.bool (true))]) A29 rfl rfl (List.forall_mem_cons.2 ⟨(h0.1.sv.one), (List.forall_mem_cons.2 ⟨(h0.2.1.sv.one), (List.forall_mem_cons.2 ⟨(h0.2.2.sv.one), (List.forall_mem_cons.2 ⟨rfl, (List.forall_mem_cons.2 ⟨(h1.1.sv.one), (List.forall_mem_cons.2 ⟨(h1.2.1.sv.one), (List.forall_mem_cons.2 ⟨(h1.2.2.sv.one), (List.forall_mem_cons.2 ⟨rfl, (List.forall_mem_cons.2 ⟨rfl, (List.forall_mem_cons.2 ⟨rfl, (fun _ h => by cases h)⟩)⟩)⟩)⟩)⟩)⟩)⟩)⟩)⟩)⟩) rfl hB2 rfl ?_)
   intro w6 hu6 hb6
   have hz6 := hu6.size
   replace h0 := h0.upd hu6 fun i h1 h2 h => by have h : i = b2 := h; omega
   replace h1 := h1.upd hu6 fun i h1 h2 h => by have h : i = b2 := h; omega
   replace hU := hU.trans (hu6.mono fun i _ h => by have h : i = b2 := h; show n0 ≤ i; omega)
   replace hB1 := hB1.upd hu6 fun h => by have h : b1 = b2 := h; omega
   replace hB2 : Blk w6 b2 #[p.d0.pv, p.d0.cv, p.d0.bv, (.bool (p.d0.off)), p.d1.pv, p.d1.cv, p.d1.bv, (.bool (p.d1.off)), (.int .i64 (p.fz)), (.bool (true))] 29 := hb6
   refine L_op rfl (X_assign (v := (.bool (false))) rfl ?_)
   refine L_nil ?_
   refine T_n ?_
   refine W_ret ?_
   refine B_r ?_
   refine T_r ?_
   have hbu : burnD p.da = ({ p.da with dn := true }, false) := burn_0 hdn (by assumption)
   exact BQ_r (End_2 Try.results42 (RV_A A29 rfl hB2.atAll rfl) (v2 := .bool false) rfl ⟨by rw [hbu] <;> rfl, hU.own hn0⟩)
  ·refine L_op rfl (X_cmp (k := .i64) (a := p.fz) (b := 0) (r := false) rfl rfl rfl (decide_eq_false (p := ((p.fz) : Int) = ((0) : Int)) (by omega)) ?_)
   refine L_op rfl (X_assign (v := (.bool (false))) rfl ?_)
   refine L_nil ?_
   refine T_n ?_
   refine W_cf rfl ?_
   refine W_seq ?_
   refine W_reg ?_
   refine L_op rfl (X_fldP (b := b1) (o := 0) (r := 8) Fd29_1 rfl rfl ?_)
   refine L_op rfl (X_load (p := (ptr b1 (8))) (v := (.int .i64 (p.fz))) T3 rfl (hB1.at1 rfl) ?_)
   by_cases hc7 : (p.fz : Int) > (0)
   ·refine L_op rfl (X_cmp (k := .i64) (a := p.fz) (b := 0) (r := true) rfl rfl rfl (decide_eq_true (p := ((0) : Int) < ((p.fz) : Int)) (by omega)) ?_)
    refine L_op rfl (X_assign (v := (.bool (true))) rfl ?_)
    refine L_nil ?_
    refine T_n ?_
    refine W_ct rfl ?_
    refine W_reg ?_
    refine L_op rfl (X_fldP (b := b1) (o := 0) (r := 8) Fd29_1 rfl rfl ?_)
    refine L_op rfl (X_load (p := (ptr b1 (8))) (v := (.int .i64 (p.fz))) T3 rfl (hB1.at1 rfl) ?_)
    refine L_op rfl (X_arith (k := .i64) (a := p.fz) (b := 1) (r := (p.fz - 1 : Int)) rfl rfl rfl (isub64 rfl (by omega) (by omega)) ?_)
    refine L_op rfl (X_fldP (b := b1) (o := 0) (r := 8) Fd29_1 rfl rfl ?_)
    refine L_op0 (X_store (b := b1) (o := 8) T3 rfl rfl rfl hB1 (by show (8 : Nat) < 10; decide) ?_)
    intro w8 hu8 hb8
    have hz8 := hu8.size
    replace h0 := h0.upd hu8 fun i h1 h2 h => by have h : i = b1 := h; omega
    replace h1 := h1.upd hu8 fun i h1 h2 h => by have h : i = b1 := h; omega
    replace hU := hU.trans (hu8.mono fun i _ h => by have h : i = b1 := h; show n0 ≤ i; omega)
    replace hB2 := hB2.upd hu8 fun h => by have h : b2 = b1 := h; omega
    replace hB1 : Blk w8 b1 #[p.d0.pv, p.d0.cv, p.d0.bv, (.bool (p.d0.off)), p.d1.pv, p.d1.cv, p.d1.bv, (.bool (p.d1.off)), (.int .i64 ((p.fz - 1 : Int))), (.bool (p.dn))] 29 := hb8
    refine L_nil ?_
    refine B_n ?_
    refine T_n ?_
    refine W_seq ?_
    refine W_reg ?_
    refine L_op rfl (X_loadA (p := (ptr b1 (0))) (xs := [p.d0.pv, p.d0.cv, p.d0.bv, (.bool (p.d0.off)), p.d1.pv, p.d1.cv, p.d1.bv, (.bool (p.d1.off)), (.int .i64 ((p.fz - 1 : Int))), (.bool (p.dn))]) A29 rfl hB1.atAll rfl ?_)
    refine L_op0 (X_storeW (b := b2) (ys := [p.d0.pv, p.d0.cv, p.d0.bv, (.bool (p.d0.off)), p.d1.pv, p.d1.cv, p.d1.bv, (.bool (p.d1.off)), (.int .i64 ((p.fz - 1 : Int))), (.bool (p.dn))]) A29 rfl rfl (List.forall_mem_cons.2 ⟨(h0.1.sv.one), (List.forall_mem_cons.2 ⟨(h0.2.1.sv.one), (List.forall_mem_cons.2 ⟨(h0.2.2.sv.one), (List.forall_mem_cons.2 ⟨rfl, (List.forall_mem_cons.2 ⟨(h1.1.sv.one), (List.forall_mem_cons.2 ⟨(h1.2.1.sv.one), (List.forall_mem_cons.2 ⟨(h1.2.2.sv.one), (List.forall_mem_cons.2 ⟨rfl, (List.forall_mem_cons.2 ⟨rfl, (List.forall_mem_cons.2 ⟨rfl, (fun _ h => by cases h)⟩)⟩)⟩)⟩)⟩)⟩)⟩)⟩)⟩)⟩) rfl hB2 rfl ?_)
    intro w9 hu9 hb9
    have hz9 := hu9.size
    replace h0 := h0.upd hu9 fun i h1 h2 h => by have h : i = b2 := h; omega
    replace h1 := h1.upd hu9 fun i h1 h2 h => by have h : i = b2 := h; omega
    replace hU := hU.trans (hu9.mono fun i _ h => by have h : i = b2 := h; show n0 ≤ i; omega)
    replace hB1 := hB1.upd hu9 fun h => by have h : b1 = b2 := h; omega
    replace hB2 : Blk w9 b2 #[p.d0.pv, p.d0.cv, p.d0.bv, (.bool (p.d0.off)), p.d1.pv, p.d1.cv, p.d1.bv, (.bool (p.d1.off)), (.int .i64 ((p.fz - 1 : Int))), (.bool (p.dn))] 29 := hb9
    refine L_op rfl (X_assign (v := (.bool (true))) rfl ?_)
    refine L_nil ?_
    refine T_n ?_
    refine W_ret ?_
    have hbu : burnD p.da = ({ p.da with fz := p.da.fz - 1 }, true) := burn_p hdn (by have e : p.da.fz = p.fz := rfl; omega)
    exact BQ_r (End_2 Try.results42 (RV_A A29 rfl hB2.atAll rfl) (v2 := .bool true) rfl ⟨by rw [hbu] <;> rfl, hU.own hn0⟩)
   ·refine L_op rfl (X_cmp (k := .i64) (a := p.fz) (b := 0) (r := false) rfl rfl rfl (decide_eq_false (p := ((0) : Int) < ((p.fz) : Int)) (by omega)) ?_)
    refine L_op rfl (X_assign (v := (.bool (false))) rfl ?_)
    refine L_nil ?_
    refine T_n ?_
    refine W_cf rfl ?_
    refine W_skip ?_
    refine B_n ?_
    refine T_n ?_
    refine W_seq ?_
    refine W_reg ?_
    refine L_op rfl (X_loadA (p := (ptr b1 (0))) (xs := [p.d0.pv, p.d0.cv, p.d0.bv, (.bool (p.d0.off)), p.d1.pv, p.d1.cv, p.d1.bv, (.bool (p.d1.off)), (.int .i64 (p.fz)), (.bool (p.dn))]) A29 rfl hB1.atAll rfl ?_)
    refine L_op0 (X_storeW (b := b2) (ys := [p.d0.pv, p.d0.cv, p.d0.bv, (.bool (p.d0.off)), p.d1.pv, p.d1.cv, p.d1.bv, (.bool (p.d1.off)), (.int .i64 (p.fz)), (.bool (p.dn))]) A29 rfl rfl (List.forall_mem_cons.2 ⟨(h0.1.sv.one), (List.forall_mem_cons.2 ⟨(h0.2.1.sv.one), (List.forall_mem_cons.2 ⟨(h0.2.2.sv.one), (List.forall_mem_cons.2 ⟨rfl, (List.forall_mem_cons.2 ⟨(h1.1.sv.one), (List.forall_mem_cons.2 ⟨(h1.2.1.sv.one), (List.forall_mem_cons.2 ⟨(h1.2.2.sv.one), (List.forall_mem_cons.2 ⟨rfl, (List.forall_mem_cons.2 ⟨rfl, (List.forall_mem_cons.2 ⟨rfl, (fun _ h => by cases h)⟩)⟩)⟩)⟩)⟩)⟩)⟩)⟩)⟩)⟩) rfl hB2 rfl ?_)
    intro w10 hu10 hb10
    have hz10 := hu10.size
    replace h0 := h0.upd hu10 fun i h1 h2 h => by have h : i = b2 := h; omega
    replace h1 := h1.upd hu10 fun i h1 h2 h => by have h : i = b2 := h; omega
    replace hU := hU.trans (hu10.mono fun i _ h => by have h : i = b2 := h; show n0 ≤ i; omega)
    replace hB1 := hB1.upd hu10 fun h => by have h : b1 = b2 := h; omega
    replace hB2 : Blk w10 b2 #[p.d0.pv, p.d0.cv, p.d0.bv, (.bool (p.d0.off)), p.d1.pv, p.d1.cv, p.d1.bv, (.bool (p.d1.off)), (.int .i64 (p.fz)), (.bool (p.dn))] 29 := hb10
    refine L_op rfl (X_assign (v := (.bool (true))) rfl ?_)
    refine L_nil ?_
    refine T_n ?_
    refine W_ret ?_
    have hbu : burnD p.da = (p.da, true) := burn_n hdn (by have e : p.da.fz = p.fz := rfl; omega)
    exact BQ_r (End_2 Try.results42 (RV_A A29 rfl hB2.atAll rfl) (v2 := .bool true) rfl ⟨by rw [hbu] <;> rfl, hU.own hn0⟩)

theorem c_put1 (d : Dk) (n : Int) (pg : Pg) (b6 b7 : Nat) (w : World) (lo up : Nat) (hup : up ≤ w.heap.size) (h : d.Rd w lo up) (hz : Sz d.da 1048576) (hN : Blk w b6 #[.int .i64 n] 3) (hG : Blk w b7 (pg.1.map byteV).toArray 37) : CT Try.prog 33 #[(.agg #[d.pv, d.cv, d.bv, (.bool (d.off))]), (ptr b6 (0)), (ptr b7 (0))] w fun v w' => ∃ d2 : Dk, v = .tuple #[.agg #[d2.pv, d2.cv, d2.bv, .bool d2.off], .int .i64 (wrD d.da n pg).2] ∧ d2.Ow w' w.heap.size w'.heap.size ∧ d2.da = (wrD d.da n pg).1 ∧ Ext w w' := by
 obtain ⟨n0, hn0⟩ : ∃ n, n = w.heap.size := ⟨_, rfl⟩
 have hU : Upd (fun i => n0 ≤ i) w w := Upd.refl _ _
 rw [← hn0] at hup
 have hN6 := hN.lt
 have hG7 := hG.lt
 refine CT_of Try.func33 rfl rfl rfl ?_
 refine W_seq ?_
 refine W_reg ?_
 refine L_op rfl (X_box (v := (.agg #[d.pv, d.cv, d.bv, (.bool (d.off))])) (c := ([d.pv, d.cv, d.bv, (.bool (d.off))]).toArray) rfl rfl ?_)
 intro b1 w1 hn1
 have hbn1 := hn1.num; have hbs1 := hn1.size
 replace h := h.ext hn1.ext
 replace hN := hN.ext hn1.ext
 replace hG := hG.ext hn1.ext
 replace hU := hU.trans (Ext.upd hn1.ext)
 have hB1 := hn1.blk
 refine L_op rfl (X_alloc (z := (.agg #[(.slice none 0 0), (.slice none 0 0), (.slice none 0 0), (.bool (false))])) (c := #[(.slice none 0 0), (.slice none 0 0), (.slice none 0 0), (.bool (false))]) Zv26 rfl ?_)
 intro b2 w2 hn2
 have hbn2 := hn2.num; have hbs2 := hn2.size
 replace h := h.ext hn2.ext
 replace hN := hN.ext hn2.ext
 replace hG := hG.ext hn2.ext
 replace hU := hU.trans (Ext.upd hn2.ext)
 replace hB1 := hB1.ext hn2.ext
 have hB2 := hn2.blk
 refine L_op rfl (X_assign (v := (.int .i64 (0))) rfl ?_)
 refine L_nil ?_
 refine T_n ?_
 refine W_seq ?_
 refine W_reg ?_
 refine L_op rfl (X_loadA (p := (ptr b1 (0))) (xs := [d.pv, d.cv, d.bv, (.bool (d.off))]) A26 rfl hB1.atAll rfl ?_)
 refine L_op rfl (X_load (p := (ptr b6 (0))) (v := (.int .i64 (n))) T3 rfl (hN.at1 rfl) ?_)
 refine L_op rfl (X_loadA (p := (ptr b7 (0))) (xs := ((pg.1).map byteV)) A37 rfl hG.atAll (by rw [List.length_map]; exact pg.2) ?_)
 obtain ⟨s_d_, hs_d_⟩ : ∃ n, n = w2.heap.size := ⟨_, rfl⟩
 have hcr_ := c_writeD d n pg w2 lo up (by omega) h hz
 refine L_op rfl (X_fn (vs := [(.agg ([d.pv, d.cv, d.bv, (.bool (d.off))]).toArray), (.int .i64 (n)), (.agg (((pg.1).map byteV)).toArray)]) en34 rfl ?_)
 refine CT.mono hcr_ ?_
 clear hcr_
 rintro _ w3 ⟨d_, rfl, hd_o, hd_a, hu3⟩
 have hz3 := hu3.size
 obtain ⟨ed_, hed_⟩ : ∃ z, z = (wrD d.da n pg).2 := ⟨_, rfl⟩
 rw [← hed_]
 obtain ⟨u_d_, hu_d_⟩ : ∃ n, n = w3.heap.size := ⟨_, rfl⟩
 rw [← hs_d_, ← hu_d_] at hd_o
 have hd_ := hd_o.rd
 replace h := h.ext hu3
 replace hN := hN.ext hu3
 replace hG := hG.ext hu3
 replace hU := hU.trans (Ext.upd hu3)
 replace hB1 := hB1.ext hu3
 replace hB2 := hB2.ext hu3
 refine L_op rfl (X_extract (l := [(.agg #[d_.pv, d_.cv, d_.bv, (.bool (d_.off))]), (.int .i64 (ed_))]) (v := (.agg #[d_.pv, d_.cv, d_.bv, (.bool (d_.off))])) rfl rfl ?_)
 refine L_op rfl (X_extract (l := [(.agg #[d_.pv, d_.cv, d_.bv, (.bool (d_.off))]), (.int .i64 (ed_))]) (v := (.int .i64 (ed_))) rfl rfl ?_)
 refine L_op0 (X_storeW (b := b2) (ys := [d_.pv, d_.cv, d_.bv, (.bool (d_.off))]) A26 rfl rfl (List.forall_mem_cons.2 ⟨(hd_.1.sv.one), (List.forall_mem_cons.2 ⟨(hd_.2.1.sv.one), (List.forall_mem_cons.2 ⟨(hd_.2.2.sv.one), (List.forall_mem_cons.2 ⟨rfl, (fun _ h => by cases h)⟩)⟩)⟩)⟩) rfl hB2 rfl ?_)
 intro w4 hu4 hb4
 have hz4 := hu4.size
 replace h := h.upd hu4 fun i h1 h2 h => by have h : i = b2 := h; omega
 replace hN := hN.upd hu4 fun h => by have h : b6 = b2 := h; omega
 replace hG := hG.upd hu4 fun h => by have h : b7 = b2 := h; omega
 replace hU := hU.trans (hu4.mono fun i _ h => by have h : i = b2 := h; show n0 ≤ i; omega)
 replace hB1 := hB1.upd hu4 fun h => by have h : b1 = b2 := h; omega
 replace hd_ := hd_.upd hu4 fun i h1 h2 h => by have h : i = b2 := h; omega
 replace hd_o := hd_o.upd hu4 fun i h1 h2 h => by have h : i = b2 := h; omega
 replace hB2 : Blk w4 b2 #[d_.pv, d_.cv, d_.bv, (.bool (d_.off))] 26 := hb4
 refine L_op rfl (X_assign (v := (.int .i64 (ed_))) rfl ?_)
 refine L_nil ?_
 refine T_n ?_
 refine W_ret ?_
 exact BQ_r (End_2 Try.results33 (RV_A A26 rfl hB2.atAll rfl) (v2 := .int .i64 ed_) rfl ⟨d_, by rw [hed_], hd_o.mono (by omega) (by omega), hd_a, hU.own hn0⟩)

theorem does_e (p : PD) (i : Nat) (g : DD → DD × Int) : (doesD p i g).2 = if (burnD p).2 = false then 100 else (g (p.dk i)).2 := by
 unfold doesD
 split
 ·rfl
 ·split
  ·rename_i h; exact h.symm
  ·rfl
theorem does_f {p : PD} {i : Nat} {g : DD → DD × Int} (h : (burnD p).2 = false) : doesD p i g = ((burnD p).1, 100) := if_pos h
theorem does_s {p : PD} {i : Nat} {g : DD → DD × Int} (h : (burnD p).2 = true) (h0 : (g (p.dk i)).2 = 0) : doesD p i g = ((burnD p).1.setD i (g (p.dk i)).1, 0) := (if_neg (by rw [h]; decide)).trans (if_pos h0)
theorem does_k {p : PD} {i : Nat} {g : DD → DD × Int} (h : (burnD p).2 = true) (h0 : (g (p.dk i)).2 ≠ 0) : doesD p i g = ((burnD p).1, (g (p.dk i)).2) := (if_neg (by rw [h]; decide)).trans (if_neg h0)
theorem PD.ext {p q : PD} (h1 : p.a = q.a) (h2 : p.b = q.b) (h3 : p.fz = q.fz) (h4 : p.dn = q.dn) : p = q := by cases p; cases q; simp_all

theorem c_does0 (p : Pr) (g : DD → DD × Int) (fid : FuncId) (cap : List Value) (eg : ∀ args w, (callFunc fid args).run Try.prog w = .ok (.enter fid args) w) (w : World) (hfz : p.fz ≤ 1000000) (lo0 up0 lo1 up1 : Nat) (hup0 : up0 ≤ w.heap.size) (hup1 : up1 ≤ w.heap.size) (h0 : p.d0.Rd w lo0 up0) (h1 : p.d1.Rd w lo1 up1) (hcall : ∀ W, Ext w W → CT Try.prog fid ([Value.agg #[p.d0.pv, p.d0.cv, p.d0.bv, .bool p.d0.off]] ++ cap).toArray W fun v W' => ∃ d2 : Dk, v = .tuple #[.agg #[d2.pv, d2.cv, d2.bv, .bool d2.off], .int .i64 (g (p.da.dk 0)).2] ∧ d2.Ow W' W.heap.size W'.heap.size ∧ d2.da = (g (p.da.dk 0)).1 ∧ Ext W W') : CT Try.prog 28 #[(.agg #[p.d0.pv, p.d0.cv, p.d0.bv, (.bool (p.d0.off)), p.d1.pv, p.d1.cv, p.d1.bv, (.bool (p.d1.off)), (.int .i64 (p.fz)), (.bool (p.dn))]), (.int .i64 (0)), (.func (.func fid) #[] cap.toArray)] w fun v w' => ∃ (p2 : Pr) (l0 u0 l1 u1 : Nat), v = .tuple #[.agg #[p2.d0.pv, p2.d0.cv, p2.d0.bv, .bool p2.d0.off, p2.d1.pv, p2.d1.cv, p2.d1.bv, .bool p2.d1.off, .int .i64 p2.fz, .bool p2.dn], .int .i64 (doesD p.da 0 g).2] ∧ p2.d0.Rd w' l0 u0 ∧ p2.d1.Rd w' l1 u1 ∧ (l0 = lo0 ∧ u0 = up0 ∨ w.heap.size ≤ l0 ∧ u0 ≤ w'.heap.size) ∧ (l1 = lo1 ∧ u1 = up1 ∨ w.heap.size ≤ l1 ∧ u1 ≤ w'.heap.size) ∧ (l0 = lo0 ∧ u0 = up0 ∨ p2.d0.Ow w' l0 u0) ∧ (l1 = lo1 ∧ u1 = up1 ∨ p2.d1.Ow w' l1 u1) ∧ p2.da = (doesD p.da 0 g).1 ∧ Ext w w' := by
 obtain ⟨n0, hn0⟩ : ∃ n, n = w.heap.size := ⟨_, rfl⟩
 have hU : Upd (fun i => n0 ≤ i) w w := Upd.refl _ _
 rw [← hn0] at hup0 hup1
 refine CT_of Try.func28 rfl rfl rfl ?_
 refine W_seq ?_
 refine W_reg ?_
 refine L_op rfl (X_box (v := (.agg #[p.d0.pv, p.d0.cv, p.d0.bv, (.bool (p.d0.off)), p.d1.pv, p.d1.cv, p.d1.bv, (.bool (p.d1.off)), (.int .i64 (p.fz)), (.bool (p.dn))])) (c := ([p.d0.pv, p.d0.cv, p.d0.bv, (.bool (p.d0.off)), p.d1.pv, p.d1.cv, p.d1.bv, (.bool (p.d1.off)), (.int .i64 (p.fz)), (.bool (p.dn))]).toArray) rfl rfl ?_)
 intro b1 w1 hn1
 have hbn1 := hn1.num; have hbs1 := hn1.size
 replace h0 := h0.ext hn1.ext
 replace h1 := h1.ext hn1.ext
 replace hU := hU.trans (Ext.upd hn1.ext)
 have hB1 := hn1.blk
 refine L_op rfl (X_alloc (z := (.agg #[(.slice none 0 0), (.slice none 0 0), (.slice none 0 0), (.bool (false)), (.slice none 0 0), (.slice none 0 0), (.slice none 0 0), (.bool (false)), (.int .i64 (0)), (.bool (false))])) (c := #[(.slice none 0 0), (.slice none 0 0), (.slice none 0 0), (.bool (false)), (.slice none 0 0), (.slice none 0 0), (.slice none 0 0), (.bool (false)), (.int .i64 (0)), (.bool (false))]) Zv29 rfl ?_)
 intro b2 w2 hn2
 have hbn2 := hn2.num; have hbs2 := hn2.size
 replace h0 := h0.ext hn2.ext
 replace h1 := h1.ext hn2.ext
 replace hU := hU.trans (Ext.upd hn2.ext)
 replace hB1 := hB1.ext hn2.ext
 have hB2 := hn2.blk
 refine L_op rfl (X_assign (v := (.int .i64 (0))) rfl ?_)
 refine L_nil ?_
 refine T_n ?_
 refine W_seq ?_
 refine W_reg ?_
 refine L_op rfl (X_loadA (p := (ptr b1 (0))) (xs := [p.d0.pv, p.d0.cv, p.d0.bv, (.bool (p.d0.off)), p.d1.pv, p.d1.cv, p.d1.bv, (.bool (p.d1.off)), (.int .i64 (p.fz)), (.bool (p.dn))]) A29 rfl hB1.atAll rfl ?_)
 have hcr_ := c_burn p w2 hfz lo0 up0 lo1 up1 (by omega) (by omega) h0 h1
 refine L_op rfl (X_fn (vs := [(.agg ([p.d0.pv, p.d0.cv, p.d0.bv, (.bool (p.d0.off)), p.d1.pv, p.d1.cv, p.d1.bv, (.bool (p.d1.off)), (.int .i64 (p.fz)), (.bool (p.dn))]).toArray)]) en42 rfl ?_)
 refine CT.mono hcr_ ?_
 clear hcr_
 rintro _ w3 ⟨rfl, hu3⟩
 have hz3 := hu3.size
 replace h0 := h0.ext hu3
 replace h1 := h1.ext hu3
 replace hU := hU.trans (Ext.upd hu3)
 replace hB1 := hB1.ext hu3
 replace hB2 := hB2.ext hu3
 obtain ⟨bf, hbf⟩ : ∃ z, z = (burnD p.da).1.fz := ⟨_, rfl⟩
 obtain ⟨bd, hbd⟩ : ∃ z, z = (burnD p.da).1.dn := ⟨_, rfl⟩
 rw [← hbf, ← hbd]
 rcases Bool.eq_false_or_eq_true (burnD p.da).2 with hbo | hbo
 ·rw [hbo]
  refine L_op rfl (X_move (v := (.tuple #[(.agg #[p.d0.pv, p.d0.cv, p.d0.bv, (.bool (p.d0.off)), p.d1.pv, p.d1.cv, p.d1.bv, (.bool (p.d1.off)), (.int .i64 (bf)), (.bool (bd))]), (.bool (true))])) rfl ?_)
  refine L_op rfl (X_extract (l := [(.agg #[p.d0.pv, p.d0.cv, p.d0.bv, (.bool (p.d0.off)), p.d1.pv, p.d1.cv, p.d1.bv, (.bool (p.d1.off)), (.int .i64 (bf)), (.bool (bd))]), (.bool (true))]) (v := (.agg #[p.d0.pv, p.d0.cv, p.d0.bv, (.bool (p.d0.off)), p.d1.pv, p.d1.cv, p.d1.bv, (.bool (p.d1.off)), (.int .i64 (bf)), (.bool (bd))])) rfl rfl ?_)
  refine L_op rfl (X_extract (l := [(.agg #[p.d0.pv, p.d0.cv, p.d0.bv, (.bool (p.d0.off)), p.d1.pv, p.d1.cv, p.d1.bv, (.bool (p.d1.off)), (.int .i64 (bf)), (.bool (bd))]), (.bool (true))]) (v := (.bool (true))) rfl rfl ?_)
  refine L_op0 (X_storeW (b := b1) (ys := [p.d0.pv, p.d0.cv, p.d0.bv, (.bool (p.d0.off)), p.d1.pv, p.d1.cv, p.d1.bv, (.bool (p.d1.off)), (.int .i64 (bf)), (.bool (bd))]) A29 rfl rfl (List.forall_mem_cons.2 ⟨(h0.1.sv.one), (List.forall_mem_cons.2 ⟨(h0.2.1.sv.one), (List.forall_mem_cons.2 ⟨(h0.2.2.sv.one), (List.forall_mem_cons.2 ⟨rfl, (List.forall_mem_cons.2 ⟨(h1.1.sv.one), (List.forall_mem_cons.2 ⟨(h1.2.1.sv.one), (List.forall_mem_cons.2 ⟨(h1.2.2.sv.one), (List.forall_mem_cons.2 ⟨rfl, (List.forall_mem_cons.2 ⟨rfl, (List.forall_mem_cons.2 ⟨rfl, (fun _ h => by cases h)⟩)⟩)⟩)⟩)⟩)⟩)⟩)⟩)⟩)⟩) rfl hB1 rfl ?_)
  intro w4 hu4 hb4
  have hz4 := hu4.size
  replace h0 := h0.upd hu4 fun i h1 h2 h => by have h : i = b1 := h; omega
  replace h1 := h1.upd hu4 fun i h1 h2 h => by have h : i = b1 := h; omega
  replace hU := hU.trans (hu4.mono fun i _ h => by have h : i = b1 := h; show n0 ≤ i; omega)
  replace hB2 := hB2.upd hu4 fun h => by have h : b2 = b1 := h; omega
  replace hB1 : Blk w4 b1 #[p.d0.pv, p.d0.cv, p.d0.bv, (.bool (p.d0.off)), p.d1.pv, p.d1.cv, p.d1.bv, (.bool (p.d1.off)), (.int .i64 (bf)), (.bool (bd))] 29 := hb4
  refine L_op rfl (X_assign (v := (.bool (true))) rfl ?_)
  refine L_nil ?_
  refine T_n ?_
  refine W_seq ?_
  refine W_seq ?_
  refine W_reg ?_
  refine L_op rfl (X_move (v := (.bool (true))) rfl ?_)
  refine L_op rfl (X_not (b := true) (r := false) rfl rfl ?_)
  refine L_nil ?_
  refine T_n ?_
  refine W_cf rfl ?_
  refine W_skip ?_
  refine T_n ?_
  refine W_seq ?_
  refine W_reg ?_
  refine L_op rfl (X_move (v := (.func (.func fid) #[] cap.toArray)) rfl ?_)
  refine L_op rfl (X_move (v := (.int .i64 (0))) rfl ?_)
  refine L_op rfl (X_fldP (b := b1) (o := 0) (r := 0) Fd29_0 rfl rfl ?_)
  refine L_op rfl (X_idxAP (len := 2) (sz := 4) (b := b1) (o := 0) (k := .i64) (i := 0) (r := 0) Try.underlying27 Z26 rfl rfl (by omega) (by omega) rfl ?_)
  refine L_op rfl (X_loadA (p := (ptr b1 (0))) (xs := [p.d0.pv, p.d0.cv, p.d0.bv, (.bool (p.d0.off))]) A26 rfl (hB1.part (o := 0) (n := 4) rfl) rfl ?_)
  obtain ⟨s_d_, hs_d_⟩ : ∃ n, n = w4.heap.size := ⟨_, rfl⟩
  have hcr_ := hcall w4 (hU.own hn0)
  refine L_op rfl (X_cl (vs := [(.agg #[p.d0.pv, p.d0.cv, p.d0.bv, (.bool (p.d0.off))])]) (cap := cap) eg rfl rfl ?_)
  refine CT.mono hcr_ ?_
  clear hcr_
  rintro _ w5 ⟨d_, rfl, hd_o, hd_a, hu5⟩
  have hz5 := hu5.size
  obtain ⟨ed_, hed_⟩ : ∃ z, z = (g (p.da.dk 0)).2 := ⟨_, rfl⟩
  rw [← hed_]
  obtain ⟨u_d_, hu_d_⟩ : ∃ n, n = w5.heap.size := ⟨_, rfl⟩
  rw [← hs_d_, ← hu_d_] at hd_o
  have hd_ := hd_o.rd
  replace h0 := h0.ext hu5
  replace h1 := h1.ext hu5
  replace hU := hU.trans (Ext.upd hu5)
  replace hB2 := hB2.ext hu5
  replace hB1 := hB1.ext hu5
  refine L_op rfl (X_move (v := (.tuple #[(.agg #[d_.pv, d_.cv, d_.bv, (.bool (d_.off))]), (.int .i64 (ed_))])) rfl ?_)
  refine L_op rfl (X_extract (l := [(.agg #[d_.pv, d_.cv, d_.bv, (.bool (d_.off))]), (.int .i64 (ed_))]) (v := (.agg #[d_.pv, d_.cv, d_.bv, (.bool (d_.off))])) rfl rfl ?_)
  refine L_op rfl (X_extract (l := [(.agg #[d_.pv, d_.cv, d_.bv, (.bool (d_.off))]), (.int .i64 (ed_))]) (v := (.int .i64 (ed_))) rfl rfl ?_)
  refine L_op rfl (X_alloc (z := (.agg #[(.slice none 0 0), (.slice none 0 0), (.slice none 0 0), (.bool (false))])) (c := #[(.slice none 0 0), (.slice none 0 0), (.slice none 0 0), (.bool (false))]) Zv26 rfl ?_)
  intro b6 w6 hn6
  have hbn6 := hn6.num; have hbs6 := hn6.size
  replace h0 := h0.ext hn6.ext
  replace h1 := h1.ext hn6.ext
  replace hU := hU.trans (Ext.upd hn6.ext)
  replace hB2 := hB2.ext hn6.ext
  replace hB1 := hB1.ext hn6.ext
  replace hd_ := hd_.ext hn6.ext
  replace hd_o := hd_o.ext hn6.ext
  have hB6 := hn6.blk
  refine L_op0 (X_storeW (b := b6) (ys := [d_.pv, d_.cv, d_.bv, (.bool (d_.off))]) A26 rfl rfl (List.forall_mem_cons.2 ⟨(hd_.1.sv.one), (List.forall_mem_cons.2 ⟨(hd_.2.1.sv.one), (List.forall_mem_cons.2 ⟨(hd_.2.2.sv.one), (List.forall_mem_cons.2 ⟨rfl, (fun _ h => by cases h)⟩)⟩)⟩)⟩) rfl hB6 rfl ?_)
  intro w7 hu7 hb7
  have hz7 := hu7.size
  replace h0 := h0.upd hu7 fun i h1 h2 h => by have h : i = b6 := h; omega
  replace h1 := h1.upd hu7 fun i h1 h2 h => by have h : i = b6 := h; omega
  replace hU := hU.trans (hu7.mono fun i _ h => by have h : i = b6 := h; show n0 ≤ i; omega)
  replace hB2 := hB2.upd hu7 fun h => by have h : b2 = b6 := h; omega
  replace hB1 := hB1.upd hu7 fun h => by have h : b1 = b6 := h; omega
  replace hd_ := hd_.upd hu7 fun i h1 h2 h => by have h : i = b6 := h; omega
  replace hd_o := hd_o.upd hu7 fun i h1 h2 h => by have h : i = b6 := h; omega
  replace hB6 : Blk w7 b6 #[d_.pv, d_.cv, d_.bv, (.bool (d_.off))] 26 := hb7
  refine L_op rfl (X_assign (v := (.int .i64 (ed_))) rfl ?_)
  refine L_nil ?_
  refine T_n ?_
  refine W_seq ?_
  refine W_seq ?_
  refine W_reg ?_
  refine L_op rfl (X_move (v := (.int .i64 (ed_))) rfl ?_)
  by_cases hc8 : (ed_ : Int) = (0)
  ·refine L_op rfl (X_cmp (k := .i64) (a := ed_) (b := 0) (r := true) rfl rfl rfl (decide_eq_true (p := ((ed_) : Int) = ((0) : Int)) (by omega)) ?_)
   refine L_nil ?_
   refine T_n ?_
   refine W_ct rfl ?_
   refine W_reg ?_
   refine L_op rfl (X_move (v := (.int .i64 (0))) rfl ?_)
   refine L_op rfl (X_loadA (p := (ptr b6 (0))) (xs := [d_.pv, d_.cv, d_.bv, (.bool (d_.off))]) A26 rfl hB6.atAll rfl ?_)
   refine L_op rfl (X_fldP (b := b1) (o := 0) (r := 0) Fd29_0 rfl rfl ?_)
   refine L_op rfl (X_idxAP (len := 2) (sz := 4) (b := b1) (o := 0) (k := .i64) (i := 0) (r := 0) Try.underlying27 Z26 rfl rfl (by omega) (by omega) rfl ?_)
   refine L_op0 (X_storeA (b := b1) (o := 0) (ys := [d_.pv, d_.cv, d_.bv, (.bool (d_.off))]) A26 rfl rfl (List.forall_mem_cons.2 ⟨(hd_.1.sv.one), (List.forall_mem_cons.2 ⟨(hd_.2.1.sv.one), (List.forall_mem_cons.2 ⟨(hd_.2.2.sv.one), (List.forall_mem_cons.2 ⟨rfl, (fun _ h => by cases h)⟩)⟩)⟩)⟩) rfl hB1 (by show 0 + 4 ≤ 10; decide) ?_)
   intro w9 hu9 hb9
   have hz9 := hu9.size
   replace h0 := h0.upd hu9 fun i h1 h2 h => by have h : i = b1 := h; omega
   replace h1 := h1.upd hu9 fun i h1 h2 h => by have h : i = b1 := h; omega
   replace hU := hU.trans (hu9.mono fun i _ h => by have h : i = b1 := h; show n0 ≤ i; omega)
   replace hB2 := hB2.upd hu9 fun h => by have h : b2 = b1 := h; omega
   replace hd_ := hd_.upd hu9 fun i h1 h2 h => by have h : i = b1 := h; omega
   replace hd_o := hd_o.upd hu9 fun i h1 h2 h => by have h : i = b1 := h; omega
   replace hB6 := hB6.upd hu9 fun h => by have h : b6 = b1 := h; omega
   replace hB1 : Blk w9 b1 #[d_.pv, d_.cv, d_.bv, (.bool (d_.off)), p.d1.pv, p.d1.cv, p.d1.bv, (.bool (p.d1.off)), (.int .i64 (bf)), (.bool (bd))] 29 := hb9
   refine L_nil ?_
   refine T_n ?_
   refine W_seq ?_
   refine W_reg ?_
   refine L_op rfl (X_loadA (p := (ptr b1 (0))) (xs := [d_.pv, d_.cv, d_.bv, (.bool (d_.off)), p.d1.pv, p.d1.cv, p.d1.bv, (.bool (p.d1.off)), (.int .i64 (bf)), (.bool (bd))]) A29 rfl hB1.atAll rfl ?_)
   refine L_op rfl (X_move (v := (.int .i64 (ed_))) rfl ?_)
   refine L_op0 (X_storeW (b := b2) (ys := [d_.pv, d_.cv, d_.bv, (.bool (d_.off)), p.d1.pv, p.d1.cv, p.d1.bv, (.bool (p.d1.off)), (.int .i64 (bf)), (.bool (bd))]) A29 rfl rfl (List.forall_mem_cons.2 ⟨(hd_.1.sv.one), (List.forall_mem_cons.2 ⟨(hd_.2.1.sv.one), (List.forall_mem_cons.2 ⟨(hd_.2.2.sv.one), (List.forall_mem_cons.2 ⟨rfl, (List.forall_mem_cons.2 ⟨(h1.1.sv.one), (List.forall_mem_cons.2 ⟨(h1.2.1.sv.one), (List.forall_mem_cons.2 ⟨(h1.2.2.sv.one), (List.forall_mem_cons.2 ⟨rfl, (List.forall_mem_cons.2 ⟨rfl, (List.forall_mem_cons.2 ⟨rfl, (fun _ h => by cases h)⟩)⟩)⟩)⟩)⟩)⟩)⟩)⟩)⟩)⟩) rfl hB2 rfl ?_)
   intro w10 hu10 hb10
   have hz10 := hu10.size
   replace h0 := h0.upd hu10 fun i h1 h2 h => by have h : i = b2 := h; omega
   replace h1 := h1.upd hu10 fun i h1 h2 h => by have h : i = b2 := h; omega
   replace hU := hU.trans (hu10.mono fun i _ h => by have h : i = b2 := h; show n0 ≤ i; omega)
   replace hd_ := hd_.upd hu10 fun i h1 h2 h => by have h : i = b2 := h; omega
   replace hd_o := hd_o.upd hu10 fun i h1 h2 h => by have h : i = b2 := h; omega
   replace hB6 := hB6.upd hu10 fun h => by have h : b6 = b2 := h; omega
   replace hB1 := hB1.upd hu10 fun h => by have h : b1 = b2 := h; omega
   replace hB2 : Blk w10 b2 #[d_.pv, d_.cv, d_.bv, (.bool (d_.off)), p.d1.pv, p.d1.cv, p.d1.bv, (.bool (p.d1.off)), (.int .i64 (bf)), (.bool (bd))] 29 := hb10
   refine L_op rfl (X_assign (v := (.int .i64 (ed_))) rfl ?_)
   refine L_nil ?_
   refine T_n ?_
   refine W_ret ?_
   have hd0_ : (g (p.da.dk 0)).2 = 0 := by rw [← hed_]; assumption
   have he2_ : ed_ = (doesD p.da 0 g).2 := by rw [does_s hbo hd0_]; assumption
   exact BQ_r (End_2 Try.results28 (RV_A A29 rfl hB2.atAll rfl) (v2 := .int .i64 ed_) rfl ⟨⟨d_, p.d1, bf, bd⟩, s_d_, u_d_, lo1, up1, by rw [he2_], hd_, h1, .inr ⟨by omega, by omega⟩, .inl ⟨rfl, rfl⟩, .inr hd_o, .inl ⟨rfl, rfl⟩, by rw [does_s hbo hd0_]; exact PD.ext hd_a (burn_b p.da).symm hbf hbd, hU.own hn0⟩)
  ·refine L_op rfl (X_cmp (k := .i64) (a := ed_) (b := 0) (r := false) rfl rfl rfl (decide_eq_false (p := ((ed_) : Int) = ((0) : Int)) (by omega)) ?_)
   refine L_nil ?_
   refine T_n ?_
   refine W_cf rfl ?_
   refine W_skip ?_
   refine T_n ?_
   refine W_seq ?_
   refine W_reg ?_
   refine L_op rfl (X_loadA (p := (ptr b1 (0))) (xs := [p.d0.pv, p.d0.cv, p.d0.bv, (.bool (p.d0.off)), p.d1.pv, p.d1.cv, p.d1.bv, (.bool (p.d1.off)), (.int .i64 (bf)), (.bool (bd))]) A29 rfl hB1.atAll rfl ?_)
   refine L_op rfl (X_move (v := (.int .i64 (ed_))) rfl ?_)
   refine L_op0 (X_storeW (b := b2) (ys := [p.d0.pv, p.d0.cv, p.d0.bv, (.bool (p.d0.off)), p.d1.pv, p.d1.cv, p.d1.bv, (.bool (p.d1.off)), (.int .i64 (bf)), (.bool (bd))]) A29 rfl rfl (List.forall_mem_cons.2 ⟨(h0.1.sv.one), (List.forall_mem_cons.2 ⟨(h0.2.1.sv.one), (List.forall_mem_cons.2 ⟨(h0.2.2.sv.one), (List.forall_mem_cons.2 ⟨rfl, (List.forall_mem_cons.2 ⟨(h1.1.sv.one), (List.forall_mem_cons.2 ⟨(h1.2.1.sv.one), (List.forall_mem_cons.2 ⟨(h1.2.2.sv.one), (List.forall_mem_cons.2 ⟨rfl, (List.forall_mem_cons.2 ⟨rfl, (List.forall_mem_cons.2 ⟨rfl, (fun _ h => by cases h)⟩)⟩)⟩)⟩)⟩)⟩)⟩)⟩)⟩)⟩) rfl hB2 rfl ?_)
   intro w11 hu11 hb11
   have hz11 := hu11.size
   replace h0 := h0.upd hu11 fun i h1 h2 h => by have h : i = b2 := h; omega
   replace h1 := h1.upd hu11 fun i h1 h2 h => by have h : i = b2 := h; omega
   replace hU := hU.trans (hu11.mono fun i _ h => by have h : i = b2 := h; show n0 ≤ i; omega)
   replace hB1 := hB1.upd hu11 fun h => by have h : b1 = b2 := h; omega
   replace hd_ := hd_.upd hu11 fun i h1 h2 h => by have h : i = b2 := h; omega
   replace hd_o := hd_o.upd hu11 fun i h1 h2 h => by have h : i = b2 := h; omega
   replace hB6 := hB6.upd hu11 fun h => by have h : b6 = b2 := h; omega
   replace hB2 : Blk w11 b2 #[p.d0.pv, p.d0.cv, p.d0.bv, (.bool (p.d0.off)), p.d1.pv, p.d1.cv, p.d1.bv, (.bool (p.d1.off)), (.int .i64 (bf)), (.bool (bd))] 29 := hb11
   refine L_op rfl (X_assign (v := (.int .i64 (ed_))) rfl ?_)
   refine L_nil ?_
   refine T_n ?_
   refine W_ret ?_
   have hd0_ : (g (p.da.dk 0)).2 ≠ 0 := by rw [← hed_]; assumption
   have he2_ : ed_ = (doesD p.da 0 g).2 := by rw [does_k hbo hd0_]; exact hed_
   exact BQ_r (End_2 Try.results28 (RV_A A29 rfl hB2.atAll rfl) (v2 := .int .i64 ed_) rfl ⟨⟨p.d0, p.d1, bf, bd⟩, lo0, up0, lo1, up1, by rw [he2_], h0, h1, .inl ⟨rfl, rfl⟩, .inl ⟨rfl, rfl⟩, .inl ⟨rfl, rfl⟩, .inl ⟨rfl, rfl⟩, by rw [does_k hbo hd0_]; exact PD.ext (burn_a p.da).symm (burn_b p.da).symm hbf hbd, hU.own hn0⟩)
 ·rw [hbo]
  refine L_op rfl (X_move (v := (.tuple #[(.agg #[p.d0.pv, p.d0.cv, p.d0.bv, (.bool (p.d0.off)), p.d1.pv, p.d1.cv, p.d1.bv, (.bool (p.d1.off)), (.int .i64 (bf)), (.bool (bd))]), (.bool (false))])) rfl ?_)
  refine L_op rfl (X_extract (l := [(.agg #[p.d0.pv, p.d0.cv, p.d0.bv, (.bool (p.d0.off)), p.d1.pv, p.d1.cv, p.d1.bv, (.bool (p.d1.off)), (.int .i64 (bf)), (.bool (bd))]), (.bool (false))]) (v := (.agg #[p.d0.pv, p.d0.cv, p.d0.bv, (.bool (p.d0.off)), p.d1.pv, p.d1.cv, p.d1.bv, (.bool (p.d1.off)), (.int .i64 (bf)), (.bool (bd))])) rfl rfl ?_)
  refine L_op rfl (X_extract (l := [(.agg #[p.d0.pv, p.d0.cv, p.d0.bv, (.bool (p.d0.off)), p.d1.pv, p.d1.cv, p.d1.bv, (.bool (p.d1.off)), (.int .i64 (bf)), (.bool (bd))]), (.bool (false))]) (v := (.bool (false))) rfl rfl ?_)
  refine L_op0 (X_storeW (b := b1) (ys := [p.d0.pv, p.d0.cv, p.d0.bv, (.bool (p.d0.off)), p.d1.pv, p.d1.cv, p.d1.bv, (.bool (p.d1.off)), (.int .i64 (bf)), (.bool (bd))]) A29 rfl rfl (List.forall_mem_cons.2 ⟨(h0.1.sv.one), (List.forall_mem_cons.2 ⟨(h0.2.1.sv.one), (List.forall_mem_cons.2 ⟨(h0.2.2.sv.one), (List.forall_mem_cons.2 ⟨rfl, (List.forall_mem_cons.2 ⟨(h1.1.sv.one), (List.forall_mem_cons.2 ⟨(h1.2.1.sv.one), (List.forall_mem_cons.2 ⟨(h1.2.2.sv.one), (List.forall_mem_cons.2 ⟨rfl, (List.forall_mem_cons.2 ⟨rfl, (List.forall_mem_cons.2 ⟨rfl, (fun _ h => by cases h)⟩)⟩)⟩)⟩)⟩)⟩)⟩)⟩)⟩)⟩) rfl hB1 rfl ?_)
  intro w12 hu12 hb12
  have hz12 := hu12.size
  replace h0 := h0.upd hu12 fun i h1 h2 h => by have h : i = b1 := h; omega
  replace h1 := h1.upd hu12 fun i h1 h2 h => by have h : i = b1 := h; omega
  replace hU := hU.trans (hu12.mono fun i _ h => by have h : i = b1 := h; show n0 ≤ i; omega)
  replace hB2 := hB2.upd hu12 fun h => by have h : b2 = b1 := h; omega
  replace hB1 : Blk w12 b1 #[p.d0.pv, p.d0.cv, p.d0.bv, (.bool (p.d0.off)), p.d1.pv, p.d1.cv, p.d1.bv, (.bool (p.d1.off)), (.int .i64 (bf)), (.bool (bd))] 29 := hb12
  refine L_op rfl (X_assign (v := (.bool (false))) rfl ?_)
  refine L_nil ?_
  refine T_n ?_
  refine W_seq ?_
  refine W_seq ?_
  refine W_reg ?_
  refine L_op rfl (X_move (v := (.bool (false))) rfl ?_)
  refine L_op rfl (X_not (b := false) (r := true) rfl rfl ?_)
  refine L_nil ?_
  refine T_n ?_
  refine W_ct rfl ?_
  refine W_seq ?_
  refine W_reg ?_
  refine L_op rfl (X_loadA (p := (ptr b1 (0))) (xs := [p.d0.pv, p.d0.cv, p.d0.bv, (.bool (p.d0.off)), p.d1.pv, p.d1.cv, p.d1.bv, (.bool (p.d1.off)), (.int .i64 (bf)), (.bool (bd))]) A29 rfl hB1.atAll rfl ?_)
  refine L_op0 (X_storeW (b := b2) (ys := [p.d0.pv, p.d0.cv, p.d0.bv, (.bool (p.d0.off)), p.d1.pv, p.d1.cv, p.d1.bv, (.bool (p.d1.off)), (.int .i64 (bf)), (.bool (bd))]) A29 rfl rfl (List.forall_mem_cons.2 ⟨(h0.1.sv.one), (List.forall_mem_cons.2 ⟨(h0.2.1.sv.one), (List.forall_mem_cons.2 ⟨(h0.2.2.sv.one), (List.forall_mem_cons.2 ⟨rfl, (List.forall_mem_cons.2 ⟨(h1.1.sv.one), (List.forall_mem_cons.2 ⟨(h1.2.1.sv.one), (List.forall_mem_cons.2 ⟨(h1.2.2.sv.one), (List.forall_mem_cons.2 ⟨rfl, (List.forall_mem_cons.2 ⟨rfl, (List.forall_mem_cons.2 ⟨rfl, (fun _ h => by cases h)⟩)⟩)⟩)⟩)⟩)⟩)⟩)⟩)⟩)⟩) rfl hB2 rfl ?_)
  intro w13 hu13 hb13
  have hz13 := hu13.size
  replace h0 := h0.upd hu13 fun i h1 h2 h => by have h : i = b2 := h; omega
  replace h1 := h1.upd hu13 fun i h1 h2 h => by have h : i = b2 := h; omega
  replace hU := hU.trans (hu13.mono fun i _ h => by have h : i = b2 := h; show n0 ≤ i; omega)
  replace hB1 := hB1.upd hu13 fun h => by have h : b1 = b2 := h; omega
  replace hB2 : Blk w13 b2 #[p.d0.pv, p.d0.cv, p.d0.bv, (.bool (p.d0.off)), p.d1.pv, p.d1.cv, p.d1.bv, (.bool (p.d1.off)), (.int .i64 (bf)), (.bool (bd))] 29 := hb13
  refine L_op rfl (X_assign (v := (.int .i64 (100))) rfl ?_)
  refine L_nil ?_
  refine T_n ?_
  refine W_ret ?_
  refine T_r ?_
  exact BQ_r (End_2 Try.results28 (RV_A A29 rfl hB2.atAll rfl) (v2 := .int .i64 100) rfl ⟨⟨p.d0, p.d1, bf, bd⟩, lo0, up0, lo1, up1, by rw [does_f hbo], h0, h1, .inl ⟨rfl, rfl⟩, .inl ⟨rfl, rfl⟩, .inl ⟨rfl, rfl⟩, .inl ⟨rfl, rfl⟩, by rw [does_f hbo]; exact PD.ext (burn_a p.da).symm (burn_b p.da).symm hbf hbd, hU.own hn0⟩)

theorem c_does1 (p : Pr) (g : DD → DD × Int) (fid : FuncId) (cap : List Value) (eg : ∀ args w, (callFunc fid args).run Try.prog w = .ok (.enter fid args) w) (w : World) (hfz : p.fz ≤ 1000000) (lo0 up0 lo1 up1 : Nat) (hup0 : up0 ≤ w.heap.size) (hup1 : up1 ≤ w.heap.size) (h0 : p.d0.Rd w lo0 up0) (h1 : p.d1.Rd w lo1 up1) (hcall : ∀ W, Ext w W → CT Try.prog fid ([Value.agg #[p.d1.pv, p.d1.cv, p.d1.bv, .bool p.d1.off]] ++ cap).toArray W fun v W' => ∃ d2 : Dk, v = .tuple #[.agg #[d2.pv, d2.cv, d2.bv, .bool d2.off], .int .i64 (g (p.da.dk 1)).2] ∧ d2.Ow W' W.heap.size W'.heap.size ∧ d2.da = (g (p.da.dk 1)).1 ∧ Ext W W') : CT Try.prog 28 #[(.agg #[p.d0.pv, p.d0.cv, p.d0.bv, (.bool (p.d0.off)), p.d1.pv, p.d1.cv, p.d1.bv, (.bool (p.d1.off)), (.int .i64 (p.fz)), (.bool (p.dn))]), (.int .i64 (1)), (.func (.func fid) #[] cap.toArray)] w fun v w' => ∃ (p2 : Pr) (l0 u0 l1 u1 : Nat), v = .tuple #[.agg #[p2.d0.pv, p2.d0.cv, p2.d0.bv, .bool p2.d0.off, p2.d1.pv, p2.d1.cv, p2.d1.bv, .bool p2.d1.off, .int .i64 p2.fz, .bool p2.dn], .int .i64 (doesD p.da 1 g).2] ∧ p2.d0.Rd w' l0 u0 ∧ p2.d1.Rd w' l1 u1 ∧ (l0 = lo0 ∧ u0 = up0 ∨ w.heap.size ≤ l0 ∧ u0 ≤ w'.heap.size) ∧ (l1 = lo1 ∧ u1 = up1 ∨ w.heap.size ≤ l1 ∧ u1 ≤ w'.heap.size) ∧ (l0 = lo0 ∧ u0 = up0 ∨ p2.d0.Ow w' l0 u0) ∧ (l1 = lo1 ∧ u1 = up1 ∨ p2.d1.Ow w' l1 u1) ∧ p2.da = (doesD p.da 1 g).1 ∧ Ext w w' := by
 obtain ⟨n0, hn0⟩ : ∃ n, n = w.heap.size := ⟨_, rfl⟩
 have hU : Upd (fun i => n0 ≤ i) w w := Upd.refl _ _
 rw [← hn0] at hup0 hup1
 refine CT_of Try.func28 rfl rfl rfl ?_
 refine W_seq ?_
 refine W_reg ?_
 refine L_op rfl (X_box (v := (.agg #[p.d0.pv, p.d0.cv, p.d0.bv, (.bool (p.d0.off)), p.d1.pv, p.d1.cv, p.d1.bv, (.bool (p.d1.off)), (.int .i64 (p.fz)), (.bool (p.dn))])) (c := ([p.d0.pv, p.d0.cv, p.d0.bv, (.bool (p.d0.off)), p.d1.pv, p.d1.cv, p.d1.bv, (.bool (p.d1.off)), (.int .i64 (p.fz)), (.bool (p.dn))]).toArray) rfl rfl ?_)
 intro b1 w1 hn1
 have hbn1 := hn1.num; have hbs1 := hn1.size
 replace h0 := h0.ext hn1.ext
 replace h1 := h1.ext hn1.ext
 replace hU := hU.trans (Ext.upd hn1.ext)
 have hB1 := hn1.blk
 refine L_op rfl (X_alloc (z := (.agg #[(.slice none 0 0), (.slice none 0 0), (.slice none 0 0), (.bool (false)), (.slice none 0 0), (.slice none 0 0), (.slice none 0 0), (.bool (false)), (.int .i64 (0)), (.bool (false))])) (c := #[(.slice none 0 0), (.slice none 0 0), (.slice none 0 0), (.bool (false)), (.slice none 0 0), (.slice none 0 0), (.slice none 0 0), (.bool (false)), (.int .i64 (0)), (.bool (false))]) Zv29 rfl ?_)
 intro b2 w2 hn2
 have hbn2 := hn2.num; have hbs2 := hn2.size
 replace h0 := h0.ext hn2.ext
 replace h1 := h1.ext hn2.ext
 replace hU := hU.trans (Ext.upd hn2.ext)
 replace hB1 := hB1.ext hn2.ext
 have hB2 := hn2.blk
 refine L_op rfl (X_assign (v := (.int .i64 (0))) rfl ?_)
 refine L_nil ?_
 refine T_n ?_
 refine W_seq ?_
 refine W_reg ?_
 refine L_op rfl (X_loadA (p := (ptr b1 (0))) (xs := [p.d0.pv, p.d0.cv, p.d0.bv, (.bool (p.d0.off)), p.d1.pv, p.d1.cv, p.d1.bv, (.bool (p.d1.off)), (.int .i64 (p.fz)), (.bool (p.dn))]) A29 rfl hB1.atAll rfl ?_)
 have hcr_ := c_burn p w2 hfz lo0 up0 lo1 up1 (by omega) (by omega) h0 h1
 refine L_op rfl (X_fn (vs := [(.agg ([p.d0.pv, p.d0.cv, p.d0.bv, (.bool (p.d0.off)), p.d1.pv, p.d1.cv, p.d1.bv, (.bool (p.d1.off)), (.int .i64 (p.fz)), (.bool (p.dn))]).toArray)]) en42 rfl ?_)
 refine CT.mono hcr_ ?_
 clear hcr_
 rintro _ w3 ⟨rfl, hu3⟩
 have hz3 := hu3.size
 replace h0 := h0.ext hu3
 replace h1 := h1.ext hu3
 replace hU := hU.trans (Ext.upd hu3)
 replace hB1 := hB1.ext hu3
 replace hB2 := hB2.ext hu3
 obtain ⟨bf, hbf⟩ : ∃ z, z = (burnD p.da).1.fz := ⟨_, rfl⟩
 obtain ⟨bd, hbd⟩ : ∃ z, z = (burnD p.da).1.dn := ⟨_, rfl⟩
 rw [← hbf, ← hbd]
 rcases Bool.eq_false_or_eq_true (burnD p.da).2 with hbo | hbo
 ·rw [hbo]
  refine L_op rfl (X_move (v := (.tuple #[(.agg #[p.d0.pv, p.d0.cv, p.d0.bv, (.bool (p.d0.off)), p.d1.pv, p.d1.cv, p.d1.bv, (.bool (p.d1.off)), (.int .i64 (bf)), (.bool (bd))]), (.bool (true))])) rfl ?_)
  refine L_op rfl (X_extract (l := [(.agg #[p.d0.pv, p.d0.cv, p.d0.bv, (.bool (p.d0.off)), p.d1.pv, p.d1.cv, p.d1.bv, (.bool (p.d1.off)), (.int .i64 (bf)), (.bool (bd))]), (.bool (true))]) (v := (.agg #[p.d0.pv, p.d0.cv, p.d0.bv, (.bool (p.d0.off)), p.d1.pv, p.d1.cv, p.d1.bv, (.bool (p.d1.off)), (.int .i64 (bf)), (.bool (bd))])) rfl rfl ?_)
  refine L_op rfl (X_extract (l := [(.agg #[p.d0.pv, p.d0.cv, p.d0.bv, (.bool (p.d0.off)), p.d1.pv, p.d1.cv, p.d1.bv, (.bool (p.d1.off)), (.int .i64 (bf)), (.bool (bd))]), (.bool (true))]) (v := (.bool (true))) rfl rfl ?_)
  refine L_op0 (X_storeW (b := b1) (ys := [p.d0.pv, p.d0.cv, p.d0.bv, (.bool (p.d0.off)), p.d1.pv, p.d1.cv, p.d1.bv, (.bool (p.d1.off)), (.int .i64 (bf)), (.bool (bd))]) A29 rfl rfl (List.forall_mem_cons.2 ⟨(h0.1.sv.one), (List.forall_mem_cons.2 ⟨(h0.2.1.sv.one), (List.forall_mem_cons.2 ⟨(h0.2.2.sv.one), (List.forall_mem_cons.2 ⟨rfl, (List.forall_mem_cons.2 ⟨(h1.1.sv.one), (List.forall_mem_cons.2 ⟨(h1.2.1.sv.one), (List.forall_mem_cons.2 ⟨(h1.2.2.sv.one), (List.forall_mem_cons.2 ⟨rfl, (List.forall_mem_cons.2 ⟨rfl, (List.forall_mem_cons.2 ⟨rfl, (fun _ h => by cases h)⟩)⟩)⟩)⟩)⟩)⟩)⟩)⟩)⟩)⟩) rfl hB1 rfl ?_)
  intro w4 hu4 hb4
  have hz4 := hu4.size
  replace h0 := h0.upd hu4 fun i h1 h2 h => by have h : i = b1 := h; omega
  replace h1 := h1.upd hu4 fun i h1 h2 h => by have h : i = b1 := h; omega
  replace hU := hU.trans (hu4.mono fun i _ h => by have h : i = b1 := h; show n0 ≤ i; omega)
  replace hB2 := hB2.upd hu4 fun h => by have h : b2 = b1 := h; omega
  replace hB1 : Blk w4 b1 #[p.d0.pv, p.d0.cv, p.d0.bv, (.bool (p.d0.off)), p.d1.pv, p.d1.cv, p.d1.bv, (.bool (p.d1.off)), (.int .i64 (bf)), (.bool (bd))] 29 := hb4
  refine L_op rfl (X_assign (v := (.bool (true))) rfl ?_)
  refine L_nil ?_
  refine T_n ?_
  refine W_seq ?_
  refine W_seq ?_
  refine W_reg ?_
  refine L_op rfl (X_move (v := (.bool (true))) rfl ?_)
  refine L_op rfl (X_not (b := true) (r := false) rfl rfl ?_)
  refine L_nil ?_
  refine T_n ?_
  refine W_cf rfl ?_
  refine W_skip ?_
  refine T_n ?_
  refine W_seq ?_
  refine W_reg ?_
  refine L_op rfl (X_move (v := (.func (.func fid) #[] cap.toArray)) rfl ?_)
  refine L_op rfl (X_move (v := (.int .i64 (1))) rfl ?_)
  refine L_op rfl (X_fldP (b := b1) (o := 0) (r := 0) Fd29_0 rfl rfl ?_)
  refine L_op rfl (X_idxAP (len := 2) (sz := 4) (b := b1) (o := 0) (k := .i64) (i := 1) (r := 4) Try.underlying27 Z26 rfl rfl (by omega) (by omega) rfl ?_)
  refine L_op rfl (X_loadA (p := (ptr b1 (4))) (xs := [p.d1.pv, p.d1.cv, p.d1.bv, (.bool (p.d1.off))]) A26 rfl (hB1.part (o := 4) (n := 4) rfl) rfl ?_)
  obtain ⟨s_d_, hs_d_⟩ : ∃ n, n = w4.heap.size := ⟨_, rfl⟩
  have hcr_ := hcall w4 (hU.own hn0)
  refine L_op rfl (X_cl (vs := [(.agg #[p.d1.pv, p.d1.cv, p.d1.bv, (.bool (p.d1.off))])]) (cap := cap) eg rfl rfl ?_)
  refine CT.mono hcr_ ?_
  clear hcr_
  rintro _ w5 ⟨d_, rfl, hd_o, hd_a, hu5⟩
  have hz5 := hu5.size
  obtain ⟨ed_, hed_⟩ : ∃ z, z = (g (p.da.dk 1)).2 := ⟨_, rfl⟩
  rw [← hed_]
  obtain ⟨u_d_, hu_d_⟩ : ∃ n, n = w5.heap.size := ⟨_, rfl⟩
  rw [← hs_d_, ← hu_d_] at hd_o
  have hd_ := hd_o.rd
  replace h0 := h0.ext hu5
  replace h1 := h1.ext hu5
  replace hU := hU.trans (Ext.upd hu5)
  replace hB2 := hB2.ext hu5
  replace hB1 := hB1.ext hu5
  refine L_op rfl (X_move (v := (.tuple #[(.agg #[d_.pv, d_.cv, d_.bv, (.bool (d_.off))]), (.int .i64 (ed_))])) rfl ?_)
  refine L_op rfl (X_extract (l := [(.agg #[d_.pv, d_.cv, d_.bv, (.bool (d_.off))]), (.int .i64 (ed_))]) (v := (.agg #[d_.pv, d_.cv, d_.bv, (.bool (d_.off))])) rfl rfl ?_)
  refine L_op rfl (X_extract (l := [(.agg #[d_.pv, d_.cv, d_.bv, (.bool (d_.off))]), (.int .i64 (ed_))]) (v := (.int .i64 (ed_))) rfl rfl ?_)
  refine L_op rfl (X_alloc (z := (.agg #[(.slice none 0 0), (.slice none 0 0), (.slice none 0 0), (.bool (false))])) (c := #[(.slice none 0 0), (.slice none 0 0), (.slice none 0 0), (.bool (false))]) Zv26 rfl ?_)
  intro b6 w6 hn6
  have hbn6 := hn6.num; have hbs6 := hn6.size
  replace h0 := h0.ext hn6.ext
  replace h1 := h1.ext hn6.ext
  replace hU := hU.trans (Ext.upd hn6.ext)
  replace hB2 := hB2.ext hn6.ext
  replace hB1 := hB1.ext hn6.ext
  replace hd_ := hd_.ext hn6.ext
  replace hd_o := hd_o.ext hn6.ext
  have hB6 := hn6.blk
  refine L_op0 (X_storeW (b := b6) (ys := [d_.pv, d_.cv, d_.bv, (.bool (d_.off))]) A26 rfl rfl (List.forall_mem_cons.2 ⟨(hd_.1.sv.one), (List.forall_mem_cons.2 ⟨(hd_.2.1.sv.one), (List.forall_mem_cons.2 ⟨(hd_.2.2.sv.one), (List.forall_mem_cons.2 ⟨rfl, (fun _ h => by cases h)⟩)⟩)⟩)⟩) rfl hB6 rfl ?_)
  intro w7 hu7 hb7
  have hz7 := hu7.size
  replace h0 := h0.upd hu7 fun i h1 h2 h => by have h : i = b6 := h; omega
  replace h1 := h1.upd hu7 fun i h1 h2 h => by have h : i = b6 := h; omega
  replace hU := hU.trans (hu7.mono fun i _ h => by have h : i = b6 := h; show n0 ≤ i; omega)
  replace hB2 := hB2.upd hu7 fun h => by have h : b2 = b6 := h; omega
  replace hB1 := hB1.upd hu7 fun h => by have h : b1 = b6 := h; omega
  replace hd_ := hd_.upd hu7 fun i h1 h2 h => by have h : i = b6 := h; omega
  replace hd_o := hd_o.upd hu7 fun i h1 h2 h => by have h : i = b6 := h; omega
  replace hB6 : Blk w7 b6 #[d_.pv, d_.cv, d_.bv, (.bool (d_.off))] 26 := hb7
  refine L_op rfl (X_assign (v := (.int .i64 (ed_))) rfl ?_)
  refine L_nil ?_
  refine T_n ?_
  refine W_seq ?_
  refine W_seq ?_
  refine W_reg ?_
  refine L_op rfl (X_move (v := (.int .i64 (ed_))) rfl ?_)
  by_cases hc8 : (ed_ : Int) = (0)
  ·refine L_op rfl (X_cmp (k := .i64) (a := ed_) (b := 0) (r := true) rfl rfl rfl (decide_eq_true (p := ((ed_) : Int) = ((0) : Int)) (by omega)) ?_)
   refine L_nil ?_
   refine T_n ?_
   refine W_ct rfl ?_
   refine W_reg ?_
   refine L_op rfl (X_move (v := (.int .i64 (1))) rfl ?_)
   refine L_op rfl (X_loadA (p := (ptr b6 (0))) (xs := [d_.pv, d_.cv, d_.bv, (.bool (d_.off))]) A26 rfl hB6.atAll rfl ?_)
   refine L_op rfl (X_fldP (b := b1) (o := 0) (r := 0) Fd29_0 rfl rfl ?_)
   refine L_op rfl (X_idxAP (len := 2) (sz := 4) (b := b1) (o := 0) (k := .i64) (i := 1) (r := 4) Try.underlying27 Z26 rfl rfl (by omega) (by omega) rfl ?_)
   refine L_op0 (X_storeA (b := b1) (o := 4) (ys := [d_.pv, d_.cv, d_.bv, (.bool (d_.off))]) A26 rfl rfl (List.forall_mem_cons.2 ⟨(hd_.1.sv.one), (List.forall_mem_cons.2 ⟨(hd_.2.1.sv.one), (List.forall_mem_cons.2 ⟨(hd_.2.2.sv.one), (List.forall_mem_cons.2 ⟨rfl, (fun _ h => by cases h)⟩)⟩)⟩)⟩) rfl hB1 (by show 4 + 4 ≤ 10; decide) ?_)
   intro w9 hu9 hb9
   have hz9 := hu9.size
   replace h0 := h0.upd hu9 fun i h1 h2 h => by have h : i = b1 := h; omega
   replace h1 := h1.upd hu9 fun i h1 h2 h => by have h : i = b1 := h; omega
   replace hU := hU.trans (hu9.mono fun i _ h => by have h : i = b1 := h; show n0 ≤ i; omega)
   replace hB2 := hB2.upd hu9 fun h => by have h : b2 = b1 := h; omega
   replace hd_ := hd_.upd hu9 fun i h1 h2 h => by have h : i = b1 := h; omega
   replace hd_o := hd_o.upd hu9 fun i h1 h2 h => by have h : i = b1 := h; omega
   replace hB6 := hB6.upd hu9 fun h => by have h : b6 = b1 := h; omega
   replace hB1 : Blk w9 b1 #[p.d0.pv, p.d0.cv, p.d0.bv, (.bool (p.d0.off)), d_.pv, d_.cv, d_.bv, (.bool (d_.off)), (.int .i64 (bf)), (.bool (bd))] 29 := hb9
   refine L_nil ?_
   refine T_n ?_
   refine W_seq ?_
   refine W_reg ?_
   refine L_op rfl (X_loadA (p := (ptr b1 (0))) (xs := [p.d0.pv, p.d0.cv, p.d0.bv, (.bool (p.d0.off)), d_.pv, d_.cv, d_.bv, (.bool (d_.off)), (.int .i64 (bf)), (.bool (bd))]) A29 rfl hB1.atAll rfl ?_)
   refine L_op rfl (X_move (v := (.int .i64 (ed_))) rfl ?_)
   refine L_op0 (X_storeW (b := b2) (ys := [p.d0.pv, p.d0.cv, p.d0.bv, (.bool (p.d0.off)), d_.pv, d_.cv, d_.bv, (.bool (d_.off)), (.int .i64 (bf)), (.bool (bd))]) A29 rfl rfl (List.forall_mem_cons.2 ⟨(h0.1.sv.one), (List.forall_mem_cons.2 ⟨(h0.2.1.sv.one), (List.forall_mem_cons.2 ⟨(h0.2.2.sv.one), (List.forall_mem_cons.2 ⟨rfl, (List.forall_mem_cons.2 ⟨(hd_.1.sv.one), (List.forall_mem_cons.2 ⟨(hd_.2.1.sv.one), (List.forall_mem_cons.2 ⟨(hd_.2.2.sv.one), (List.forall_mem_cons.2 ⟨rfl, (List.forall_mem_cons.2 ⟨rfl, (List.forall_mem_cons.2 ⟨rfl, (fun _ h => by cases h)⟩)⟩)⟩)⟩)⟩)⟩)⟩)⟩)⟩)⟩) rfl hB2 rfl ?_)
   intro w10 hu10 hb10
   have hz10 := hu10.size
   replace h0 := h0.upd hu10 fun i h1 h2 h => by have h : i = b2 := h; omega
   replace h1 := h1.upd hu10 fun i h1 h2 h => by have h : i = b2 := h; omega
   replace hU := hU.trans (hu10.mono fun i _ h => by have h : i = b2 := h; show n0 ≤ i; omega)
   replace hd_ := hd_.upd hu10 fun i h1 h2 h => by have h : i = b2 := h; omega
   replace hd_o := hd_o.upd hu10 fun i h1 h2 h => by have h : i = b2 := h; omega
   replace hB6 := hB6.upd hu10 fun h => by have h : b6 = b2 := h; omega
   replace hB1 := hB1.upd hu10 fun h => by have h : b1 = b2 := h; omega
   replace hB2 : Blk w10 b2 #[p.d0.pv, p.d0.cv, p.d0.bv, (.bool (p.d0.off)), d_.pv, d_.cv, d_.bv, (.bool (d_.off)), (.int .i64 (bf)), (.bool (bd))] 29 := hb10
   refine L_op rfl (X_assign (v := (.int .i64 (ed_))) rfl ?_)
   refine L_nil ?_
   refine T_n ?_
   refine W_ret ?_
   have hd0_ : (g (p.da.dk 1)).2 = 0 := by rw [← hed_]; assumption
   have he2_ : ed_ = (doesD p.da 1 g).2 := by rw [does_s hbo hd0_]; assumption
   exact BQ_r (End_2 Try.results28 (RV_A A29 rfl hB2.atAll rfl) (v2 := .int .i64 ed_) rfl ⟨⟨p.d0, d_, bf, bd⟩, lo0, up0, s_d_, u_d_, by rw [he2_], h0, hd_, .inl ⟨rfl, rfl⟩, .inr ⟨by omega, by omega⟩, .inl ⟨rfl, rfl⟩, .inr hd_o, by rw [does_s hbo hd0_]; exact PD.ext (burn_a p.da).symm hd_a hbf hbd, hU.own hn0⟩)
  ·refine L_op rfl (X_cmp (k := .i64) (a := ed_) (b := 0) (r := false) rfl rfl rfl (decide_eq_false (p := ((ed_) : Int) = ((0) : Int)) (by omega)) ?_)
   refine L_nil ?_
   refine T_n ?_
   refine W_cf rfl ?_
   refine W_skip ?_
   refine T_n ?_
   refine W_seq ?_
   refine W_reg ?_
   refine L_op rfl (X_loadA (p := (ptr b1 (0))) (xs := [p.d0.pv, p.d0.cv, p.d0.bv, (.bool (p.d0.off)), p.d1.pv, p.d1.cv, p.d1.bv, (.bool (p.d1.off)), (.int .i64 (bf)), (.bool (bd))]) A29 rfl hB1.atAll rfl ?_)
   refine L_op rfl (X_move (v := (.int .i64 (ed_))) rfl ?_)
   refine L_op0 (X_storeW (b := b2) (ys := [p.d0.pv, p.d0.cv, p.d0.bv, (.bool (p.d0.off)), p.d1.pv, p.d1.cv, p.d1.bv, (.bool (p.d1.off)), (.int .i64 (bf)), (.bool (bd))]) A29 rfl rfl (List.forall_mem_cons.2 ⟨(h0.1.sv.one), (List.forall_mem_cons.2 ⟨(h0.2.1.sv.one), (List.forall_mem_cons.2 ⟨(h0.2.2.sv.one), (List.forall_mem_cons.2 ⟨rfl, (List.forall_mem_cons.2 ⟨(h1.1.sv.one), (List.forall_mem_cons.2 ⟨(h1.2.1.sv.one), (List.forall_mem_cons.2 ⟨(h1.2.2.sv.one), (List.forall_mem_cons.2 ⟨rfl, (List.forall_mem_cons.2 ⟨rfl, (List.forall_mem_cons.2 ⟨rfl, (fun _ h => by cases h)⟩)⟩)⟩)⟩)⟩)⟩)⟩)⟩)⟩)⟩) rfl hB2 rfl ?_)
   intro w11 hu11 hb11
   have hz11 := hu11.size
   replace h0 := h0.upd hu11 fun i h1 h2 h => by have h : i = b2 := h; omega
   replace h1 := h1.upd hu11 fun i h1 h2 h => by have h : i = b2 := h; omega
   replace hU := hU.trans (hu11.mono fun i _ h => by have h : i = b2 := h; show n0 ≤ i; omega)
   replace hB1 := hB1.upd hu11 fun h => by have h : b1 = b2 := h; omega
   replace hd_ := hd_.upd hu11 fun i h1 h2 h => by have h : i = b2 := h; omega
   replace hd_o := hd_o.upd hu11 fun i h1 h2 h => by have h : i = b2 := h; omega
   replace hB6 := hB6.upd hu11 fun h => by have h : b6 = b2 := h; omega
   replace hB2 : Blk w11 b2 #[p.d0.pv, p.d0.cv, p.d0.bv, (.bool (p.d0.off)), p.d1.pv, p.d1.cv, p.d1.bv, (.bool (p.d1.off)), (.int .i64 (bf)), (.bool (bd))] 29 := hb11
   refine L_op rfl (X_assign (v := (.int .i64 (ed_))) rfl ?_)
   refine L_nil ?_
   refine T_n ?_
   refine W_ret ?_
   have hd0_ : (g (p.da.dk 1)).2 ≠ 0 := by rw [← hed_]; assumption
   have he2_ : ed_ = (doesD p.da 1 g).2 := by rw [does_k hbo hd0_]; exact hed_
   exact BQ_r (End_2 Try.results28 (RV_A A29 rfl hB2.atAll rfl) (v2 := .int .i64 ed_) rfl ⟨⟨p.d0, p.d1, bf, bd⟩, lo0, up0, lo1, up1, by rw [he2_], h0, h1, .inl ⟨rfl, rfl⟩, .inl ⟨rfl, rfl⟩, .inl ⟨rfl, rfl⟩, .inl ⟨rfl, rfl⟩, by rw [does_k hbo hd0_]; exact PD.ext (burn_a p.da).symm (burn_b p.da).symm hbf hbd, hU.own hn0⟩)
 ·rw [hbo]
  refine L_op rfl (X_move (v := (.tuple #[(.agg #[p.d0.pv, p.d0.cv, p.d0.bv, (.bool (p.d0.off)), p.d1.pv, p.d1.cv, p.d1.bv, (.bool (p.d1.off)), (.int .i64 (bf)), (.bool (bd))]), (.bool (false))])) rfl ?_)
  refine L_op rfl (X_extract (l := [(.agg #[p.d0.pv, p.d0.cv, p.d0.bv, (.bool (p.d0.off)), p.d1.pv, p.d1.cv, p.d1.bv, (.bool (p.d1.off)), (.int .i64 (bf)), (.bool (bd))]), (.bool (false))]) (v := (.agg #[p.d0.pv, p.d0.cv, p.d0.bv, (.bool (p.d0.off)), p.d1.pv, p.d1.cv, p.d1.bv, (.bool (p.d1.off)), (.int .i64 (bf)), (.bool (bd))])) rfl rfl ?_)
  refine L_op rfl (X_extract (l := [(.agg #[p.d0.pv, p.d0.cv, p.d0.bv, (.bool (p.d0.off)), p.d1.pv, p.d1.cv, p.d1.bv, (.bool (p.d1.off)), (.int .i64 (bf)), (.bool (bd))]), (.bool (false))]) (v := (.bool (false))) rfl rfl ?_)
  refine L_op0 (X_storeW (b := b1) (ys := [p.d0.pv, p.d0.cv, p.d0.bv, (.bool (p.d0.off)), p.d1.pv, p.d1.cv, p.d1.bv, (.bool (p.d1.off)), (.int .i64 (bf)), (.bool (bd))]) A29 rfl rfl (List.forall_mem_cons.2 ⟨(h0.1.sv.one), (List.forall_mem_cons.2 ⟨(h0.2.1.sv.one), (List.forall_mem_cons.2 ⟨(h0.2.2.sv.one), (List.forall_mem_cons.2 ⟨rfl, (List.forall_mem_cons.2 ⟨(h1.1.sv.one), (List.forall_mem_cons.2 ⟨(h1.2.1.sv.one), (List.forall_mem_cons.2 ⟨(h1.2.2.sv.one), (List.forall_mem_cons.2 ⟨rfl, (List.forall_mem_cons.2 ⟨rfl, (List.forall_mem_cons.2 ⟨rfl, (fun _ h => by cases h)⟩)⟩)⟩)⟩)⟩)⟩)⟩)⟩)⟩)⟩) rfl hB1 rfl ?_)
  intro w12 hu12 hb12
  have hz12 := hu12.size
  replace h0 := h0.upd hu12 fun i h1 h2 h => by have h : i = b1 := h; omega
  replace h1 := h1.upd hu12 fun i h1 h2 h => by have h : i = b1 := h; omega
  replace hU := hU.trans (hu12.mono fun i _ h => by have h : i = b1 := h; show n0 ≤ i; omega)
  replace hB2 := hB2.upd hu12 fun h => by have h : b2 = b1 := h; omega
  replace hB1 : Blk w12 b1 #[p.d0.pv, p.d0.cv, p.d0.bv, (.bool (p.d0.off)), p.d1.pv, p.d1.cv, p.d1.bv, (.bool (p.d1.off)), (.int .i64 (bf)), (.bool (bd))] 29 := hb12
  refine L_op rfl (X_assign (v := (.bool (false))) rfl ?_)
  refine L_nil ?_
  refine T_n ?_
  refine W_seq ?_
  refine W_seq ?_
  refine W_reg ?_
  refine L_op rfl (X_move (v := (.bool (false))) rfl ?_)
  refine L_op rfl (X_not (b := false) (r := true) rfl rfl ?_)
  refine L_nil ?_
  refine T_n ?_
  refine W_ct rfl ?_
  refine W_seq ?_
  refine W_reg ?_
  refine L_op rfl (X_loadA (p := (ptr b1 (0))) (xs := [p.d0.pv, p.d0.cv, p.d0.bv, (.bool (p.d0.off)), p.d1.pv, p.d1.cv, p.d1.bv, (.bool (p.d1.off)), (.int .i64 (bf)), (.bool (bd))]) A29 rfl hB1.atAll rfl ?_)
  refine L_op0 (X_storeW (b := b2) (ys := [p.d0.pv, p.d0.cv, p.d0.bv, (.bool (p.d0.off)), p.d1.pv, p.d1.cv, p.d1.bv, (.bool (p.d1.off)), (.int .i64 (bf)), (.bool (bd))]) A29 rfl rfl (List.forall_mem_cons.2 ⟨(h0.1.sv.one), (List.forall_mem_cons.2 ⟨(h0.2.1.sv.one), (List.forall_mem_cons.2 ⟨(h0.2.2.sv.one), (List.forall_mem_cons.2 ⟨rfl, (List.forall_mem_cons.2 ⟨(h1.1.sv.one), (List.forall_mem_cons.2 ⟨(h1.2.1.sv.one), (List.forall_mem_cons.2 ⟨(h1.2.2.sv.one), (List.forall_mem_cons.2 ⟨rfl, (List.forall_mem_cons.2 ⟨rfl, (List.forall_mem_cons.2 ⟨rfl, (fun _ h => by cases h)⟩)⟩)⟩)⟩)⟩)⟩)⟩)⟩)⟩)⟩) rfl hB2 rfl ?_)
  intro w13 hu13 hb13
  have hz13 := hu13.size
  replace h0 := h0.upd hu13 fun i h1 h2 h => by have h : i = b2 := h; omega
  replace h1 := h1.upd hu13 fun i h1 h2 h => by have h : i = b2 := h; omega
  replace hU := hU.trans (hu13.mono fun i _ h => by have h : i = b2 := h; show n0 ≤ i; omega)
  replace hB1 := hB1.upd hu13 fun h => by have h : b1 = b2 := h; omega
  replace hB2 : Blk w13 b2 #[p.d0.pv, p.d0.cv, p.d0.bv, (.bool (p.d0.off)), p.d1.pv, p.d1.cv, p.d1.bv, (.bool (p.d1.off)), (.int .i64 (bf)), (.bool (bd))] 29 := hb13
  refine L_op rfl (X_assign (v := (.int .i64 (100))) rfl ?_)
  refine L_nil ?_
  refine T_n ?_
  refine W_ret ?_
  refine T_r ?_
  exact BQ_r (End_2 Try.results28 (RV_A A29 rfl hB2.atAll rfl) (v2 := .int .i64 100) rfl ⟨⟨p.d0, p.d1, bf, bd⟩, lo0, up0, lo1, up1, by rw [does_f hbo], h0, h1, .inl ⟨rfl, rfl⟩, .inl ⟨rfl, rfl⟩, .inl ⟨rfl, rfl⟩, .inl ⟨rfl, rfl⟩, by rw [does_f hbo]; exact PD.ext (burn_a p.da).symm (burn_b p.da).symm hbf hbd, hU.own hn0⟩)
end Go.Proofs.Ytcjfkkoapncnhaa
