/-
 The walk of MirrorFuse. (Printed by wip/gen/t10n.py of this repo.)
-/
import Derived.Test.YtcjfkkoapncnhaaMirLawC
import Derived.Test.YtcjfkkoapncnhaaMiX
import Derived.Test.YtcjfkkoapncnhaaBaseWT
namespace Go.Proofs.Ytcjfkkoapncnhaa
open Go Go.SL Go.Proofs
set_option linter.unusedVariables false

/-- a loop's state: some of a fuse is burnt -/
structure FuseI (p : PD) (f : Int) (z : PD) (k : Nat) : Prop where
 dn : z.dn = false
 fz : z.fz = f - k
 oa : z.a.off = false
 ob : z.b.off = false
 ma : z.a.May
 mb : z.b.May
 la : z.a.cs.length ≤ k
 lb : z.b.cs.length ≤ k
 pa : z.a.ps.length = p.a.ps.length
 pb : z.b.ps.length = p.b.ps.length
theorem fuse_0 {p z : PD} {pg : Pg} {k : Nat} {a f : Int} (h : FuseI p f z k) (hk : (k : Int) < f) (hf : f ≤ 20) (h0 : 0 ≤ a) (h1 : a < (p.a.ps.length : Int)) : putD z 0 a pg = (⟨⟨z.a.ps, z.a.cs ++ [(a, pg)], z.a.bs, z.a.off⟩, z.b, z.fz - 1, z.dn⟩, 0) ∧ FuseI p f (putD z 0 a pg).1 (k + 1) := by
 have hl := h.la
 have hb : burnD z = ({ z with fz := z.fz - 1 }, true) := burn_p h.dn (by rw [h.fz]; omega)
 have hp := put_go (p := z) (i := 0) (n := a) (pg := pg) (by rw [hb]) h.ma h.oa (by show z.a.cs.length < 2000; omega) h0 (by show a < (z.a.ps.length : Int); rw [h.pa]; exact h1)
 rw [hb] at hp
 replace hp : putD z 0 a pg = (⟨⟨z.a.ps, z.a.cs ++ [(a, pg)], z.a.bs, z.a.off⟩, z.b, z.fz - 1, z.dn⟩, 0) := hp
 refine ⟨hp, ?_⟩
 rw [hp]
 exact ⟨h.dn, by show z.fz - 1 = f - ((k + 1 : Nat) : Int); rw [h.fz]; omega, h.oa, h.ob, (show MayD z.a.ps.length (z.a.cs ++ [(a, pg)]) z.a.bs z.a.off from mayD_push h.ma h0 (by rw [h.pa]; exact h1) h.oa (by omega)), h.mb, by show (z.a.cs ++ [(a, pg)]).length ≤ _; rw [List.length_append]; show z.a.cs.length + 1 ≤ _; omega, by have := h.lb; show z.b.cs.length ≤ _; omega, h.pa, h.pb⟩
theorem fuse_1 {p z : PD} {pg : Pg} {k : Nat} {a f : Int} (h : FuseI p f z k) (hk : (k : Int) < f) (hf : f ≤ 20) (h0 : 0 ≤ a) (h1 : a < (p.b.ps.length : Int)) : putD z 1 a pg = (⟨z.a, ⟨z.b.ps, z.b.cs ++ [(a, pg)], z.b.bs, z.b.off⟩, z.fz - 1, z.dn⟩, 0) ∧ FuseI p f (putD z 1 a pg).1 (k + 1) := by
 have hl := h.lb
 have hb : burnD z = ({ z with fz := z.fz - 1 }, true) := burn_p h.dn (by rw [h.fz]; omega)
 have hp := put_go (p := z) (i := 1) (n := a) (pg := pg) (by rw [hb]) h.mb h.ob (by show z.b.cs.length < 2000; omega) h0 (by show a < (z.b.ps.length : Int); rw [h.pb]; exact h1)
 rw [hb] at hp
 replace hp : putD z 1 a pg = (⟨z.a, ⟨z.b.ps, z.b.cs ++ [(a, pg)], z.b.bs, z.b.off⟩, z.fz - 1, z.dn⟩, 0) := hp
 refine ⟨hp, ?_⟩
 rw [hp]
 exact ⟨h.dn, by show z.fz - 1 = f - ((k + 1 : Nat) : Int); rw [h.fz]; omega, h.oa, h.ob, h.ma, (show MayD z.b.ps.length (z.b.cs ++ [(a, pg)]) z.b.bs z.b.off from mayD_push h.mb h0 (by rw [h.pb]; exact h1) h.ob (by omega)), by have := h.la; show z.a.cs.length ≤ _; omega, by show (z.b.cs ++ [(a, pg)]).length ≤ _; rw [List.length_append]; show z.b.cs.length + 1 ≤ _; omega, h.pa, h.pb⟩
theorem put_out {z : PD} {pg : Pg} {a : Int} (hd : z.dn = false) (hf : z.fz = 0) : putD z 0 a pg = ({ z with dn := true }, 100) := by
 have hb := burn_0 hd hf
 unfold putD
 rw [does_f (by rw [hb]), hb]
theorem wrap_u16 {a : Int} (h0 : 0 ≤ a) (h1 : a < 65536) : IntKind.u16.wrap a = a := by
 have e : (2 : Int) ^ 16 = 65536 := by decide
 simp only [IntKind.wrap, IntKind.signed, IntKind.bits, e, Bool.false_and, Bool.false_eq_true, if_false]
 omega
theorem built31 (a : Int) : Try.prog.built 31 [(0, .int .u16 a), (1, .int .u16 0)] = some #[.int .u16 a, .int .u16 0] := by kernel_rfl
theorem built60 : Try.prog.built 60 [] = some #[.slice none 0 0, .slice none 0 0] := by kernel_rfl
theorem ptok3 {n : Int} (h0 : 0 ≤ n) (h1 : n < 65536) : PtOk (3, n, 0, 0, 0) := by
 refine ⟨⟨?_, ?_⟩, ⟨h0, h1⟩, ⟨?_, ?_⟩, ⟨?_, ?_⟩, ⟨?_, ?_⟩⟩
 ·show (0 : Int) ≤ 3; decide
 ·show (3 : Int) < 256; decide
 ·show (0 : Int) ≤ 0; decide
 ·show (0 : Int) < 65536; decide
 ·show (0 : Int) ≤ 0; decide
 ·show (0 : Int) < 4294967296; decide
 ·show (0 : Int) ≤ 0; decide
 ·show (0 : Int) < 18446744073709551616; decide

theorem built29e {a0 b0 c0 a1 b1 c1 : Value} {n1 n2 n3 n4 n5 n6 : Nat} (h1 : SV a0 n1) (h2 : SV b0 n2) (h3 : SV c0 n3) (h4 : SV a1 n4) (h5 : SV b1 n5) (h6 : SV c1 n6) (o0 o1 : Bool) : Try.prog.built 29 [(0, .agg #[a0, b0, c0, .bool o0, a1, b1, c1, .bool o1]), (1, .int .i64 (-1))] = some #[a0, b0, c0, .bool o0, a1, b1, c1, .bool o1, .int .i64 (-1), .bool false] := by
 obtain ⟨p1, q1, rfl, _⟩ := h1
 obtain ⟨p2, q2, rfl, _⟩ := h2
 obtain ⟨p3, q3, rfl, _⟩ := h3
 obtain ⟨p4, q4, rfl, _⟩ := h4
 obtain ⟨p5, q5, rfl, _⟩ := h5
 obtain ⟨p6, q6, rfl, _⟩ := h6
 kernel_rfl

theorem c_crashRD (d : Dk) (w : World) (lo up : Nat) (hup : up ≤ w.heap.size) (h : d.Rd w lo up) (hz : Sz d.da 1048576) : CT Try.prog 38 #[.agg #[d.pv, d.cv, d.bv, .bool d.off], .slice none 0 0] w fun v w' => ∃ d2 : Dk, v = .agg #[d2.pv, d2.cv, d2.bv, .bool d2.off] ∧ d2.Rd w' w.heap.size w'.heap.size ∧ d2.cs = [] ∧ d2.ps.length = d.ps.length ∧ Ext w w' := by
 refine CT.mono (c_crash d.pv d.cv d.bv d.ps d.cs d.bs d.off (.slice none 0 0) [] w lo up hup h.1 h.2.1 h.2.2 (Rd.nil _ 1) hz.1 hz.2.1 hz.2.2) ?_
 rintro v w' ⟨p2, i2, rfl, hP, hI, hu⟩
 exact ⟨⟨p2, .slice none 0 0, i2, _, [], _, d.off⟩, rfl, ⟨hP.rd, NRd.nil _ _ _, hI.rd⟩, rfl, crSt_length _ _ _ _ _, hu⟩

theorem c_settle0 (d : Dk) (bK : Nat) (w : World) (lo up : Nat) (hup : up ≤ w.heap.size) (h : d.Rd w lo up) (hz : Sz d.da 1048576) (hN : Blk w bK #[.slice none 0 0, .slice none 0 0] 60) : CT Try.prog 37 #[(.int .i64 (0)), (.agg #[d.pv, d.cv, d.bv, (.bool (d.off))]), (ptr bK (0))] w fun v w' => ∃ d2 : Dk, v = .agg #[d2.pv, d2.cv, d2.bv, .bool d2.off] ∧ d2.Rd w' w.heap.size w'.heap.size ∧ d2.cs = [] ∧ d2.ps.length = d.ps.length ∧ Ext w w' := by
 obtain ⟨n0, hn0⟩ : ∃ n, n = w.heap.size := ⟨_, rfl⟩
 have hU : Upd (fun i => n0 ≤ i) w w := Upd.refl _ _
 rw [← hn0] at hup
 have hN6 := hN.lt
 refine CT_of Try.func37 rfl rfl rfl ?_
 refine W_seq ?_
 refine W_reg ?_
 refine L_op rfl (X_box (v := (.agg #[d.pv, d.cv, d.bv, (.bool (d.off))])) (c := ([d.pv, d.cv, d.bv, (.bool (d.off))]).toArray) rfl rfl ?_)
 intro b1 w1 hn1
 have hbn1 := hn1.num; have hbs1 := hn1.size
 replace h := h.ext hn1.ext
 replace hN := hN.ext hn1.ext
 replace hU := hU.trans (Ext.upd hn1.ext)
 have hB1 := hn1.blk
 refine L_op rfl (X_alloc (z := (.agg #[(.slice none 0 0), (.slice none 0 0), (.slice none 0 0), (.bool (false))])) (c := #[(.slice none 0 0), (.slice none 0 0), (.slice none 0 0), (.bool (false))]) Zv26 rfl ?_)
 intro b2 w2 hn2
 have hbn2 := hn2.num; have hbs2 := hn2.size
 replace h := h.ext hn2.ext
 replace hN := hN.ext hn2.ext
 replace hU := hU.trans (Ext.upd hn2.ext)
 replace hB1 := hB1.ext hn2.ext
 have hB2 := hn2.blk
 refine L_nil ?_
 refine T_n ?_
 refine W_seq ?_
 refine W_draw 4 [[], [], [1], [1, 2], [0, 1, 2, 3], [0, 1, 2, 3, 4]] mixed (by kernel_rfl) ?_
 refine ⟨.det (fun val => (.agg ([d.pv, d.cv, d.bv, (.bool (d.off))]).toArray)), ⟨fun _ _ hv => rfl, fun _ _ _ _ _ => trivial⟩, fun val h_ W hx he => ⟨trivial, ?_⟩, ?_⟩
 ·replace hx := (Upd.drew _ _).trans hx
  replace hB1 := hB1.ext hx
  refine id (X_loadA (p := (ptr b1 (0))) (xs := [d.pv, d.cv, d.bv, (.bool (d.off))]) A26 rfl hB1.atAll rfl ?_)
  exact ⟨Upd.refl _ _, rfl⟩
 refine ⟨.det (fun val => (.int .i64 (0))), ⟨fun _ _ hv => rfl, fun _ _ _ _ _ => trivial⟩, fun val h_ W hx he => ⟨trivial, ?_⟩, ?_⟩
 ·exact X_move (v := (.int .i64 (0))) rfl ⟨Upd.refl _ _, rfl⟩
 refine ⟨.det (fun val => (ptr bK (0))), ⟨fun _ _ hv => rfl, fun _ _ _ _ _ => trivial⟩, fun val h_ W hx he => ⟨trivial, ?_⟩, ?_⟩
 ·exact X_idxAP (len := 2) (sz := 1) (b := bK) (o := 0) (k := .i64) (i := 0) (r := 0) Try.underlying60 Z59 rfl rfl (by omega) (by omega) rfl ⟨Upd.refl _ _, rfl⟩
 refine ⟨.det (fun val => (.slice none 0 0)), ⟨fun _ _ hv => rfl, fun _ _ _ _ _ => trivial⟩, fun val h_ W hx he => ⟨trivial, ?_⟩, ?_⟩
 ·replace hx := (Upd.drew _ _).trans hx
  replace hN := hN.ext hx
  refine id (X_load (p := (ptr bK (0))) (v := (.slice none 0 0)) T59 rfl (hN.at1 rfl) ?_)
  exact ⟨Upd.refl _ _, rfl⟩
 intro val W3 hx3 he3
 replace hx3 := (Upd.drew _ _).trans hx3
 have hz3 := hx3.size
 replace h := h.ext hx3
 replace hN := hN.ext hx3
 replace hU := hU.trans (Ext.upd hx3)
 replace hB1 := hB1.ext hx3
 replace hB2 := hB2.ext hx3
 obtain ⟨sdx, hsdx⟩ : ∃ n, n = W3.heap.size := ⟨_, rfl⟩
 have hcr_ := c_crashRD d W3 lo up (by omega) h hz
 refine L_op rfl (X_fn (vs := [(.agg ([d.pv, d.cv, d.bv, (.bool (d.off))]).toArray), (.slice none 0 0)]) en38 rfl ?_)
 refine CT.mono hcr_ ?_
 clear hcr_
 rintro _ w4 ⟨dx, rfl, hdx, cdx, ndx, hu4⟩
 have hz4 := hu4.size
 obtain ⟨udx, husdx⟩ : ∃ n, n = w4.heap.size := ⟨_, rfl⟩
 rw [← hsdx, ← husdx] at hdx
 replace h := h.ext hu4
 replace hN := hN.ext hu4
 replace hU := hU.trans (Ext.upd hu4)
 replace hB1 := hB1.ext hu4
 replace hB2 := hB2.ext hu4
 refine L_op0 (X_storeW (b := b2) (ys := [dx.pv, dx.cv, dx.bv, (.bool (dx.off))]) A26 rfl rfl (List.forall_mem_cons.2 ⟨(hdx.1.sv.one), (List.forall_mem_cons.2 ⟨(hdx.2.1.sv.one), (List.forall_mem_cons.2 ⟨(hdx.2.2.sv.one), (List.forall_mem_cons.2 ⟨rfl, (fun _ h => by cases h)⟩)⟩)⟩)⟩) rfl hB2 rfl ?_)
 intro w5 hu5 hb5
 have hz5 := hu5.size
 replace h := h.upd hu5 fun i h1 h2 h => by have h : i = b2 := h; omega
 replace hN := hN.upd hu5 fun h => by have h : bK = b2 := h; omega
 replace hU := hU.trans (hu5.mono fun i _ h => by have h : i = b2 := h; show n0 ≤ i; omega)
 replace hB1 := hB1.upd hu5 fun h => by have h : b1 = b2 := h; omega
 replace hdx := hdx.upd hu5 fun i h1 h2 h => by have h : i = b2 := h; omega
 replace hB2 : Blk w5 b2 #[dx.pv, dx.cv, dx.bv, (.bool (dx.off))] 26 := hb5
 refine L_nil ?_
 refine T_n ?_
 refine W_ret ?_
 exact BQ_r (End_1 Try.results37 (RV_A A26 rfl hB2.atAll rfl) ⟨dx, rfl, hdx.mono (by omega) (by omega), cdx, ndx, hU.own hn0⟩)

theorem c_settle1 (d : Dk) (bK : Nat) (w : World) (lo up : Nat) (hup : up ≤ w.heap.size) (h : d.Rd w lo up) (hz : Sz d.da 1048576) (hN : Blk w bK #[.slice none 0 0, .slice none 0 0] 60) : CT Try.prog 37 #[(.int .i64 (1)), (.agg #[d.pv, d.cv, d.bv, (.bool (d.off))]), (ptr bK (0))] w fun v w' => ∃ d2 : Dk, v = .agg #[d2.pv, d2.cv, d2.bv, .bool d2.off] ∧ d2.Rd w' w.heap.size w'.heap.size ∧ d2.cs = [] ∧ d2.ps.length = d.ps.length ∧ Ext w w' := by
 obtain ⟨n0, hn0⟩ : ∃ n, n = w.heap.size := ⟨_, rfl⟩
 have hU : Upd (fun i => n0 ≤ i) w w := Upd.refl _ _
 rw [← hn0] at hup
 have hN6 := hN.lt
 refine CT_of Try.func37 rfl rfl rfl ?_
 refine W_seq ?_
 refine W_reg ?_
 refine L_op rfl (X_box (v := (.agg #[d.pv, d.cv, d.bv, (.bool (d.off))])) (c := ([d.pv, d.cv, d.bv, (.bool (d.off))]).toArray) rfl rfl ?_)
 intro b1 w1 hn1
 have hbn1 := hn1.num; have hbs1 := hn1.size
 replace h := h.ext hn1.ext
 replace hN := hN.ext hn1.ext
 replace hU := hU.trans (Ext.upd hn1.ext)
 have hB1 := hn1.blk
 refine L_op rfl (X_alloc (z := (.agg #[(.slice none 0 0), (.slice none 0 0), (.slice none 0 0), (.bool (false))])) (c := #[(.slice none 0 0), (.slice none 0 0), (.slice none 0 0), (.bool (false))]) Zv26 rfl ?_)
 intro b2 w2 hn2
 have hbn2 := hn2.num; have hbs2 := hn2.size
 replace h := h.ext hn2.ext
 replace hN := hN.ext hn2.ext
 replace hU := hU.trans (Ext.upd hn2.ext)
 replace hB1 := hB1.ext hn2.ext
 have hB2 := hn2.blk
 refine L_nil ?_
 refine T_n ?_
 refine W_seq ?_
 refine W_draw 4 [[], [], [1], [1, 2], [0, 1, 2, 3], [0, 1, 2, 3, 4]] mixed (by kernel_rfl) ?_
 refine ⟨.det (fun val => (.agg ([d.pv, d.cv, d.bv, (.bool (d.off))]).toArray)), ⟨fun _ _ hv => rfl, fun _ _ _ _ _ => trivial⟩, fun val h_ W hx he => ⟨trivial, ?_⟩, ?_⟩
 ·replace hx := (Upd.drew _ _).trans hx
  replace hB1 := hB1.ext hx
  refine id (X_loadA (p := (ptr b1 (0))) (xs := [d.pv, d.cv, d.bv, (.bool (d.off))]) A26 rfl hB1.atAll rfl ?_)
  exact ⟨Upd.refl _ _, rfl⟩
 refine ⟨.det (fun val => (.int .i64 (1))), ⟨fun _ _ hv => rfl, fun _ _ _ _ _ => trivial⟩, fun val h_ W hx he => ⟨trivial, ?_⟩, ?_⟩
 ·exact X_move (v := (.int .i64 (1))) rfl ⟨Upd.refl _ _, rfl⟩
 refine ⟨.det (fun val => (ptr bK (1))), ⟨fun _ _ hv => rfl, fun _ _ _ _ _ => trivial⟩, fun val h_ W hx he => ⟨trivial, ?_⟩, ?_⟩
 ·exact X_idxAP (len := 2) (sz := 1) (b := bK) (o := 0) (k := .i64) (i := 1) (r := 1) Try.underlying60 Z59 rfl rfl (by omega) (by omega) rfl ⟨Upd.refl _ _, rfl⟩
 refine ⟨.det (fun val => (.slice none 0 0)), ⟨fun _ _ hv => rfl, fun _ _ _ _ _ => trivial⟩, fun val h_ W hx he => ⟨trivial, ?_⟩, ?_⟩
 ·replace hx := (Upd.drew _ _).trans hx
  replace hN := hN.ext hx
  refine id (X_load (p := (ptr bK (1))) (v := (.slice none 0 0)) T59 rfl (hN.at1 rfl) ?_)
  exact ⟨Upd.refl _ _, rfl⟩
 intro val W3 hx3 he3
 replace hx3 := (Upd.drew _ _).trans hx3
 have hz3 := hx3.size
 replace h := h.ext hx3
 replace hN := hN.ext hx3
 replace hU := hU.trans (Ext.upd hx3)
 replace hB1 := hB1.ext hx3
 replace hB2 := hB2.ext hx3
 obtain ⟨sdx, hsdx⟩ : ∃ n, n = W3.heap.size := ⟨_, rfl⟩
 have hcr_ := c_crashRD d W3 lo up (by omega) h hz
 refine L_op rfl (X_fn (vs := [(.agg ([d.pv, d.cv, d.bv, (.bool (d.off))]).toArray), (.slice none 0 0)]) en38 rfl ?_)
 refine CT.mono hcr_ ?_
 clear hcr_
 rintro _ w4 ⟨dx, rfl, hdx, cdx, ndx, hu4⟩
 have hz4 := hu4.size
 obtain ⟨udx, husdx⟩ : ∃ n, n = w4.heap.size := ⟨_, rfl⟩
 rw [← hsdx, ← husdx] at hdx
 replace h := h.ext hu4
 replace hN := hN.ext hu4
 replace hU := hU.trans (Ext.upd hu4)
 replace hB1 := hB1.ext hu4
 replace hB2 := hB2.ext hu4
 refine L_op0 (X_storeW (b := b2) (ys := [dx.pv, dx.cv, dx.bv, (.bool (dx.off))]) A26 rfl rfl (List.forall_mem_cons.2 ⟨(hdx.1.sv.one), (List.forall_mem_cons.2 ⟨(hdx.2.1.sv.one), (List.forall_mem_cons.2 ⟨(hdx.2.2.sv.one), (List.forall_mem_cons.2 ⟨rfl, (fun _ h => by cases h)⟩)⟩)⟩)⟩) rfl hB2 rfl ?_)
 intro w5 hu5 hb5
 have hz5 := hu5.size
 replace h := h.upd hu5 fun i h1 h2 h => by have h : i = b2 := h; omega
 replace hN := hN.upd hu5 fun h => by have h : bK = b2 := h; omega
 replace hU := hU.trans (hu5.mono fun i _ h => by have h : i = b2 := h; show n0 ≤ i; omega)
 replace hB1 := hB1.upd hu5 fun h => by have h : b1 = b2 := h; omega
 replace hdx := hdx.upd hu5 fun i h1 h2 h => by have h : i = b2 := h; omega
 replace hB2 : Blk w5 b2 #[dx.pv, dx.cv, dx.bv, (.bool (dx.off))] 26 := hb5
 refine L_nil ?_
 refine T_n ?_
 refine W_ret ?_
 exact BQ_r (End_1 Try.results37 (RV_A A26 rfl hB2.atAll rfl) ⟨dx, rfl, hdx.mono (by omega) (by omega), cdx, ndx, hU.own hn0⟩)

theorem c_both (d0 d1 : Dk) (bK : Nat) (w : World) (lo0 up0 lo1 up1 : Nat) (hup0 : up0 ≤ w.heap.size) (hup1 : up1 ≤ w.heap.size) (h0 : d0.Rd w lo0 up0) (h1 : d1.Rd w lo1 up1) (hz0 : Sz d0.da 1048576) (hz1 : Sz d1.da 1048576) (hN : Blk w bK #[.slice none 0 0, .slice none 0 0] 60) : CT Try.prog 36 #[(.agg #[d0.pv, d0.cv, d0.bv, (.bool (d0.off)), d1.pv, d1.cv, d1.bv, (.bool (d1.off))]), (.func (.func 37) #[] #[ptr bK 0])] w fun v w' => ∃ e0 e1 : Dk, v = .agg #[e0.pv, e0.cv, e0.bv, .bool e0.off, e1.pv, e1.cv, e1.bv, .bool e1.off] ∧ e0.Rd w' w.heap.size w'.heap.size ∧ e1.Rd w' w.heap.size w'.heap.size ∧ e0.cs = [] ∧ e0.ps.length = d0.ps.length ∧ Ext w w' := by
 obtain ⟨n0, hn0⟩ : ∃ n, n = w.heap.size := ⟨_, rfl⟩
 have hU : Upd (fun i => n0 ≤ i) w w := Upd.refl _ _
 rw [← hn0] at hup0 hup1
 have hN6 := hN.lt
 refine CT_of Try.func36 rfl rfl rfl ?_
 refine W_seq ?_
 refine W_reg ?_
 refine L_op rfl (X_box (v := (.agg #[d0.pv, d0.cv, d0.bv, (.bool (d0.off)), d1.pv, d1.cv, d1.bv, (.bool (d1.off))])) (c := ([d0.pv, d0.cv, d0.bv, (.bool (d0.off)), d1.pv, d1.cv, d1.bv, (.bool (d1.off))]).toArray) rfl rfl ?_)
 intro b1 w1 hn1
 have hbn1 := hn1.num; have hbs1 := hn1.size
 replace h0 := h0.ext hn1.ext
 replace h1 := h1.ext hn1.ext
 replace hN := hN.ext hn1.ext
 replace hU := hU.trans (Ext.upd hn1.ext)
 have hB1 := hn1.blk
 refine L_op rfl (X_alloc (z := (.agg #[(.slice none 0 0), (.slice none 0 0), (.slice none 0 0), (.bool (false)), (.slice none 0 0), (.slice none 0 0), (.slice none 0 0), (.bool (false))])) (c := #[(.slice none 0 0), (.slice none 0 0), (.slice none 0 0), (.bool (false)), (.slice none 0 0), (.slice none 0 0), (.slice none 0 0), (.bool (false))]) Zv27 rfl ?_)
 intro b2 w2 hn2
 have hbn2 := hn2.num; have hbs2 := hn2.size
 replace h0 := h0.ext hn2.ext
 replace h1 := h1.ext hn2.ext
 replace hN := hN.ext hn2.ext
 replace hU := hU.trans (Ext.upd hn2.ext)
 replace hB1 := hB1.ext hn2.ext
 have hB2 := hn2.blk
 refine L_nil ?_
 refine T_n ?_
 refine W_seq ?_
 refine W_seq ?_
 refine W_reg ?_
 refine L_op rfl (X_loadA (p := (ptr b1 (0))) (xs := [d0.pv, d0.cv, d0.bv, (.bool (d0.off)), d1.pv, d1.cv, d1.bv, (.bool (d1.off))]) A27 rfl hB1.atAll rfl ?_)
 refine L_op rfl (X_move (v := (.int .i64 (0))) rfl ?_)
 refine L_nil ?_
 refine T_n ?_
 refine W_block ?_
 refine W_unroll 3 ?_
 refine Rounds_s (m := 2) ?_
 refine W_seq ?_
 refine W_reg ?_
 refine L_op rfl (X_cmp (k := .i64) (a := 0) (b := 2) (r := true) rfl rfl rfl rfl ?_)
 refine L_nil ?_
 refine T_n ?_
 refine W_seq ?_
 refine W_ct rfl ?_
 refine W_skip ?_
 refine T_n ?_
 refine W_seq ?_
 refine W_block ?_
 refine W_seq ?_
 refine W_reg ?_
 refine L_op rfl (X_move (v := (.int .i64 (0))) rfl ?_)
 refine L_op rfl (X_idxVA (n := 2) (sz := 4) (i := 0) (l := [d0.pv, d0.cv, d0.bv, (.bool (d0.off)), d1.pv, d1.cv, d1.bv, (.bool (d1.off))]) (ys := [d0.pv, d0.cv, d0.bv, (.bool (d0.off))]) Try.underlying27 A26 rfl rfl (by decide) rfl ?_)
 refine L_op rfl (X_alloc (z := (.agg #[(.slice none 0 0), (.slice none 0 0), (.slice none 0 0), (.bool (false))])) (c := #[(.slice none 0 0), (.slice none 0 0), (.slice none 0 0), (.bool (false))]) Zv26 rfl ?_)
 intro b3 w3 hn3
 have hbn3 := hn3.num; have hbs3 := hn3.size
 replace h0 := h0.ext hn3.ext
 replace h1 := h1.ext hn3.ext
 replace hN := hN.ext hn3.ext
 replace hU := hU.trans (Ext.upd hn3.ext)
 replace hB1 := hB1.ext hn3.ext
 replace hB2 := hB2.ext hn3.ext
 have hB3 := hn3.blk
 refine L_op rfl (X_assign (v := (.int .i64 (0))) rfl ?_)
 refine L_op0 (X_storeW (b := b3) (ys := [d0.pv, d0.cv, d0.bv, (.bool (d0.off))]) A26 rfl rfl (List.forall_mem_cons.2 ⟨(h0.1.sv.one), (List.forall_mem_cons.2 ⟨(h0.2.1.sv.one), (List.forall_mem_cons.2 ⟨(h0.2.2.sv.one), (List.forall_mem_cons.2 ⟨rfl, (fun _ h => by cases h)⟩)⟩)⟩)⟩) rfl hB3 rfl ?_)
 intro w4 hu4 hb4
 have hz4 := hu4.size
 replace h0 := h0.upd hu4 fun i h1 h2 h => by have h : i = b3 := h; omega
 replace h1 := h1.upd hu4 fun i h1 h2 h => by have h : i = b3 := h; omega
 replace hN := hN.upd hu4 fun h => by have h : bK = b3 := h; omega
 replace hU := hU.trans (hu4.mono fun i _ h => by have h : i = b3 := h; show n0 ≤ i; omega)
 replace hB1 := hB1.upd hu4 fun h => by have h : b1 = b3 := h; omega
 replace hB2 := hB2.upd hu4 fun h => by have h : b2 = b3 := h; omega
 replace hB3 : Blk w4 b3 #[d0.pv, d0.cv, d0.bv, (.bool (d0.off))] 26 := hb4
 refine L_nil ?_
 refine T_n ?_
 refine W_reg ?_
 refine L_op rfl (X_move (v := (.int .i64 (0))) rfl ?_)
 refine L_op rfl (X_move (v := (.func (.func 37) #[] #[ptr bK 0])) rfl ?_)
 refine L_op rfl (X_move (v := (.int .i64 (0))) rfl ?_)
 refine L_op rfl (X_loadA (p := (ptr b3 (0))) (xs := [d0.pv, d0.cv, d0.bv, (.bool (d0.off))]) A26 rfl hB3.atAll rfl ?_)
 obtain ⟨sdx0, hsdx0⟩ : ∃ n, n = w4.heap.size := ⟨_, rfl⟩
 have hcr_ := c_settle0 d0 bK w4 lo0 up0 (by omega) h0 hz0 hN
 refine L_op rfl (X_cl (vs := [(.int .i64 (0)), (.agg ([d0.pv, d0.cv, d0.bv, (.bool (d0.off))]).toArray)]) (cap := [ptr bK 0]) en37 rfl rfl ?_)
 refine CT.mono hcr_ ?_
 clear hcr_
 rintro _ w5 ⟨dx0, rfl, hdx0, cdx0, ndx0, hu5⟩
 have hz5 := hu5.size
 obtain ⟨udx0, husdx0⟩ : ∃ n, n = w5.heap.size := ⟨_, rfl⟩
 rw [← hsdx0, ← husdx0] at hdx0
 replace h0 := h0.ext hu5
 replace h1 := h1.ext hu5
 replace hN := hN.ext hu5
 replace hU := hU.trans (Ext.upd hu5)
 replace hB1 := hB1.ext hu5
 replace hB2 := hB2.ext hu5
 replace hB3 := hB3.ext hu5
 refine L_op rfl (X_idxAP (len := 2) (sz := 4) (b := b1) (o := 0) (k := .i64) (i := 0) (r := 0) Try.underlying27 Z26 rfl rfl (by omega) (by omega) rfl ?_)
 refine L_op0 (X_storeA (b := b1) (o := 0) (ys := [dx0.pv, dx0.cv, dx0.bv, (.bool (dx0.off))]) A26 rfl rfl (List.forall_mem_cons.2 ⟨(hdx0.1.sv.one), (List.forall_mem_cons.2 ⟨(hdx0.2.1.sv.one), (List.forall_mem_cons.2 ⟨(hdx0.2.2.sv.one), (List.forall_mem_cons.2 ⟨rfl, (fun _ h => by cases h)⟩)⟩)⟩)⟩) rfl hB1 (by show 0 + 4 ≤ 8; decide) ?_)
 intro w6 hu6 hb6
 have hz6 := hu6.size
 replace h0 := h0.upd hu6 fun i h1 h2 h => by have h : i = b1 := h; omega
 replace h1 := h1.upd hu6 fun i h1 h2 h => by have h : i = b1 := h; omega
 replace hN := hN.upd hu6 fun h => by have h : bK = b1 := h; omega
 replace hU := hU.trans (hu6.mono fun i _ h => by have h : i = b1 := h; show n0 ≤ i; omega)
 replace hB2 := hB2.upd hu6 fun h => by have h : b2 = b1 := h; omega
 replace hB3 := hB3.upd hu6 fun h => by have h : b3 = b1 := h; omega
 replace hdx0 := hdx0.upd hu6 fun i h1 h2 h => by have h : i = b1 := h; omega
 replace hB1 : Blk w6 b1 #[dx0.pv, dx0.cv, dx0.bv, (.bool (dx0.off)), d1.pv, d1.cv, d1.bv, (.bool (d1.off))] 27 := hb6
 refine L_nil ?_
 refine B_n ?_
 refine T_n ?_
 refine W_reg ?_
 refine L_op rfl (X_arith (k := .i64) (a := 0) (b := 1) (r := 1) rfl rfl rfl rfl ?_)
 refine L_op rfl (X_move (v := (.int .i64 (1))) rfl ?_)
 refine L_nil ?_
 refine T_n ?_
 refine Rounds_s (m := 1) ?_
 refine W_seq ?_
 refine W_reg ?_
 refine L_op rfl (X_cmp (k := .i64) (a := 1) (b := 2) (r := true) rfl rfl rfl rfl ?_)
 refine L_nil ?_
 refine T_n ?_
 refine W_seq ?_
 refine W_ct rfl ?_
 refine W_skip ?_
 refine T_n ?_
 refine W_seq ?_
 refine W_block ?_
 refine W_seq ?_
 refine W_reg ?_
 refine L_op rfl (X_move (v := (.int .i64 (1))) rfl ?_)
 refine L_op rfl (X_idxVA (n := 2) (sz := 4) (i := 1) (l := [d0.pv, d0.cv, d0.bv, (.bool (d0.off)), d1.pv, d1.cv, d1.bv, (.bool (d1.off))]) (ys := [d1.pv, d1.cv, d1.bv, (.bool (d1.off))]) Try.underlying27 A26 rfl rfl (by decide) rfl ?_)
 refine L_op rfl (X_alloc (z := (.agg #[(.slice none 0 0), (.slice none 0 0), (.slice none 0 0), (.bool (false))])) (c := #[(.slice none 0 0), (.slice none 0 0), (.slice none 0 0), (.bool (false))]) Zv26 rfl ?_)
 intro b7 w7 hn7
 have hbn7 := hn7.num; have hbs7 := hn7.size
 replace h0 := h0.ext hn7.ext
 replace h1 := h1.ext hn7.ext
 replace hN := hN.ext hn7.ext
 replace hU := hU.trans (Ext.upd hn7.ext)
 replace hB2 := hB2.ext hn7.ext
 replace hB3 := hB3.ext hn7.ext
 replace hdx0 := hdx0.ext hn7.ext
 replace hB1 := hB1.ext hn7.ext
 have hB7 := hn7.blk
 refine L_op rfl (X_assign (v := (.int .i64 (1))) rfl ?_)
 refine L_op0 (X_storeW (b := b7) (ys := [d1.pv, d1.cv, d1.bv, (.bool (d1.off))]) A26 rfl rfl (List.forall_mem_cons.2 ⟨(h1.1.sv.one), (List.forall_mem_cons.2 ⟨(h1.2.1.sv.one), (List.forall_mem_cons.2 ⟨(h1.2.2.sv.one), (List.forall_mem_cons.2 ⟨rfl, (fun _ h => by cases h)⟩)⟩)⟩)⟩) rfl hB7 rfl ?_)
 intro w8 hu8 hb8
 have hz8 := hu8.size
 replace h0 := h0.upd hu8 fun i h1 h2 h => by have h : i = b7 := h; omega
 replace h1 := h1.upd hu8 fun i h1 h2 h => by have h : i = b7 := h; omega
 replace hN := hN.upd hu8 fun h => by have h : bK = b7 := h; omega
 replace hU := hU.trans (hu8.mono fun i _ h => by have h : i = b7 := h; show n0 ≤ i; omega)
 replace hB2 := hB2.upd hu8 fun h => by have h : b2 = b7 := h; omega
 replace hB3 := hB3.upd hu8 fun h => by have h : b3 = b7 := h; omega
 replace hdx0 := hdx0.upd hu8 fun i h1 h2 h => by have h : i = b7 := h; omega
 replace hB1 := hB1.upd hu8 fun h => by have h : b1 = b7 := h; omega
 replace hB7 : Blk w8 b7 #[d1.pv, d1.cv, d1.bv, (.bool (d1.off))] 26 := hb8
 refine L_nil ?_
 refine T_n ?_
 refine W_reg ?_
 refine L_op rfl (X_move (v := (.int .i64 (1))) rfl ?_)
 refine L_op rfl (X_move (v := (.func (.func 37) #[] #[ptr bK 0])) rfl ?_)
 refine L_op rfl (X_move (v := (.int .i64 (1))) rfl ?_)
 refine L_op rfl (X_loadA (p := (ptr b7 (0))) (xs := [d1.pv, d1.cv, d1.bv, (.bool (d1.off))]) A26 rfl hB7.atAll rfl ?_)
 obtain ⟨sdx1, hsdx1⟩ : ∃ n, n = w8.heap.size := ⟨_, rfl⟩
 have hcr_ := c_settle1 d1 bK w8 lo1 up1 (by omega) h1 hz1 hN
 refine L_op rfl (X_cl (vs := [(.int .i64 (1)), (.agg ([d1.pv, d1.cv, d1.bv, (.bool (d1.off))]).toArray)]) (cap := [ptr bK 0]) en37 rfl rfl ?_)
 refine CT.mono hcr_ ?_
 clear hcr_
 rintro _ w9 ⟨dx1, rfl, hdx1, cdx1, ndx1, hu9⟩
 have hz9 := hu9.size
 obtain ⟨udx1, husdx1⟩ : ∃ n, n = w9.heap.size := ⟨_, rfl⟩
 rw [← hsdx1, ← husdx1] at hdx1
 replace h0 := h0.ext hu9
 replace h1 := h1.ext hu9
 replace hN := hN.ext hu9
 replace hU := hU.trans (Ext.upd hu9)
 replace hB2 := hB2.ext hu9
 replace hB3 := hB3.ext hu9
 replace hdx0 := hdx0.ext hu9
 replace hB1 := hB1.ext hu9
 replace hB7 := hB7.ext hu9
 refine L_op rfl (X_idxAP (len := 2) (sz := 4) (b := b1) (o := 0) (k := .i64) (i := 1) (r := 4) Try.underlying27 Z26 rfl rfl (by omega) (by omega) rfl ?_)
 refine L_op0 (X_storeA (b := b1) (o := 4) (ys := [dx1.pv, dx1.cv, dx1.bv, (.bool (dx1.off))]) A26 rfl rfl (List.forall_mem_cons.2 ⟨(hdx1.1.sv.one), (List.forall_mem_cons.2 ⟨(hdx1.2.1.sv.one), (List.forall_mem_cons.2 ⟨(hdx1.2.2.sv.one), (List.forall_mem_cons.2 ⟨rfl, (fun _ h => by cases h)⟩)⟩)⟩)⟩) rfl hB1 (by show 4 + 4 ≤ 8; decide) ?_)
 intro w10 hu10 hb10
 have hz10 := hu10.size
 replace h0 := h0.upd hu10 fun i h1 h2 h => by have h : i = b1 := h; omega
 replace h1 := h1.upd hu10 fun i h1 h2 h => by have h : i = b1 := h; omega
 replace hN := hN.upd hu10 fun h => by have h : bK = b1 := h; omega
 replace hU := hU.trans (hu10.mono fun i _ h => by have h : i = b1 := h; show n0 ≤ i; omega)
 replace hB2 := hB2.upd hu10 fun h => by have h : b2 = b1 := h; omega
 replace hB3 := hB3.upd hu10 fun h => by have h : b3 = b1 := h; omega
 replace hdx0 := hdx0.upd hu10 fun i h1 h2 h => by have h : i = b1 := h; omega
 replace hB7 := hB7.upd hu10 fun h => by have h : b7 = b1 := h; omega
 replace hdx1 := hdx1.upd hu10 fun i h1 h2 h => by have h : i = b1 := h; omega
 replace hB1 : Blk w10 b1 #[dx0.pv, dx0.cv, dx0.bv, (.bool (dx0.off)), dx1.pv, dx1.cv, dx1.bv, (.bool (dx1.off))] 27 := hb10
 refine L_nil ?_
 refine B_n ?_
 refine T_n ?_
 refine W_reg ?_
 refine L_op rfl (X_arith (k := .i64) (a := 1) (b := 1) (r := 2) rfl rfl rfl rfl ?_)
 refine L_op rfl (X_move (v := (.int .i64 (2))) rfl ?_)
 refine L_nil ?_
 refine T_n ?_
 refine Rounds_s (m := 0) ?_
 refine W_seq ?_
 refine W_reg ?_
 refine L_op rfl (X_cmp (k := .i64) (a := 2) (b := 2) (r := false) rfl rfl rfl rfl ?_)
 refine L_nil ?_
 refine T_n ?_
 refine W_seq ?_
 refine W_cf rfl ?_
 refine W_exit ?_
 refine T_e ?_
 refine T_e ?_
 refine B_x ?_
 refine T_n ?_
 refine W_seq ?_
 refine W_reg ?_
 refine L_op rfl (X_loadA (p := (ptr b1 (0))) (xs := [dx0.pv, dx0.cv, dx0.bv, (.bool (dx0.off)), dx1.pv, dx1.cv, dx1.bv, (.bool (dx1.off))]) A27 rfl hB1.atAll rfl ?_)
 refine L_op0 (X_storeW (b := b2) (ys := [dx0.pv, dx0.cv, dx0.bv, (.bool (dx0.off)), dx1.pv, dx1.cv, dx1.bv, (.bool (dx1.off))]) A27 rfl rfl (List.forall_mem_cons.2 ⟨(hdx0.1.sv.one), (List.forall_mem_cons.2 ⟨(hdx0.2.1.sv.one), (List.forall_mem_cons.2 ⟨(hdx0.2.2.sv.one), (List.forall_mem_cons.2 ⟨rfl, (List.forall_mem_cons.2 ⟨(hdx1.1.sv.one), (List.forall_mem_cons.2 ⟨(hdx1.2.1.sv.one), (List.forall_mem_cons.2 ⟨(hdx1.2.2.sv.one), (List.forall_mem_cons.2 ⟨rfl, (fun _ h => by cases h)⟩)⟩)⟩)⟩)⟩)⟩)⟩)⟩) rfl hB2 rfl ?_)
 intro w11 hu11 hb11
 have hz11 := hu11.size
 replace h0 := h0.upd hu11 fun i h1 h2 h => by have h : i = b2 := h; omega
 replace h1 := h1.upd hu11 fun i h1 h2 h => by have h : i = b2 := h; omega
 replace hN := hN.upd hu11 fun h => by have h : bK = b2 := h; omega
 replace hU := hU.trans (hu11.mono fun i _ h => by have h : i = b2 := h; show n0 ≤ i; omega)
 replace hB3 := hB3.upd hu11 fun h => by have h : b3 = b2 := h; omega
 replace hdx0 := hdx0.upd hu11 fun i h1 h2 h => by have h : i = b2 := h; omega
 replace hB7 := hB7.upd hu11 fun h => by have h : b7 = b2 := h; omega
 replace hdx1 := hdx1.upd hu11 fun i h1 h2 h => by have h : i = b2 := h; omega
 replace hB1 := hB1.upd hu11 fun h => by have h : b1 = b2 := h; omega
 replace hB2 : Blk w11 b2 #[dx0.pv, dx0.cv, dx0.bv, (.bool (dx0.off)), dx1.pv, dx1.cv, dx1.bv, (.bool (dx1.off))] 27 := hb11
 refine L_nil ?_
 refine T_n ?_
 refine W_ret ?_
 exact BQ_r (End_1 Try.results36 (RV_A A27 rfl hB2.atAll rfl) ⟨dx0, dx1, rfl, hdx0.mono (by omega) (by omega), hdx1.mono (by omega) (by omega), cdx0, ndx0, hU.own hn0⟩)

theorem c_settle (p : Pr) (w : World) (lo0 up0 lo1 up1 : Nat) (hup0 : up0 ≤ w.heap.size) (hup1 : up1 ≤ w.heap.size) (h0 : p.d0.Rd w lo0 up0) (h1 : p.d1.Rd w lo1 up1) (hz0 : Sz p.d0.da 1048576) (hz1 : Sz p.d1.da 1048576) : CT Try.prog 23 #[(.agg #[p.d0.pv, p.d0.cv, p.d0.bv, (.bool (p.d0.off)), p.d1.pv, p.d1.cv, p.d1.bv, (.bool (p.d1.off)), (.int .i64 (p.fz)), (.bool (p.dn))]), (.agg #[.slice none 0 0, .slice none 0 0])] w fun v w' => ∃ e0 e1 : Dk, v = .agg #[e0.pv, e0.cv, e0.bv, .bool e0.off, e1.pv, e1.cv, e1.bv, .bool e1.off, .int .i64 (-1), .bool false] ∧ e0.Rd w' w.heap.size w'.heap.size ∧ e1.Rd w' w.heap.size w'.heap.size ∧ e0.cs = [] ∧ e0.ps.length = p.d0.ps.length ∧ Ext w w' := by
 obtain ⟨n0, hn0⟩ : ∃ n, n = w.heap.size := ⟨_, rfl⟩
 have hU : Upd (fun i => n0 ≤ i) w w := Upd.refl _ _
 rw [← hn0] at hup0 hup1
 refine CT_of Try.func23 rfl rfl rfl ?_
 refine W_seq ?_
 refine W_reg ?_
 refine L_op rfl (X_box (v := (.agg #[p.d0.pv, p.d0.cv, p.d0.bv, (.bool (p.d0.off)), p.d1.pv, p.d1.cv, p.d1.bv, (.bool (p.d1.off)), (.int .i64 (p.fz)), (.bool (p.dn))])) (c := ([p.d0.pv, p.d0.cv, p.d0.bv, (.bool (p.d0.off)), p.d1.pv, p.d1.cv, p.d1.bv, (.bool (p.d1.off)), (.int .i64 (p.fz)), (.bool (p.dn))]).toArray) rfl rfl ?_)
 intro b1 w1 hn1
 have hbn1 := hn1.num; have hbs1 := hn1.size
 replace h0 := h0.ext hn1.ext
 replace h1 := h1.ext hn1.ext
 replace hU := hU.trans (Ext.upd hn1.ext)
 have hB1 := hn1.blk
 refine L_op rfl (X_box (v := .agg #[.slice none 0 0, .slice none 0 0]) (c := #[.slice none 0 0, .slice none 0 0]) rfl rfl ?_)
 intro bN wN hnN
 have hbnN := hnN.num; have hbsN := hnN.size
 replace h0 := h0.ext hnN.ext
 replace h1 := h1.ext hnN.ext
 replace hU := hU.trans (Ext.upd hnN.ext)
 replace hB1 := hB1.ext hnN.ext
 have hBN := hnN.blk
 refine L_op rfl (X_alloc (z := (.agg #[(.slice none 0 0), (.slice none 0 0), (.slice none 0 0), (.bool (false)), (.slice none 0 0), (.slice none 0 0), (.slice none 0 0), (.bool (false)), (.int .i64 (0)), (.bool (false))])) (c := #[(.slice none 0 0), (.slice none 0 0), (.slice none 0 0), (.bool (false)), (.slice none 0 0), (.slice none 0 0), (.slice none 0 0), (.bool (false)), (.int .i64 (0)), (.bool (false))]) Zv29 rfl ?_)
 intro b2 w2 hn2
 have hbn2 := hn2.num; have hbs2 := hn2.size
 replace h0 := h0.ext hn2.ext
 replace h1 := h1.ext hn2.ext
 replace hU := hU.trans (Ext.upd hn2.ext)
 replace hB1 := hB1.ext hn2.ext
 replace hBN := hBN.ext hn2.ext
 have hB2 := hn2.blk
 refine L_nil ?_
 refine T_n ?_
 refine W_seq ?_
 refine W_reg ?_
 refine L_op rfl (X_fldP (b := b1) (o := 0) (r := 0) Fd29_0 rfl rfl ?_)
 refine L_op rfl (X_loadA (p := (ptr b1 (0))) (xs := [p.d0.pv, p.d0.cv, p.d0.bv, (.bool (p.d0.off)), p.d1.pv, p.d1.cv, p.d1.bv, (.bool (p.d1.off))]) A27 rfl (hB1.part (o := 0) (n := 8) rfl) rfl ?_)
 refine L_op rfl (X_makeFunc (vs := [(ptr bN (0))]) rfl ?_)
 obtain ⟨se, hse⟩ : ∃ n, n = w2.heap.size := ⟨_, rfl⟩
 have hcr_ := c_both p.d0 p.d1 bN w2 lo0 up0 lo1 up1 (by omega) (by omega) h0 h1 hz0 hz1 hBN
 refine L_op rfl (X_fn (vs := [(.agg #[p.d0.pv, p.d0.cv, p.d0.bv, (.bool (p.d0.off)), p.d1.pv, p.d1.cv, p.d1.bv, (.bool (p.d1.off))]), (.func (.func 37) #[] #[(ptr bN (0))])]) en36 rfl ?_)
 refine CT.mono hcr_ ?_
 clear hcr_
 rintro _ w3 ⟨e0, e1, rfl, he0, he1, ce0, ne0, hu3⟩
 have hz3 := hu3.size
 obtain ⟨ue, hue⟩ : ∃ n, n = w3.heap.size := ⟨_, rfl⟩
 rw [← hse, ← hue] at he0 he1
 replace h0 := h0.ext hu3
 replace h1 := h1.ext hu3
 replace hU := hU.trans (Ext.upd hu3)
 replace hB1 := hB1.ext hu3
 replace hBN := hBN.ext hu3
 replace hB2 := hB2.ext hu3
 refine L_op rfl (X_build (built29e he0.1.sv he0.2.1.sv he0.2.2.sv he1.1.sv he1.2.1.sv he1.2.2.sv _ _) ?_)
 refine L_op0 (X_storeW (b := b2) (ys := [e0.pv, e0.cv, e0.bv, (.bool (e0.off)), e1.pv, e1.cv, e1.bv, (.bool (e1.off)), (.int .i64 (-1)), (.bool (false))]) A29 rfl rfl (List.forall_mem_cons.2 ⟨(he0.1.sv.one), (List.forall_mem_cons.2 ⟨(he0.2.1.sv.one), (List.forall_mem_cons.2 ⟨(he0.2.2.sv.one), (List.forall_mem_cons.2 ⟨rfl, (List.forall_mem_cons.2 ⟨(he1.1.sv.one), (List.forall_mem_cons.2 ⟨(he1.2.1.sv.one), (List.forall_mem_cons.2 ⟨(he1.2.2.sv.one), (List.forall_mem_cons.2 ⟨rfl, (List.forall_mem_cons.2 ⟨rfl, (List.forall_mem_cons.2 ⟨rfl, (fun _ h => by cases h)⟩)⟩)⟩)⟩)⟩)⟩)⟩)⟩)⟩)⟩) rfl hB2 rfl ?_)
 intro w4 hu4 hb4
 have hz4 := hu4.size
 replace h0 := h0.upd hu4 fun i h1 h2 h => by have h : i = b2 := h; omega
 replace h1 := h1.upd hu4 fun i h1 h2 h => by have h : i = b2 := h; omega
 replace hU := hU.trans (hu4.mono fun i _ h => by have h : i = b2 := h; show n0 ≤ i; omega)
 replace hB1 := hB1.upd hu4 fun h => by have h : b1 = b2 := h; omega
 replace hBN := hBN.upd hu4 fun h => by have h : bN = b2 := h; omega
 replace he0 := he0.upd hu4 fun i h1 h2 h => by have h : i = b2 := h; omega
 replace he1 := he1.upd hu4 fun i h1 h2 h => by have h : i = b2 := h; omega
 replace hB2 : Blk w4 b2 #[e0.pv, e0.cv, e0.bv, (.bool (e0.off)), e1.pv, e1.cv, e1.bv, (.bool (e1.off)), (.int .i64 (-1)), (.bool (false))] 29 := hb4
 refine L_nil ?_
 refine T_n ?_
 refine W_ret ?_
 exact BQ_r (End_1 Try.results23 (RV_A A29 rfl hB2.atAll rfl) ⟨e0, e1, rfl, he0.mono (by omega) (by omega), he1.mono (by omega) (by omega), ce0, ne0, hU.own hn0⟩)

set_option maxRecDepth 10000 in
set_option maxHeartbeats 2000000 in
theorem c_fuse (p : Pr) (f n : Int) (pg : Pg) (w : World) (h0 : p.d0.Rd w 0 w.heap.size) (h1 : p.d1.Rd w 0 w.heap.size) : CT Try.prog 6 #[(.agg #[p.d0.pv, p.d0.cv, p.d0.bv, (.bool (p.d0.off)), p.d1.pv, p.d1.cv, p.d1.bv, (.bool (p.d1.off)), (.int .i64 (p.fz)), (.bool (p.dn))]), (.int .i64 (f)), (.int .i64 (n)), (pageV pg)] w fun v w' => v = .bool true ∧ Ext w w' := by
 obtain ⟨n0, hn0⟩ : ∃ n, n = w.heap.size := ⟨_, rfl⟩
 have hU : Upd (fun i => n0 ≤ i) w w := Upd.refl _ _
 rw [← hn0] at h0 h1
 obtain ⟨m, hm⟩ : ∃ m, m = min p.d0.ps.length p.d1.ps.length := ⟨_, rfl⟩
 have hlp0 := h0.1.sv.len; have hlp1 := h1.1.sv.len; have hlc0 := h0.2.1.sv.len; have hlc1 := h1.2.1.sv.len
 refine CT_of Try.func6 rfl rfl rfl ?_
 refine W_seq ?_
 refine W_reg ?_
 refine L_op rfl (X_box (v := (.agg #[p.d0.pv, p.d0.cv, p.d0.bv, (.bool (p.d0.off)), p.d1.pv, p.d1.cv, p.d1.bv, (.bool (p.d1.off)), (.int .i64 (p.fz)), (.bool (p.dn))])) (c := ([p.d0.pv, p.d0.cv, p.d0.bv, (.bool (p.d0.off)), p.d1.pv, p.d1.cv, p.d1.bv, (.bool (p.d1.off)), (.int .i64 (p.fz)), (.bool (p.dn))]).toArray) rfl rfl ?_)
 intro b1 w1 hn1
 have hbn1 := hn1.num; have hbs1 := hn1.size
 replace h0 := h0.ext hn1.ext
 replace h1 := h1.ext hn1.ext
 replace hU := hU.trans (Ext.upd hn1.ext)
 have hB1 := hn1.blk
 refine L_op rfl (X_box (v := (pageV pg)) (c := ((pg.1).map byteV).toArray) rfl rfl ?_)
 intro b2 w2 hn2
 have hbn2 := hn2.num; have hbs2 := hn2.size
 replace h0 := h0.ext hn2.ext
 replace h1 := h1.ext hn2.ext
 replace hU := hU.trans (Ext.upd hn2.ext)
 replace hB1 := hB1.ext hn2.ext
 have hB2 := hn2.blk
 refine L_op rfl (X_assign (v := (.bool (false))) rfl ?_)
 refine L_nil ?_
 refine T_n ?_
 refine W_seq ?_
 refine W_seq ?_
 refine W_reg ?_
 refine L_op rfl (X_fldP (b := b1) (o := 0) (r := 0) Fd29_0 rfl rfl ?_)
 refine L_op rfl (X_idxAP (len := 2) (sz := 4) (b := b1) (o := 0) (k := .i64) (i := 0) (r := 0) Try.underlying27 Z26 rfl rfl (by omega) (by omega) rfl ?_)
 refine L_op rfl (X_loadA (p := (ptr b1 (0))) (xs := [p.d0.pv, p.d0.cv, p.d0.bv, (.bool (p.d0.off))]) A26 rfl (hB1.part (o := 0) (n := 4) rfl) rfl ?_)
 have hcr_ := c_mayR p.d0.pv p.d0.cv p.d0.bv p.d0.ps p.d0.cs p.d0.bs p.d0.off w2 0 n0 h0.1 h0.2.1 h0.2.2
 refine L_op rfl (X_fn (vs := [(.agg #[p.d0.pv, p.d0.cv, p.d0.bv, (.bool (p.d0.off))])]) en7 rfl ?_)
 refine CT.mono hcr_ ?_
 clear hcr_
 rintro _ w3 ⟨⟨gA, rfl, hgA⟩, hu3⟩
 have hz3 := hu3.size
 replace h0 := h0.ext hu3
 replace h1 := h1.ext hu3
 replace hU := hU.trans (Ext.upd hu3)
 replace hB1 := hB1.ext hu3
 replace hB2 := hB2.ext hu3
 rcases Bool.eq_false_or_eq_true (gA) with hc4 | hc4
 ·rw [hc4]
  refine L_op rfl (X_not (b := true) (r := false) rfl rfl ?_)
  refine L_op rfl (X_move (v := (.bool (false))) rfl ?_)
  refine L_gy (dj := 24) rfl rfl rfl (X_fldP (b := b1) (o := 0) (r := 0) Fd29_0 rfl rfl ?_)
  refine L_gy (dj := 24) rfl rfl rfl (X_idxAP (len := 2) (sz := 4) (b := b1) (o := 0) (k := .i64) (i := 1) (r := 4) Try.underlying27 Z26 rfl rfl (by omega) (by omega) rfl ?_)
  refine L_gy (dj := 24) rfl rfl rfl (X_loadA (p := (ptr b1 (4))) (xs := [p.d1.pv, p.d1.cv, p.d1.bv, (.bool (p.d1.off))]) A26 rfl (hB1.part (o := 4) (n := 4) rfl) rfl ?_)
  have hcr_ := c_mayR p.d1.pv p.d1.cv p.d1.bv p.d1.ps p.d1.cs p.d1.bs p.d1.off w3 0 n0 h1.1 h1.2.1 h1.2.2
  refine L_gy (dj := 24) rfl rfl rfl (X_fn (vs := [(.agg #[p.d1.pv, p.d1.cv, p.d1.bv, (.bool (p.d1.off))])]) en7 rfl ?_)
  refine CT.mono hcr_ ?_
  clear hcr_
  rintro _ w5 ⟨⟨gB, rfl, hgB⟩, hu5⟩
  have hz5 := hu5.size
  replace h0 := h0.ext hu5
  replace h1 := h1.ext hu5
  replace hU := hU.trans (Ext.upd hu5)
  replace hB1 := hB1.ext hu5
  replace hB2 := hB2.ext hu5
  rcases Bool.eq_false_or_eq_true (gB) with hc6 | hc6
  ·rw [hc6]
   refine L_gy (dj := 24) rfl rfl rfl (X_not (b := true) (r := false) rfl rfl ?_)
   refine L_op rfl (X_pick (t := false) (v := (.bool (false))) rfl rfl ?_)
   refine L_op rfl (X_move (v := (.bool (false))) rfl ?_)
   refine L_gy (dj := 31) rfl rfl rfl (X_fldP (b := b1) (o := 0) (r := 0) Fd29_0 rfl rfl ?_)
   refine L_gy (dj := 31) rfl rfl rfl (X_idxAP (len := 2) (sz := 4) (b := b1) (o := 0) (k := .i64) (i := 0) (r := 0) Try.underlying27 Z26 rfl rfl (by omega) (by omega) rfl ?_)
   refine L_gy (dj := 31) rfl rfl rfl (X_fldP (b := b1) (o := 0) (r := 3) Fd26_3 rfl rfl ?_)
   rcases Bool.eq_false_or_eq_true (p.d0.off) with hs7 | hs7
   ·refine L_gy (dj := 31) rfl rfl rfl (X_load (p := (ptr b1 (3))) (v := .bool true) T4 rfl (hB1.at1 (by rw [hs7]; rfl)) ?_)
    refine L_op rfl (X_pick (t := false) (v := (.bool (true))) rfl rfl ?_)
    refine L_op rfl (X_move (v := (.bool (true))) rfl ?_)
    refine L_gn (dj := 37) (t := true) rfl rfl rfl rfl ?_
    refine L_gn (dj := 37) (t := true) rfl rfl rfl rfl ?_
    refine L_gn (dj := 37) (t := true) rfl rfl rfl rfl ?_
    refine L_gn (dj := 37) (t := true) rfl rfl rfl rfl ?_
    refine L_op rfl (X_pick (t := true) (v := (.bool (true))) rfl rfl ?_)
    refine L_op rfl (X_move (v := (.bool (true))) rfl ?_)
    refine L_gn (dj := 43) (t := true) rfl rfl rfl rfl ?_
    refine L_gn (dj := 43) (t := true) rfl rfl rfl rfl ?_
    refine L_op rfl (X_pick (t := true) (v := (.bool (true))) rfl rfl ?_)
    refine L_op rfl (X_move (v := (.bool (true))) rfl ?_)
    refine L_gn (dj := 47) (t := true) rfl rfl rfl rfl ?_
    refine L_gn (dj := 47) (t := true) rfl rfl rfl rfl ?_
    refine L_op rfl (X_pick (t := true) (v := (.bool (true))) rfl rfl ?_)
    refine L_op rfl (X_move (v := (.bool (true))) rfl ?_)
    refine L_gn (dj := 51) (t := true) rfl rfl rfl rfl ?_
    refine L_gn (dj := 51) (t := true) rfl rfl rfl rfl ?_
    refine L_op rfl (X_pick (t := true) (v := (.bool (true))) rfl rfl ?_)
    refine L_op rfl (X_move (v := (.bool (true))) rfl ?_)
    refine L_gn (dj := 55) (t := true) rfl rfl rfl rfl ?_
    refine L_gn (dj := 55) (t := true) rfl rfl rfl rfl ?_
    refine L_op rfl (X_pick (t := true) (v := (.bool (true))) rfl rfl ?_)
    refine L_op rfl (X_move (v := (.bool (true))) rfl ?_)
    refine L_gn (dj := 59) (t := true) rfl rfl rfl rfl ?_
    refine L_gn (dj := 59) (t := true) rfl rfl rfl rfl ?_
    refine L_gn (dj := 59) (t := true) rfl rfl rfl rfl ?_
    refine L_gn (dj := 59) (t := true) rfl rfl rfl rfl ?_
    refine L_gn (dj := 59) (t := true) rfl rfl rfl rfl ?_
    refine L_gn (dj := 59) (t := true) rfl rfl rfl rfl ?_
    refine L_gn (dj := 59) (t := true) rfl rfl rfl rfl ?_
    refine L_gn (dj := 59) (t := true) rfl rfl rfl rfl ?_
    refine L_gn (dj := 59) (t := true) rfl rfl rfl rfl ?_
    refine L_gn (dj := 59) (t := true) rfl rfl rfl rfl ?_
    refine L_gn (dj := 59) (t := true) rfl rfl rfl rfl ?_
    refine L_gn (dj := 59) (t := true) rfl rfl rfl rfl ?_
    refine L_gn (dj := 59) (t := true) rfl rfl rfl rfl ?_
    refine L_op rfl (X_pick (t := true) (v := (.bool (true))) rfl rfl ?_)
    refine L_op rfl (X_move (v := (.bool (true))) rfl ?_)
    refine L_gn (dj := 74) (t := true) rfl rfl rfl rfl ?_
    refine L_gn (dj := 74) (t := true) rfl rfl rfl rfl ?_
    refine L_gn (dj := 74) (t := true) rfl rfl rfl rfl ?_
    refine L_gn (dj := 74) (t := true) rfl rfl rfl rfl ?_
    refine L_gn (dj := 74) (t := true) rfl rfl rfl rfl ?_
    refine L_gn (dj := 74) (t := true) rfl rfl rfl rfl ?_
    refine L_gn (dj := 74) (t := true) rfl rfl rfl rfl ?_
    refine L_gn (dj := 74) (t := true) rfl rfl rfl rfl ?_
    refine L_gn (dj := 74) (t := true) rfl rfl rfl rfl ?_
    refine L_gn (dj := 74) (t := true) rfl rfl rfl rfl ?_
    refine L_gn (dj := 74) (t := true) rfl rfl rfl rfl ?_
    refine L_gn (dj := 74) (t := true) rfl rfl rfl rfl ?_
    refine L_op rfl (X_pick (t := true) (v := (.bool (true))) rfl rfl ?_)
    refine L_nil ?_
    refine T_n ?_
    refine W_ct rfl ?_
    refine W_seq ?_
    refine W_reg ?_
    refine L_op rfl (X_fn (vs := []) en9 rfl (CT.mono (c_wakes _) ?_))
    rintro _ w8 ⟨rfl, hu8⟩
    have hz8 := hu8.size
    replace h0 := h0.ext hu8
    replace h1 := h1.ext hu8
    replace hU := hU.trans (Ext.upd hu8)
    replace hB1 := hB1.ext hu8
    replace hB2 := hB2.ext hu8
    refine L_op rfl (X_assign (v := (.bool (true))) rfl ?_)
    refine L_nil ?_
    refine T_n ?_
    refine W_ret ?_
    refine T_r ?_
    exact BQ_r (End_1 Try.results6 (v := .bool true) rfl ⟨rfl, hU.own hn0⟩)
   ·refine L_gy (dj := 31) rfl rfl rfl (X_load (p := (ptr b1 (3))) (v := .bool false) T4 rfl (hB1.at1 (by rw [hs7]; rfl)) ?_)
    refine L_op rfl (X_pick (t := false) (v := (.bool (false))) rfl rfl ?_)
    refine L_op rfl (X_move (v := (.bool (false))) rfl ?_)
    refine L_gy (dj := 37) rfl rfl rfl (X_fldP (b := b1) (o := 0) (r := 0) Fd29_0 rfl rfl ?_)
    refine L_gy (dj := 37) rfl rfl rfl (X_idxAP (len := 2) (sz := 4) (b := b1) (o := 0) (k := .i64) (i := 1) (r := 4) Try.underlying27 Z26 rfl rfl (by omega) (by omega) rfl ?_)
    refine L_gy (dj := 37) rfl rfl rfl (X_fldP (b := b1) (o := 4) (r := 7) Fd26_3 rfl rfl ?_)
    rcases Bool.eq_false_or_eq_true (p.d1.off) with hs9 | hs9
    ·refine L_gy (dj := 37) rfl rfl rfl (X_load (p := (ptr b1 (7))) (v := .bool true) T4 rfl (hB1.at1 (by rw [hs9]; rfl)) ?_)
     refine L_op rfl (X_pick (t := false) (v := (.bool (true))) rfl rfl ?_)
     refine L_op rfl (X_move (v := (.bool (true))) rfl ?_)
     refine L_gn (dj := 43) (t := true) rfl rfl rfl rfl ?_
     refine L_gn (dj := 43) (t := true) rfl rfl rfl rfl ?_
     refine L_op rfl (X_pick (t := true) (v := (.bool (true))) rfl rfl ?_)
     refine L_op rfl (X_move (v := (.bool (true))) rfl ?_)
     refine L_gn (dj := 47) (t := true) rfl rfl rfl rfl ?_
     refine L_gn (dj := 47) (t := true) rfl rfl rfl rfl ?_
     refine L_op rfl (X_pick (t := true) (v := (.bool (true))) rfl rfl ?_)
     refine L_op rfl (X_move (v := (.bool (true))) rfl ?_)
     refine L_gn (dj := 51) (t := true) rfl rfl rfl rfl ?_
     refine L_gn (dj := 51) (t := true) rfl rfl rfl rfl ?_
     refine L_op rfl (X_pick (t := true) (v := (.bool (true))) rfl rfl ?_)
     refine L_op rfl (X_move (v := (.bool (true))) rfl ?_)
     refine L_gn (dj := 55) (t := true) rfl rfl rfl rfl ?_
     refine L_gn (dj := 55) (t := true) rfl rfl rfl rfl ?_
     refine L_op rfl (X_pick (t := true) (v := (.bool (true))) rfl rfl ?_)
     refine L_op rfl (X_move (v := (.bool (true))) rfl ?_)
     refine L_gn (dj := 59) (t := true) rfl rfl rfl rfl ?_
     refine L_gn (dj := 59) (t := true) rfl rfl rfl rfl ?_
     refine L_gn (dj := 59) (t := true) rfl rfl rfl rfl ?_
     refine L_gn (dj := 59) (t := true) rfl rfl rfl rfl ?_
     refine L_gn (dj := 59) (t := true) rfl rfl rfl rfl ?_
     refine L_gn (dj := 59) (t := true) rfl rfl rfl rfl ?_
     refine L_gn (dj := 59) (t := true) rfl rfl rfl rfl ?_
     refine L_gn (dj := 59) (t := true) rfl rfl rfl rfl ?_
     refine L_gn (dj := 59) (t := true) rfl rfl rfl rfl ?_
     refine L_gn (dj := 59) (t := true) rfl rfl rfl rfl ?_
     refine L_gn (dj := 59) (t := true) rfl rfl rfl rfl ?_
     refine L_gn (dj := 59) (t := true) rfl rfl rfl rfl ?_
     refine L_gn (dj := 59) (t := true) rfl rfl rfl rfl ?_
     refine L_op rfl (X_pick (t := true) (v := (.bool (true))) rfl rfl ?_)
     refine L_op rfl (X_move (v := (.bool (true))) rfl ?_)
     refine L_gn (dj := 74) (t := true) rfl rfl rfl rfl ?_
     refine L_gn (dj := 74) (t := true) rfl rfl rfl rfl ?_
     refine L_gn (dj := 74) (t := true) rfl rfl rfl rfl ?_
     refine L_gn (dj := 74) (t := true) rfl rfl rfl rfl ?_
     refine L_gn (dj := 74) (t := true) rfl rfl rfl rfl ?_
     refine L_gn (dj := 74) (t := true) rfl rfl rfl rfl ?_
     refine L_gn (dj := 74) (t := true) rfl rfl rfl rfl ?_
     refine L_gn (dj := 74) (t := true) rfl rfl rfl rfl ?_
     refine L_gn (dj := 74) (t := true) rfl rfl rfl rfl ?_
     refine L_gn (dj := 74) (t := true) rfl rfl rfl rfl ?_
     refine L_gn (dj := 74) (t := true) rfl rfl rfl rfl ?_
     refine L_gn (dj := 74) (t := true) rfl rfl rfl rfl ?_
     refine L_op rfl (X_pick (t := true) (v := (.bool (true))) rfl rfl ?_)
     refine L_nil ?_
     refine T_n ?_
     refine W_ct rfl ?_
     refine W_seq ?_
     refine W_reg ?_
     refine L_op rfl (X_fn (vs := []) en9 rfl (CT.mono (c_wakes _) ?_))
     rintro _ w10 ⟨rfl, hu10⟩
     have hz10 := hu10.size
     replace h0 := h0.ext hu10
     replace h1 := h1.ext hu10
     replace hU := hU.trans (Ext.upd hu10)
     replace hB1 := hB1.ext hu10
     replace hB2 := hB2.ext hu10
     refine L_op rfl (X_assign (v := (.bool (true))) rfl ?_)
     refine L_nil ?_
     refine T_n ?_
     refine W_ret ?_
     refine T_r ?_
     exact BQ_r (End_1 Try.results6 (v := .bool true) rfl ⟨rfl, hU.own hn0⟩)
    ·refine L_gy (dj := 37) rfl rfl rfl (X_load (p := (ptr b1 (7))) (v := .bool false) T4 rfl (hB1.at1 (by rw [hs9]; rfl)) ?_)
     refine L_op rfl (X_pick (t := false) (v := (.bool (false))) rfl rfl ?_)
     refine L_op rfl (X_move (v := (.bool (false))) rfl ?_)
     refine L_gy (dj := 43) rfl rfl rfl (X_fldP (b := b1) (o := 0) (r := 9) Fd29_2 rfl rfl ?_)
     rcases Bool.eq_false_or_eq_true (p.dn) with hs11 | hs11
     ·refine L_gy (dj := 43) rfl rfl rfl (X_load (p := (ptr b1 (9))) (v := .bool true) T4 rfl (hB1.at1 (by rw [hs11]; rfl)) ?_)
      refine L_op rfl (X_pick (t := false) (v := (.bool (true))) rfl rfl ?_)
      refine L_op rfl (X_move (v := (.bool (true))) rfl ?_)
      refine L_gn (dj := 47) (t := true) rfl rfl rfl rfl ?_
      refine L_gn (dj := 47) (t := true) rfl rfl rfl rfl ?_
      refine L_op rfl (X_pick (t := true) (v := (.bool (true))) rfl rfl ?_)
      refine L_op rfl (X_move (v := (.bool (true))) rfl ?_)
      refine L_gn (dj := 51) (t := true) rfl rfl rfl rfl ?_
      refine L_gn (dj := 51) (t := true) rfl rfl rfl rfl ?_
      refine L_op rfl (X_pick (t := true) (v := (.bool (true))) rfl rfl ?_)
      refine L_op rfl (X_move (v := (.bool (true))) rfl ?_)
      refine L_gn (dj := 55) (t := true) rfl rfl rfl rfl ?_
      refine L_gn (dj := 55) (t := true) rfl rfl rfl rfl ?_
      refine L_op rfl (X_pick (t := true) (v := (.bool (true))) rfl rfl ?_)
      refine L_op rfl (X_move (v := (.bool (true))) rfl ?_)
      refine L_gn (dj := 59) (t := true) rfl rfl rfl rfl ?_
      refine L_gn (dj := 59) (t := true) rfl rfl rfl rfl ?_
      refine L_gn (dj := 59) (t := true) rfl rfl rfl rfl ?_
      refine L_gn (dj := 59) (t := true) rfl rfl rfl rfl ?_
      refine L_gn (dj := 59) (t := true) rfl rfl rfl rfl ?_
      refine L_gn (dj := 59) (t := true) rfl rfl rfl rfl ?_
      refine L_gn (dj := 59) (t := true) rfl rfl rfl rfl ?_
      refine L_gn (dj := 59) (t := true) rfl rfl rfl rfl ?_
      refine L_gn (dj := 59) (t := true) rfl rfl rfl rfl ?_
      refine L_gn (dj := 59) (t := true) rfl rfl rfl rfl ?_
      refine L_gn (dj := 59) (t := true) rfl rfl rfl rfl ?_
      refine L_gn (dj := 59) (t := true) rfl rfl rfl rfl ?_
      refine L_gn (dj := 59) (t := true) rfl rfl rfl rfl ?_
      refine L_op rfl (X_pick (t := true) (v := (.bool (true))) rfl rfl ?_)
      refine L_op rfl (X_move (v := (.bool (true))) rfl ?_)
      refine L_gn (dj := 74) (t := true) rfl rfl rfl rfl ?_
      refine L_gn (dj := 74) (t := true) rfl rfl rfl rfl ?_
      refine L_gn (dj := 74) (t := true) rfl rfl rfl rfl ?_
      refine L_gn (dj := 74) (t := true) rfl rfl rfl rfl ?_
      refine L_gn (dj := 74) (t := true) rfl rfl rfl rfl ?_
      refine L_gn (dj := 74) (t := true) rfl rfl rfl rfl ?_
      refine L_gn (dj := 74) (t := true) rfl rfl rfl rfl ?_
      refine L_gn (dj := 74) (t := true) rfl rfl rfl rfl ?_
      refine L_gn (dj := 74) (t := true) rfl rfl rfl rfl ?_
      refine L_gn (dj := 74) (t := true) rfl rfl rfl rfl ?_
      refine L_gn (dj := 74) (t := true) rfl rfl rfl rfl ?_
      refine L_gn (dj := 74) (t := true) rfl rfl rfl rfl ?_
      refine L_op rfl (X_pick (t := true) (v := (.bool (true))) rfl rfl ?_)
      refine L_nil ?_
      refine T_n ?_
      refine W_ct rfl ?_
      refine W_seq ?_
      refine W_reg ?_
      refine L_op rfl (X_fn (vs := []) en9 rfl (CT.mono (c_wakes _) ?_))
      rintro _ w12 ⟨rfl, hu12⟩
      have hz12 := hu12.size
      replace h0 := h0.ext hu12
      replace h1 := h1.ext hu12
      replace hU := hU.trans (Ext.upd hu12)
      replace hB1 := hB1.ext hu12
      replace hB2 := hB2.ext hu12
      refine L_op rfl (X_assign (v := (.bool (true))) rfl ?_)
      refine L_nil ?_
      refine T_n ?_
      refine W_ret ?_
      refine T_r ?_
      exact BQ_r (End_1 Try.results6 (v := .bool true) rfl ⟨rfl, hU.own hn0⟩)
     ·refine L_gy (dj := 43) rfl rfl rfl (X_load (p := (ptr b1 (9))) (v := .bool false) T4 rfl (hB1.at1 (by rw [hs11]; rfl)) ?_)
      refine L_op rfl (X_pick (t := false) (v := (.bool (false))) rfl rfl ?_)
      refine L_op rfl (X_move (v := (.bool (false))) rfl ?_)
      refine L_gy (dj := 47) rfl rfl rfl (X_move (v := (.int .i64 (f))) rfl ?_)
      by_cases hc13 : (f : Int) < (0)
      ·refine L_gy (dj := 47) rfl rfl rfl (X_cmp (k := .i64) (a := f) (b := 0) (r := true) rfl rfl rfl (decide_eq_true (p := ((f) : Int) < ((0) : Int)) (by omega)) ?_)
       refine L_op rfl (X_pick (t := false) (v := (.bool (true))) rfl rfl ?_)
       refine L_op rfl (X_move (v := (.bool (true))) rfl ?_)
       refine L_gn (dj := 51) (t := true) rfl rfl rfl rfl ?_
       refine L_gn (dj := 51) (t := true) rfl rfl rfl rfl ?_
       refine L_op rfl (X_pick (t := true) (v := (.bool (true))) rfl rfl ?_)
       refine L_op rfl (X_move (v := (.bool (true))) rfl ?_)
       refine L_gn (dj := 55) (t := true) rfl rfl rfl rfl ?_
       refine L_gn (dj := 55) (t := true) rfl rfl rfl rfl ?_
       refine L_op rfl (X_pick (t := true) (v := (.bool (true))) rfl rfl ?_)
       refine L_op rfl (X_move (v := (.bool (true))) rfl ?_)
       refine L_gn (dj := 59) (t := true) rfl rfl rfl rfl ?_
       refine L_gn (dj := 59) (t := true) rfl rfl rfl rfl ?_
       refine L_gn (dj := 59) (t := true) rfl rfl rfl rfl ?_
       refine L_gn (dj := 59) (t := true) rfl rfl rfl rfl ?_
       refine L_gn (dj := 59) (t := true) rfl rfl rfl rfl ?_
       refine L_gn (dj := 59) (t := true) rfl rfl rfl rfl ?_
       refine L_gn (dj := 59) (t := true) rfl rfl rfl rfl ?_
       refine L_gn (dj := 59) (t := true) rfl rfl rfl rfl ?_
       refine L_gn (dj := 59) (t := true) rfl rfl rfl rfl ?_
       refine L_gn (dj := 59) (t := true) rfl rfl rfl rfl ?_
       refine L_gn (dj := 59) (t := true) rfl rfl rfl rfl ?_
       refine L_gn (dj := 59) (t := true) rfl rfl rfl rfl ?_
       refine L_gn (dj := 59) (t := true) rfl rfl rfl rfl ?_
       refine L_op rfl (X_pick (t := true) (v := (.bool (true))) rfl rfl ?_)
       refine L_op rfl (X_move (v := (.bool (true))) rfl ?_)
       refine L_gn (dj := 74) (t := true) rfl rfl rfl rfl ?_
       refine L_gn (dj := 74) (t := true) rfl rfl rfl rfl ?_
       refine L_gn (dj := 74) (t := true) rfl rfl rfl rfl ?_
       refine L_gn (dj := 74) (t := true) rfl rfl rfl rfl ?_
       refine L_gn (dj := 74) (t := true) rfl rfl rfl rfl ?_
       refine L_gn (dj := 74) (t := true) rfl rfl rfl rfl ?_
       refine L_gn (dj := 74) (t := true) rfl rfl rfl rfl ?_
       refine L_gn (dj := 74) (t := true) rfl rfl rfl rfl ?_
       refine L_gn (dj := 74) (t := true) rfl rfl rfl rfl ?_
       refine L_gn (dj := 74) (t := true) rfl rfl rfl rfl ?_
       refine L_gn (dj := 74) (t := true) rfl rfl rfl rfl ?_
       refine L_gn (dj := 74) (t := true) rfl rfl rfl rfl ?_
       refine L_op rfl (X_pick (t := true) (v := (.bool (true))) rfl rfl ?_)
       refine L_nil ?_
       refine T_n ?_
       refine W_ct rfl ?_
       refine W_seq ?_
       refine W_reg ?_
       refine L_op rfl (X_fn (vs := []) en9 rfl (CT.mono (c_wakes _) ?_))
       rintro _ w14 ⟨rfl, hu14⟩
       have hz14 := hu14.size
       replace h0 := h0.ext hu14
       replace h1 := h1.ext hu14
       replace hU := hU.trans (Ext.upd hu14)
       replace hB1 := hB1.ext hu14
       replace hB2 := hB2.ext hu14
       refine L_op rfl (X_assign (v := (.bool (true))) rfl ?_)
       refine L_nil ?_
       refine T_n ?_
       refine W_ret ?_
       refine T_r ?_
       exact BQ_r (End_1 Try.results6 (v := .bool true) rfl ⟨rfl, hU.own hn0⟩)
      ·refine L_gy (dj := 47) rfl rfl rfl (X_cmp (k := .i64) (a := f) (b := 0) (r := false) rfl rfl rfl (decide_eq_false (p := ((f) : Int) < ((0) : Int)) (by omega)) ?_)
       refine L_op rfl (X_pick (t := false) (v := (.bool (false))) rfl rfl ?_)
       refine L_op rfl (X_move (v := (.bool (false))) rfl ?_)
       refine L_gy (dj := 51) rfl rfl rfl (X_move (v := (.int .i64 (f))) rfl ?_)
       by_cases hc15 : (f : Int) > (20)
       ·refine L_gy (dj := 51) rfl rfl rfl (X_cmp (k := .i64) (a := f) (b := 20) (r := true) rfl rfl rfl (decide_eq_true (p := ((20) : Int) < ((f) : Int)) (by omega)) ?_)
        refine L_op rfl (X_pick (t := false) (v := (.bool (true))) rfl rfl ?_)
        refine L_op rfl (X_move (v := (.bool (true))) rfl ?_)
        refine L_gn (dj := 55) (t := true) rfl rfl rfl rfl ?_
        refine L_gn (dj := 55) (t := true) rfl rfl rfl rfl ?_
        refine L_op rfl (X_pick (t := true) (v := (.bool (true))) rfl rfl ?_)
        refine L_op rfl (X_move (v := (.bool (true))) rfl ?_)
        refine L_gn (dj := 59) (t := true) rfl rfl rfl rfl ?_
        refine L_gn (dj := 59) (t := true) rfl rfl rfl rfl ?_
        refine L_gn (dj := 59) (t := true) rfl rfl rfl rfl ?_
        refine L_gn (dj := 59) (t := true) rfl rfl rfl rfl ?_
        refine L_gn (dj := 59) (t := true) rfl rfl rfl rfl ?_
        refine L_gn (dj := 59) (t := true) rfl rfl rfl rfl ?_
        refine L_gn (dj := 59) (t := true) rfl rfl rfl rfl ?_
        refine L_gn (dj := 59) (t := true) rfl rfl rfl rfl ?_
        refine L_gn (dj := 59) (t := true) rfl rfl rfl rfl ?_
        refine L_gn (dj := 59) (t := true) rfl rfl rfl rfl ?_
        refine L_gn (dj := 59) (t := true) rfl rfl rfl rfl ?_
        refine L_gn (dj := 59) (t := true) rfl rfl rfl rfl ?_
        refine L_gn (dj := 59) (t := true) rfl rfl rfl rfl ?_
        refine L_op rfl (X_pick (t := true) (v := (.bool (true))) rfl rfl ?_)
        refine L_op rfl (X_move (v := (.bool (true))) rfl ?_)
        refine L_gn (dj := 74) (t := true) rfl rfl rfl rfl ?_
        refine L_gn (dj := 74) (t := true) rfl rfl rfl rfl ?_
        refine L_gn (dj := 74) (t := true) rfl rfl rfl rfl ?_
        refine L_gn (dj := 74) (t := true) rfl rfl rfl rfl ?_
        refine L_gn (dj := 74) (t := true) rfl rfl rfl rfl ?_
        refine L_gn (dj := 74) (t := true) rfl rfl rfl rfl ?_
        refine L_gn (dj := 74) (t := true) rfl rfl rfl rfl ?_
        refine L_gn (dj := 74) (t := true) rfl rfl rfl rfl ?_
        refine L_gn (dj := 74) (t := true) rfl rfl rfl rfl ?_
        refine L_gn (dj := 74) (t := true) rfl rfl rfl rfl ?_
        refine L_gn (dj := 74) (t := true) rfl rfl rfl rfl ?_
        refine L_gn (dj := 74) (t := true) rfl rfl rfl rfl ?_
        refine L_op rfl (X_pick (t := true) (v := (.bool (true))) rfl rfl ?_)
        refine L_nil ?_
        refine T_n ?_
        refine W_ct rfl ?_
        refine W_seq ?_
        refine W_reg ?_
        refine L_op rfl (X_fn (vs := []) en9 rfl (CT.mono (c_wakes _) ?_))
        rintro _ w16 ⟨rfl, hu16⟩
        have hz16 := hu16.size
        replace h0 := h0.ext hu16
        replace h1 := h1.ext hu16
        replace hU := hU.trans (Ext.upd hu16)
        replace hB1 := hB1.ext hu16
        replace hB2 := hB2.ext hu16
        refine L_op rfl (X_assign (v := (.bool (true))) rfl ?_)
        refine L_nil ?_
        refine T_n ?_
        refine W_ret ?_
        refine T_r ?_
        exact BQ_r (End_1 Try.results6 (v := .bool true) rfl ⟨rfl, hU.own hn0⟩)
       ·refine L_gy (dj := 51) rfl rfl rfl (X_cmp (k := .i64) (a := f) (b := 20) (r := false) rfl rfl rfl (decide_eq_false (p := ((20) : Int) < ((f) : Int)) (by omega)) ?_)
        refine L_op rfl (X_pick (t := false) (v := (.bool (false))) rfl rfl ?_)
        refine L_op rfl (X_move (v := (.bool (false))) rfl ?_)
        refine L_gy (dj := 55) rfl rfl rfl (X_move (v := (.int .i64 (n))) rfl ?_)
        by_cases hc17 : (n : Int) < (0)
        ·refine L_gy (dj := 55) rfl rfl rfl (X_cmp (k := .i64) (a := n) (b := 0) (r := true) rfl rfl rfl (decide_eq_true (p := ((n) : Int) < ((0) : Int)) (by omega)) ?_)
         refine L_op rfl (X_pick (t := false) (v := (.bool (true))) rfl rfl ?_)
         refine L_op rfl (X_move (v := (.bool (true))) rfl ?_)
         refine L_gn (dj := 59) (t := true) rfl rfl rfl rfl ?_
         refine L_gn (dj := 59) (t := true) rfl rfl rfl rfl ?_
         refine L_gn (dj := 59) (t := true) rfl rfl rfl rfl ?_
         refine L_gn (dj := 59) (t := true) rfl rfl rfl rfl ?_
         refine L_gn (dj := 59) (t := true) rfl rfl rfl rfl ?_
         refine L_gn (dj := 59) (t := true) rfl rfl rfl rfl ?_
         refine L_gn (dj := 59) (t := true) rfl rfl rfl rfl ?_
         refine L_gn (dj := 59) (t := true) rfl rfl rfl rfl ?_
         refine L_gn (dj := 59) (t := true) rfl rfl rfl rfl ?_
         refine L_gn (dj := 59) (t := true) rfl rfl rfl rfl ?_
         refine L_gn (dj := 59) (t := true) rfl rfl rfl rfl ?_
         refine L_gn (dj := 59) (t := true) rfl rfl rfl rfl ?_
         refine L_gn (dj := 59) (t := true) rfl rfl rfl rfl ?_
         refine L_op rfl (X_pick (t := true) (v := (.bool (true))) rfl rfl ?_)
         refine L_op rfl (X_move (v := (.bool (true))) rfl ?_)
         refine L_gn (dj := 74) (t := true) rfl rfl rfl rfl ?_
         refine L_gn (dj := 74) (t := true) rfl rfl rfl rfl ?_
         refine L_gn (dj := 74) (t := true) rfl rfl rfl rfl ?_
         refine L_gn (dj := 74) (t := true) rfl rfl rfl rfl ?_
         refine L_gn (dj := 74) (t := true) rfl rfl rfl rfl ?_
         refine L_gn (dj := 74) (t := true) rfl rfl rfl rfl ?_
         refine L_gn (dj := 74) (t := true) rfl rfl rfl rfl ?_
         refine L_gn (dj := 74) (t := true) rfl rfl rfl rfl ?_
         refine L_gn (dj := 74) (t := true) rfl rfl rfl rfl ?_
         refine L_gn (dj := 74) (t := true) rfl rfl rfl rfl ?_
         refine L_gn (dj := 74) (t := true) rfl rfl rfl rfl ?_
         refine L_gn (dj := 74) (t := true) rfl rfl rfl rfl ?_
         refine L_op rfl (X_pick (t := true) (v := (.bool (true))) rfl rfl ?_)
         refine L_nil ?_
         refine T_n ?_
         refine W_ct rfl ?_
         refine W_seq ?_
         refine W_reg ?_
         refine L_op rfl (X_fn (vs := []) en9 rfl (CT.mono (c_wakes _) ?_))
         rintro _ w18 ⟨rfl, hu18⟩
         have hz18 := hu18.size
         replace h0 := h0.ext hu18
         replace h1 := h1.ext hu18
         replace hU := hU.trans (Ext.upd hu18)
         replace hB1 := hB1.ext hu18
         replace hB2 := hB2.ext hu18
         refine L_op rfl (X_assign (v := (.bool (true))) rfl ?_)
         refine L_nil ?_
         refine T_n ?_
         refine W_ret ?_
         refine T_r ?_
         exact BQ_r (End_1 Try.results6 (v := .bool true) rfl ⟨rfl, hU.own hn0⟩)
        ·refine L_gy (dj := 55) rfl rfl rfl (X_cmp (k := .i64) (a := n) (b := 0) (r := false) rfl rfl rfl (decide_eq_false (p := ((n) : Int) < ((0) : Int)) (by omega)) ?_)
         refine L_op rfl (X_pick (t := false) (v := (.bool (false))) rfl rfl ?_)
         refine L_op rfl (X_move (v := (.bool (false))) rfl ?_)
         refine L_gy (dj := 59) rfl rfl rfl (X_move (v := (.int .i64 (n))) rfl ?_)
         refine L_gy (dj := 59) rfl rfl rfl (X_fldP (b := b1) (o := 0) (r := 0) Fd29_0 rfl rfl ?_)
         refine L_gy (dj := 59) rfl rfl rfl (X_idxAP (len := 2) (sz := 4) (b := b1) (o := 0) (k := .i64) (i := 0) (r := 0) Try.underlying27 Z26 rfl rfl (by omega) (by omega) rfl ?_)
         refine L_gy (dj := 59) rfl rfl rfl (X_fldP (b := b1) (o := 0) (r := 0) Fd26_0 rfl rfl ?_)
         refine L_gy (dj := 59) rfl rfl rfl (X_load (p := (ptr b1 (0))) (v := p.d0.pv) T22 rfl (hB1.at1 rfl) ?_)
         refine L_gy (dj := 59) rfl rfl rfl (X_len (v := p.d0.pv) (n := p.d0.ps.length) Try.underlying22 rfl h0.1.sv ?_)
         refine L_gy (dj := 59) rfl rfl rfl (X_fldP (b := b1) (o := 0) (r := 0) Fd29_0 rfl rfl ?_)
         refine L_gy (dj := 59) rfl rfl rfl (X_idxAP (len := 2) (sz := 4) (b := b1) (o := 0) (k := .i64) (i := 1) (r := 4) Try.underlying27 Z26 rfl rfl (by omega) (by omega) rfl ?_)
         refine L_gy (dj := 59) rfl rfl rfl (X_fldP (b := b1) (o := 4) (r := 4) Fd26_0 rfl rfl ?_)
         refine L_gy (dj := 59) rfl rfl rfl (X_load (p := (ptr b1 (4))) (v := p.d1.pv) T22 rfl (hB1.at1 rfl) ?_)
         refine L_gy (dj := 59) rfl rfl rfl (X_len (v := p.d1.pv) (n := p.d1.ps.length) Try.underlying22 rfl h1.1.sv ?_)
         refine L_gy (dj := 59) rfl rfl rfl (X_min (k := .i64) (a := ((p.d0.ps.length : Nat) : Int)) (b := ((p.d1.ps.length : Nat) : Int)) (r := ((m : Nat) : Int)) rfl rfl (by omega) ?_)
         by_cases hc19 : (n : Int) ≥ (((m : Nat) : Int))
         ·refine L_gy (dj := 59) rfl rfl rfl (X_cmp (k := .i64) (a := n) (b := ((m : Nat) : Int)) (r := true) rfl rfl rfl (decide_eq_true (p := ((((m : Nat) : Int)) : Int) ≤ ((n) : Int)) (by omega)) ?_)
          refine L_op rfl (X_pick (t := false) (v := (.bool (true))) rfl rfl ?_)
          refine L_op rfl (X_move (v := (.bool (true))) rfl ?_)
          refine L_gn (dj := 74) (t := true) rfl rfl rfl rfl ?_
          refine L_gn (dj := 74) (t := true) rfl rfl rfl rfl ?_
          refine L_gn (dj := 74) (t := true) rfl rfl rfl rfl ?_
          refine L_gn (dj := 74) (t := true) rfl rfl rfl rfl ?_
          refine L_gn (dj := 74) (t := true) rfl rfl rfl rfl ?_
          refine L_gn (dj := 74) (t := true) rfl rfl rfl rfl ?_
          refine L_gn (dj := 74) (t := true) rfl rfl rfl rfl ?_
          refine L_gn (dj := 74) (t := true) rfl rfl rfl rfl ?_
          refine L_gn (dj := 74) (t := true) rfl rfl rfl rfl ?_
          refine L_gn (dj := 74) (t := true) rfl rfl rfl rfl ?_
          refine L_gn (dj := 74) (t := true) rfl rfl rfl rfl ?_
          refine L_gn (dj := 74) (t := true) rfl rfl rfl rfl ?_
          refine L_op rfl (X_pick (t := true) (v := (.bool (true))) rfl rfl ?_)
          refine L_nil ?_
          refine T_n ?_
          refine W_ct rfl ?_
          refine W_seq ?_
          refine W_reg ?_
          refine L_op rfl (X_fn (vs := []) en9 rfl (CT.mono (c_wakes _) ?_))
          rintro _ w20 ⟨rfl, hu20⟩
          have hz20 := hu20.size
          replace h0 := h0.ext hu20
          replace h1 := h1.ext hu20
          replace hU := hU.trans (Ext.upd hu20)
          replace hB1 := hB1.ext hu20
          replace hB2 := hB2.ext hu20
          refine L_op rfl (X_assign (v := (.bool (true))) rfl ?_)
          refine L_nil ?_
          refine T_n ?_
          refine W_ret ?_
          refine T_r ?_
          exact BQ_r (End_1 Try.results6 (v := .bool true) rfl ⟨rfl, hU.own hn0⟩)
         ·refine L_gy (dj := 59) rfl rfl rfl (X_cmp (k := .i64) (a := n) (b := ((m : Nat) : Int)) (r := false) rfl rfl rfl (decide_eq_false (p := ((((m : Nat) : Int)) : Int) ≤ ((n) : Int)) (by omega)) ?_)
          refine L_op rfl (X_pick (t := false) (v := (.bool (false))) rfl rfl ?_)
          refine L_op rfl (X_move (v := (.bool (false))) rfl ?_)
          refine L_gy (dj := 74) rfl rfl rfl (X_fldP (b := b1) (o := 0) (r := 0) Fd29_0 rfl rfl ?_)
          refine L_gy (dj := 74) rfl rfl rfl (X_idxAP (len := 2) (sz := 4) (b := b1) (o := 0) (k := .i64) (i := 0) (r := 0) Try.underlying27 Z26 rfl rfl (by omega) (by omega) rfl ?_)
          refine L_gy (dj := 74) rfl rfl rfl (X_fldP (b := b1) (o := 0) (r := 1) Fd26_1 rfl rfl ?_)
          refine L_gy (dj := 74) rfl rfl rfl (X_load (p := (ptr b1 (1))) (v := p.d0.cv) T23 rfl (hB1.at1 rfl) ?_)
          refine L_gy (dj := 74) rfl rfl rfl (X_len (v := p.d0.cv) (n := p.d0.cs.length) Try.underlying23 rfl h0.2.1.sv ?_)
          refine L_gy (dj := 74) rfl rfl rfl (X_fldP (b := b1) (o := 0) (r := 0) Fd29_0 rfl rfl ?_)
          refine L_gy (dj := 74) rfl rfl rfl (X_idxAP (len := 2) (sz := 4) (b := b1) (o := 0) (k := .i64) (i := 1) (r := 4) Try.underlying27 Z26 rfl rfl (by omega) (by omega) rfl ?_)
          refine L_gy (dj := 74) rfl rfl rfl (X_fldP (b := b1) (o := 4) (r := 5) Fd26_1 rfl rfl ?_)
          refine L_gy (dj := 74) rfl rfl rfl (X_load (p := (ptr b1 (5))) (v := p.d1.cv) T23 rfl (hB1.at1 rfl) ?_)
          refine L_gy (dj := 74) rfl rfl rfl (X_len (v := p.d1.cv) (n := p.d1.cs.length) Try.underlying23 rfl h1.2.1.sv ?_)
          have hcA_ := (hgA.1 hc4).1.2.2.1; have hcB_ := (hgB.1 hc6).1.2.2.1
          refine L_gy (dj := 74) rfl rfl rfl (X_arith (k := .i64) (a := ((p.d0.cs.length : Nat) : Int)) (b := ((p.d1.cs.length : Nat) : Int)) (r := ((p.d0.cs.length + p.d1.cs.length : Nat) : Int)) rfl rfl rfl (iadd64 (by omega) (by omega) (by omega)) ?_)
          by_cases hc21 : (((p.d0.cs.length + p.d1.cs.length : Nat) : Int) : Int) > (0)
          ·refine L_gy (dj := 74) rfl rfl rfl (X_cmp (k := .i64) (a := ((p.d0.cs.length + p.d1.cs.length : Nat) : Int)) (b := 0) (r := true) rfl rfl rfl (decide_eq_true (p := ((0) : Int) < ((((p.d0.cs.length + p.d1.cs.length : Nat) : Int)) : Int)) (by omega)) ?_)
           refine L_op rfl (X_pick (t := false) (v := (.bool (true))) rfl rfl ?_)
           refine L_nil ?_
           refine T_n ?_
           refine W_ct rfl ?_
           refine W_seq ?_
           refine W_reg ?_
           refine L_op rfl (X_fn (vs := []) en9 rfl (CT.mono (c_wakes _) ?_))
           rintro _ w22 ⟨rfl, hu22⟩
           have hz22 := hu22.size
           replace h0 := h0.ext hu22
           replace h1 := h1.ext hu22
           replace hU := hU.trans (Ext.upd hu22)
           replace hB1 := hB1.ext hu22
           replace hB2 := hB2.ext hu22
           refine L_op rfl (X_assign (v := (.bool (true))) rfl ?_)
           refine L_nil ?_
           refine T_n ?_
           refine W_ret ?_
           refine T_r ?_
           exact BQ_r (End_1 Try.results6 (v := .bool true) rfl ⟨rfl, hU.own hn0⟩)
          ·refine L_gy (dj := 74) rfl rfl rfl (X_cmp (k := .i64) (a := ((p.d0.cs.length + p.d1.cs.length : Nat) : Int)) (b := 0) (r := false) rfl rfl rfl (decide_eq_false (p := ((0) : Int) < ((((p.d0.cs.length + p.d1.cs.length : Nat) : Int)) : Int)) (by omega)) ?_)
           refine L_op rfl (X_pick (t := false) (v := (.bool (false))) rfl rfl ?_)
           refine L_nil ?_
           refine T_n ?_
           refine W_cf rfl ?_
           refine W_skip ?_
           refine T_n ?_
           refine W_seq ?_
           have hMA : p.da.a.May := hgA.1 hc4
           have hMB : p.da.b.May := hgB.1 hc6
           have hl256 := hMA.1.2.1
           replace hl256 : p.d0.ps.length ≤ 256 := hl256
           have hn1 : 0 ≤ n := by omega
           refine W_reg ?_
           refine L_op rfl (X_move (v := (.int .i64 (f))) rfl ?_)
           refine L_op rfl (X_fldP (b := b1) (o := 0) (r := 8) Fd29_1 rfl rfl ?_)
           refine L_op0 (X_store (b := b1) (o := 8) T3 rfl rfl rfl hB1 (by show (8 : Nat) < 10; decide) ?_)
           intro w23 hu23 hb23
           have hz23 := hu23.size
           replace h0 := h0.upd hu23 fun i h1 h2 h => by have h : i = b1 := h; omega
           replace h1 := h1.upd hu23 fun i h1 h2 h => by have h : i = b1 := h; omega
           replace hU := hU.trans (hu23.mono fun i _ h => by have h : i = b1 := h; show n0 ≤ i; omega)
           replace hB2 := hB2.upd hu23 fun h => by have h : b2 = b1 := h; omega
           replace hB1 : Blk w23 b1 #[p.d0.pv, p.d0.cv, p.d0.bv, (.bool (p.d0.off)), p.d1.pv, p.d1.cv, p.d1.bv, (.bool (p.d1.off)), (.int .i64 (f)), (.bool (p.dn))] 29 := hb23
           refine L_nil ?_
           refine T_n ?_
           refine W_seq ?_
           refine W_seq ?_
           refine W_reg ?_
           refine L_op rfl (X_assign (v := (.int .i64 (0))) rfl ?_)
           refine L_nil ?_
           refine T_n ?_
           refine W_block ?_
           obtain ⟨nL, hnL⟩ : ∃ n, n = w23.heap.size := ⟨_, rfl⟩
           have hltL_hB2 := hB2.lt
           have hltL_hB1 := hB1.lt
           refine W_loop (α := Nat × Pr × Nat × Nat × Nat × Nat) [8, 9, 10, 11, 91, 92, 93, 94, 95, 96, 97, 98, 99, 100, 101, 102, 103, 104, 105, 106, 107, 108, 109, 110, 111, 112, 113, 114, 115, 116, 117, 118, 119, 120] (fun ⟨i, pz, l0z, u0z, l1z, u1z⟩ => [(9, (.int .i64 (((i : Nat) : Int))))]) (fun ⟨i, pz, l0z, u0z, l1z, u1z⟩ w_ => (i : Int) ≤ f ∧ Blk w_ b1 #[pz.d0.pv, pz.d0.cv, pz.d0.bv, (.bool (pz.d0.off)), pz.d1.pv, pz.d1.cv, pz.d1.bv, (.bool (pz.d1.off)), (.int .i64 (pz.fz)), (.bool (pz.dn))] 29 ∧ Blk w_ b2 (pg.1.map byteV).toArray 37 ∧ pz.d0.Rd w_ l0z u0z ∧ pz.d1.Rd w_ l1z u1z ∧ Upd (fun i => n0 ≤ i) w w_ ∧ nL ≤ w_.heap.size ∧ (l0z = 0 ∧ u0z = n0 ∨ nL ≤ l0z ∧ u0z ≤ w_.heap.size) ∧ (l1z = 0 ∧ u1z = n0 ∨ nL ≤ l1z ∧ u1z ≤ w_.heap.size) ∧ FuseI p.da f pz.da i) (fun ⟨i, pz, l0z, u0z, l1z, u1z⟩ => (f - i).toNat) ⟨rfl, (0, ⟨p.d0, p.d1, f, p.dn⟩, 0, n0, 0, n0), ⟨by omega, hB1, hB2, h0, h1, hU, by omega, .inl ⟨rfl, rfl⟩, .inl ⟨rfl, rfl⟩, ⟨hs11, by show f = f - ((0 : Nat) : Int); omega, hs7, hs9, hMA, hMB, by show p.d0.cs.length ≤ 0; omega, by show p.d1.cs.length ≤ 0; omega, rfl, rfl⟩⟩, Out.refl _ _, ⟨rfl, trivial⟩⟩ ?_
           rintro ⟨i, pz, l0z, u0z, l1z, u1z⟩ w24 _ ⟨hil, hB1, hB2, hz0, hz1, hU, hnLw, hiz0, hiz1, hFI⟩
           have hsz_ := hU.size
           have hubz0 : u0z ≤ w24.heap.size := by omega
           have hubz1 : u1z ≤ w24.heap.size := by omega
           have hzdn : pz.dn = false := hFI.dn
           have hzfz : pz.fz = f - i := hFI.fz
           refine W_seq ?_
           refine W_seq ?_
           refine W_reg ?_
           refine L_op rfl (X_move (v := (.int .i64 (((i : Nat) : Int)))) rfl ?_)
           refine L_op rfl (X_move (v := (.int .i64 (f))) rfl ?_)
           by_cases hc25 : (((i : Nat) : Int) : Int) < (f)
           ·refine L_op rfl (X_cmp (k := .i64) (a := ((i : Nat) : Int)) (b := f) (r := true) rfl rfl rfl (decide_eq_true (p := ((((i : Nat) : Int)) : Int) < ((f) : Int)) (by omega)) ?_)
            refine L_nil ?_
            refine T_n ?_
            refine W_ct rfl ?_
            refine W_skip ?_
            refine T_n ?_
            refine W_seq ?_
            refine W_block ?_
            refine W_seq ?_
            refine W_reg ?_
            refine L_op rfl (X_loadA (p := (ptr b1 (0))) (xs := [pz.d0.pv, pz.d0.cv, pz.d0.bv, (.bool (pz.d0.off)), pz.d1.pv, pz.d1.cv, pz.d1.bv, (.bool (pz.d1.off)), (.int .i64 (pz.fz)), (.bool (pz.dn))]) A29 rfl hB1.atAll rfl ?_)
            refine L_op rfl (X_move (v := (.int .i64 (((i : Nat) : Int)))) rfl ?_)
            rcases Nat.mod_two_eq_zero_or_one i with hpar | hpar
            ·refine L_op rfl (X_arith (k := .i64) (a := ((i : Nat) : Int)) (b := 2) (r := 0) rfl rfl rfl (irem64 (by omega) (by omega)) ?_)
             refine L_op rfl (X_move (v := (.int .i64 (n))) rfl ?_)
             refine L_op rfl (X_loadA (p := (ptr b2 (0))) (xs := ((pg.1).map byteV)) A37 rfl hB2.atAll (by rw [List.length_map]; exact pg.2) ?_)
             obtain ⟨hput, hFI2⟩ := fuse_0 (pg := pg) hFI (by omega) (by omega) hn1 (show n < ((p.d0.ps.length : Nat) : Int) by omega)
             have hpt2 : (putD pz.da 0 n pg).2 = 0 := by rw [hput]
             obtain ⟨sq, hsq⟩ : ∃ n, n = w24.heap.size := ⟨_, rfl⟩
             have hcr_ := c_putA0 pz n pg w24 (by omega) l0z u0z l1z u1z (by omega) (by omega) hz0 hz1 ((may_sz hFI.ma).mono (by decide))
             refine L_op rfl (X_fn (vs := [(.agg ([pz.d0.pv, pz.d0.cv, pz.d0.bv, (.bool (pz.d0.off)), pz.d1.pv, pz.d1.cv, pz.d1.bv, (.bool (pz.d1.off)), (.int .i64 (pz.fz)), (.bool (pz.dn))]).toArray), (.int .i64 (0)), (.int .i64 (n)), (.agg (((pg.1).map byteV)).toArray)]) en21 rfl ?_)
             refine CT.mono hcr_ ?_
             clear hcr_
             rintro _ w26 ⟨pq, l0q, u0q, l1q, u1q, rfl, hq0, hq1, hiq0, hiq1, _, _, hdaq, hu26⟩
             have hz26 := hu26.size
             obtain ⟨eq, heq⟩ : ∃ z, z = (putD pz.da 0 n pg).2 := ⟨_, rfl⟩
             rw [← heq]
             obtain ⟨uq, huq⟩ : ∃ n, n = w26.heap.size := ⟨_, rfl⟩
             rw [← hsq, ← huq] at hiq0 hiq1
             have hubq0 : u0q ≤ uq := by omega
             have hubq1 : u1q ≤ uq := by omega
             replace hB1 := hB1.ext hu26
             replace hB2 := hB2.ext hu26
             replace hz0 := hz0.ext hu26
             replace hz1 := hz1.ext hu26
             replace hU := hU.trans (Ext.upd hu26)
             rw [hpt2] at heq; subst heq
             have hqdn : pq.dn = false := by have h_ : pq.dn = (putD pz.da 0 n pg).1.dn := congrArg PD.dn hdaq; rw [hput] at h_; exact h_.trans hzdn
             have hqfz : pq.fz = f - 1 - i := by have h_ : pq.fz = (putD pz.da 0 n pg).1.fz := congrArg PD.fz hdaq; rw [hput] at h_; have h2_ : pq.fz = pz.fz - 1 := h_; omega
             refine L_op rfl (X_move (v := (.tuple #[(.agg #[pq.d0.pv, pq.d0.cv, pq.d0.bv, (.bool (pq.d0.off)), pq.d1.pv, pq.d1.cv, pq.d1.bv, (.bool (pq.d1.off)), (.int .i64 (pq.fz)), (.bool (pq.dn))]), (.int .i64 (0))])) rfl ?_)
             refine L_op rfl (X_extract (l := [(.agg #[pq.d0.pv, pq.d0.cv, pq.d0.bv, (.bool (pq.d0.off)), pq.d1.pv, pq.d1.cv, pq.d1.bv, (.bool (pq.d1.off)), (.int .i64 (pq.fz)), (.bool (pq.dn))]), (.int .i64 (0))]) (v := (.agg #[pq.d0.pv, pq.d0.cv, pq.d0.bv, (.bool (pq.d0.off)), pq.d1.pv, pq.d1.cv, pq.d1.bv, (.bool (pq.d1.off)), (.int .i64 (pq.fz)), (.bool (pq.dn))])) rfl rfl ?_)
             refine L_op rfl (X_extract (l := [(.agg #[pq.d0.pv, pq.d0.cv, pq.d0.bv, (.bool (pq.d0.off)), pq.d1.pv, pq.d1.cv, pq.d1.bv, (.bool (pq.d1.off)), (.int .i64 (pq.fz)), (.bool (pq.dn))]), (.int .i64 (0))]) (v := (.int .i64 (0))) rfl rfl ?_)
             refine L_op rfl (X_alloc (z := (.agg #[(.slice none 0 0), (.slice none 0 0), (.slice none 0 0), (.bool (false)), (.slice none 0 0), (.slice none 0 0), (.slice none 0 0), (.bool (false)), (.int .i64 (0)), (.bool (false))])) (c := #[(.slice none 0 0), (.slice none 0 0), (.slice none 0 0), (.bool (false)), (.slice none 0 0), (.slice none 0 0), (.slice none 0 0), (.bool (false)), (.int .i64 (0)), (.bool (false))]) Zv29 rfl ?_)
             intro b27 w27 hn27
             have hbn27 := hn27.num; have hbs27 := hn27.size
             replace hB1 := hB1.ext hn27.ext
             replace hB2 := hB2.ext hn27.ext
             replace hz0 := hz0.ext hn27.ext
             replace hz1 := hz1.ext hn27.ext
             replace hU := hU.trans (Ext.upd hn27.ext)
             replace hq0 := hq0.ext hn27.ext
             replace hq1 := hq1.ext hn27.ext
             have hB27 := hn27.blk
             refine L_op0 (X_storeW (b := b27) (ys := [pq.d0.pv, pq.d0.cv, pq.d0.bv, (.bool (pq.d0.off)), pq.d1.pv, pq.d1.cv, pq.d1.bv, (.bool (pq.d1.off)), (.int .i64 (pq.fz)), (.bool (pq.dn))]) A29 rfl rfl (List.forall_mem_cons.2 ⟨(hq0.1.sv.one), (List.forall_mem_cons.2 ⟨(hq0.2.1.sv.one), (List.forall_mem_cons.2 ⟨(hq0.2.2.sv.one), (List.forall_mem_cons.2 ⟨rfl, (List.forall_mem_cons.2 ⟨(hq1.1.sv.one), (List.forall_mem_cons.2 ⟨(hq1.2.1.sv.one), (List.forall_mem_cons.2 ⟨(hq1.2.2.sv.one), (List.forall_mem_cons.2 ⟨rfl, (List.forall_mem_cons.2 ⟨rfl, (List.forall_mem_cons.2 ⟨rfl, (fun _ h => by cases h)⟩)⟩)⟩)⟩)⟩)⟩)⟩)⟩)⟩)⟩) rfl hB27 rfl ?_)
             intro w28 hu28 hb28
             have hz28 := hu28.size
             replace hB1 := hB1.upd hu28 fun h => by have h : b1 = b27 := h; omega
             replace hB2 := hB2.upd hu28 fun h => by have h : b2 = b27 := h; omega
             replace hz0 := hz0.upd hu28 fun i h1 h2 h => by have h : i = b27 := h; omega
             replace hz1 := hz1.upd hu28 fun i h1 h2 h => by have h : i = b27 := h; omega
             replace hU := hU.trans (hu28.mono fun i _ h => by have h : i = b27 := h; show n0 ≤ i; omega)
             replace hq0 := hq0.upd hu28 fun i h1 h2 h => by have h : i = b27 := h; omega
             replace hq1 := hq1.upd hu28 fun i h1 h2 h => by have h : i = b27 := h; omega
             replace hB27 : Blk w28 b27 #[pq.d0.pv, pq.d0.cv, pq.d0.bv, (.bool (pq.d0.off)), pq.d1.pv, pq.d1.cv, pq.d1.bv, (.bool (pq.d1.off)), (.int .i64 (pq.fz)), (.bool (pq.dn))] 29 := hb28
             refine L_op rfl (X_assign (v := (.int .i64 (0))) rfl ?_)
             refine L_nil ?_
             refine T_n ?_
             refine W_seq ?_
             refine W_seq ?_
             refine W_reg ?_
             refine L_op rfl (X_move (v := (.int .i64 (0))) rfl ?_)
             refine L_op rfl (X_cmp (k := .i64) (a := 0) (b := 0) (r := false) rfl rfl rfl rfl ?_)
             refine L_op rfl (X_move (v := (.bool (false))) rfl ?_)
             refine L_gy (dj := 107) rfl rfl rfl (X_fldP (b := b27) (o := 0) (r := 9) Fd29_2 rfl rfl ?_)
             refine L_gy (dj := 107) rfl rfl rfl (X_load (p := (ptr b27 (9))) (v := .bool false) T4 rfl (hB27.at1 (by rw [hqdn]; rfl)) ?_)
             refine L_op rfl (X_pick (t := false) (v := (.bool (false))) rfl rfl ?_)
             refine L_op rfl (X_move (v := (.bool (false))) rfl ?_)
             refine L_gy (dj := 111) rfl rfl rfl (X_fldP (b := b27) (o := 0) (r := 8) Fd29_1 rfl rfl ?_)
             refine L_gy (dj := 111) rfl rfl rfl (X_load (p := (ptr b27 (8))) (v := (.int .i64 (pq.fz))) T3 rfl (hB27.at1 rfl) ?_)
             refine L_gy (dj := 111) rfl rfl rfl (X_move (v := (.int .i64 (f))) rfl ?_)
             refine L_gy (dj := 111) rfl rfl rfl (X_arith (k := .i64) (a := f) (b := 1) (r := (f - 1 : Int)) rfl rfl rfl (isub64 rfl (by omega) (by omega)) ?_)
             refine L_gy (dj := 111) rfl rfl rfl (X_move (v := (.int .i64 (((i : Nat) : Int)))) rfl ?_)
             refine L_gy (dj := 111) rfl rfl rfl (X_arith (k := .i64) (a := (f - 1 : Int)) (b := ((i : Nat) : Int)) (r := ((f - 1 : Int) - ((i : Nat) : Int) : Int)) rfl rfl rfl (isub64 rfl (by omega) (by omega)) ?_)
             refine L_gy (dj := 111) rfl rfl rfl (X_cmp (k := .i64) (a := pq.fz) (b := ((f - 1 : Int) - ((i : Nat) : Int) : Int)) (r := false) rfl rfl rfl (decide_eq_false (p := ((pq.fz) : Int) ≠ ((((f - 1 : Int) - ((i : Nat) : Int) : Int)) : Int)) (by omega)) ?_)
             refine L_op rfl (X_pick (t := false) (v := (.bool (false))) rfl rfl ?_)
             refine L_nil ?_
             refine T_n ?_
             refine W_cf rfl ?_
             refine W_skip ?_
             refine T_n ?_
             refine W_reg ?_
             refine L_op rfl (X_loadA (p := (ptr b27 (0))) (xs := [pq.d0.pv, pq.d0.cv, pq.d0.bv, (.bool (pq.d0.off)), pq.d1.pv, pq.d1.cv, pq.d1.bv, (.bool (pq.d1.off)), (.int .i64 (pq.fz)), (.bool (pq.dn))]) A29 rfl hB27.atAll rfl ?_)
             refine L_op0 (X_storeW (b := b1) (ys := [pq.d0.pv, pq.d0.cv, pq.d0.bv, (.bool (pq.d0.off)), pq.d1.pv, pq.d1.cv, pq.d1.bv, (.bool (pq.d1.off)), (.int .i64 (pq.fz)), (.bool (pq.dn))]) A29 rfl rfl (List.forall_mem_cons.2 ⟨(hq0.1.sv.one), (List.forall_mem_cons.2 ⟨(hq0.2.1.sv.one), (List.forall_mem_cons.2 ⟨(hq0.2.2.sv.one), (List.forall_mem_cons.2 ⟨rfl, (List.forall_mem_cons.2 ⟨(hq1.1.sv.one), (List.forall_mem_cons.2 ⟨(hq1.2.1.sv.one), (List.forall_mem_cons.2 ⟨(hq1.2.2.sv.one), (List.forall_mem_cons.2 ⟨rfl, (List.forall_mem_cons.2 ⟨rfl, (List.forall_mem_cons.2 ⟨rfl, (fun _ h => by cases h)⟩)⟩)⟩)⟩)⟩)⟩)⟩)⟩)⟩)⟩) rfl hB1 rfl ?_)
             intro w29 hu29 hb29
             have hz29 := hu29.size
             replace hB2 := hB2.upd hu29 fun h => by have h : b2 = b1 := h; omega
             replace hz0 := hz0.upd hu29 fun i h1 h2 h => by have h : i = b1 := h; omega
             replace hz1 := hz1.upd hu29 fun i h1 h2 h => by have h : i = b1 := h; omega
             replace hU := hU.trans (hu29.mono fun i _ h => by have h : i = b1 := h; show n0 ≤ i; omega)
             replace hq0 := hq0.upd hu29 fun i h1 h2 h => by have h : i = b1 := h; omega
             replace hq1 := hq1.upd hu29 fun i h1 h2 h => by have h : i = b1 := h; omega
             replace hB27 := hB27.upd hu29 fun h => by have h : b27 = b1 := h; omega
             replace hB1 : Blk w29 b1 #[pq.d0.pv, pq.d0.cv, pq.d0.bv, (.bool (pq.d0.off)), pq.d1.pv, pq.d1.cv, pq.d1.bv, (.bool (pq.d1.off)), (.int .i64 (pq.fz)), (.bool (pq.dn))] 29 := hb29
             refine L_nil ?_
             refine B_n ?_
             refine T_n ?_
             refine W_reg ?_
             refine L_op rfl (X_move (v := (.int .i64 (((i : Nat) : Int)))) rfl ?_)
             refine L_op rfl (X_arith (k := .i64) (a := ((i : Nat) : Int)) (b := 1) (r := ((i + 1 : Nat) : Int)) rfl rfl rfl (iadd64 (by omega) (by omega) (by omega)) ?_)
             refine L_op rfl (X_assign (v := (.int .i64 (((i + 1 : Nat) : Int)))) rfl ?_)
             refine L_nil ?_
             refine T_n ?_
             exact ⟨rfl, (i + 1, pq, l0q, u0q, l1q, u1q), ⟨⟨by omega, hB1, hB2, hq0, hq1, hU, by omega, by omega, by omega, by rw [hdaq]; exact hFI2⟩, (by show (f - ((i + 1 : Nat) : Int)).toNat < (f - (i : Int)).toNat; omega)⟩, (Out.mk rfl), ⟨rfl, trivial⟩⟩
            ·refine L_op rfl (X_arith (k := .i64) (a := ((i : Nat) : Int)) (b := 2) (r := 1) rfl rfl rfl (irem64 (by omega) (by omega)) ?_)
             refine L_op rfl (X_move (v := (.int .i64 (n))) rfl ?_)
             refine L_op rfl (X_loadA (p := (ptr b2 (0))) (xs := ((pg.1).map byteV)) A37 rfl hB2.atAll (by rw [List.length_map]; exact pg.2) ?_)
             obtain ⟨hput, hFI2⟩ := fuse_1 (pg := pg) hFI (by omega) (by omega) hn1 (show n < ((p.d1.ps.length : Nat) : Int) by omega)
             have hpt2 : (putD pz.da 1 n pg).2 = 0 := by rw [hput]
             obtain ⟨sq, hsq⟩ : ∃ n, n = w24.heap.size := ⟨_, rfl⟩
             have hcr_ := c_putA1 pz n pg w24 (by omega) l0z u0z l1z u1z (by omega) (by omega) hz0 hz1 ((may_sz hFI.mb).mono (by decide))
             refine L_op rfl (X_fn (vs := [(.agg ([pz.d0.pv, pz.d0.cv, pz.d0.bv, (.bool (pz.d0.off)), pz.d1.pv, pz.d1.cv, pz.d1.bv, (.bool (pz.d1.off)), (.int .i64 (pz.fz)), (.bool (pz.dn))]).toArray), (.int .i64 (1)), (.int .i64 (n)), (.agg (((pg.1).map byteV)).toArray)]) en21 rfl ?_)
             refine CT.mono hcr_ ?_
             clear hcr_
             rintro _ w30 ⟨pq, l0q, u0q, l1q, u1q, rfl, hq0, hq1, hiq0, hiq1, _, _, hdaq, hu30⟩
             have hz30 := hu30.size
             obtain ⟨eq, heq⟩ : ∃ z, z = (putD pz.da 1 n pg).2 := ⟨_, rfl⟩
             rw [← heq]
             obtain ⟨uq, huq⟩ : ∃ n, n = w30.heap.size := ⟨_, rfl⟩
             rw [← hsq, ← huq] at hiq0 hiq1
             have hubq0 : u0q ≤ uq := by omega
             have hubq1 : u1q ≤ uq := by omega
             replace hB1 := hB1.ext hu30
             replace hB2 := hB2.ext hu30
             replace hz0 := hz0.ext hu30
             replace hz1 := hz1.ext hu30
             replace hU := hU.trans (Ext.upd hu30)
             rw [hpt2] at heq; subst heq
             have hqdn : pq.dn = false := by have h_ : pq.dn = (putD pz.da 1 n pg).1.dn := congrArg PD.dn hdaq; rw [hput] at h_; exact h_.trans hzdn
             have hqfz : pq.fz = f - 1 - i := by have h_ : pq.fz = (putD pz.da 1 n pg).1.fz := congrArg PD.fz hdaq; rw [hput] at h_; have h2_ : pq.fz = pz.fz - 1 := h_; omega
             refine L_op rfl (X_move (v := (.tuple #[(.agg #[pq.d0.pv, pq.d0.cv, pq.d0.bv, (.bool (pq.d0.off)), pq.d1.pv, pq.d1.cv, pq.d1.bv, (.bool (pq.d1.off)), (.int .i64 (pq.fz)), (.bool (pq.dn))]), (.int .i64 (0))])) rfl ?_)
             refine L_op rfl (X_extract (l := [(.agg #[pq.d0.pv, pq.d0.cv, pq.d0.bv, (.bool (pq.d0.off)), pq.d1.pv, pq.d1.cv, pq.d1.bv, (.bool (pq.d1.off)), (.int .i64 (pq.fz)), (.bool (pq.dn))]), (.int .i64 (0))]) (v := (.agg #[pq.d0.pv, pq.d0.cv, pq.d0.bv, (.bool (pq.d0.off)), pq.d1.pv, pq.d1.cv, pq.d1.bv, (.bool (pq.d1.off)), (.int .i64 (pq.fz)), (.bool (pq.dn))])) rfl rfl ?_)
             refine L_op rfl (X_extract (l := [(.agg #[pq.d0.pv, pq.d0.cv, pq.d0.bv, (.bool (pq.d0.off)), pq.d1.pv, pq.d1.cv, pq.d1.bv, (.bool (pq.d1.off)), (.int .i64 (pq.fz)), (.bool (pq.dn))]), (.int .i64 (0))]) (v := (.int .i64 (0))) rfl rfl ?_)
             refine L_op rfl (X_alloc (z := (.agg #[(.slice none 0 0), (.slice none 0 0), (.slice none 0 0), (.bool (false)), (.slice none 0 0), (.slice none 0 0), (.slice none 0 0), (.bool (false)), (.int .i64 (0)), (.bool (false))])) (c := #[(.slice none 0 0), (.slice none 0 0), (.slice none 0 0), (.bool (false)), (.slice none 0 0), (.slice none 0 0), (.slice none 0 0), (.bool (false)), (.int .i64 (0)), (.bool (false))]) Zv29 rfl ?_)
             intro b31 w31 hn31
             have hbn31 := hn31.num; have hbs31 := hn31.size
             replace hB1 := hB1.ext hn31.ext
             replace hB2 := hB2.ext hn31.ext
             replace hz0 := hz0.ext hn31.ext
             replace hz1 := hz1.ext hn31.ext
             replace hU := hU.trans (Ext.upd hn31.ext)
             replace hq0 := hq0.ext hn31.ext
             replace hq1 := hq1.ext hn31.ext
             have hB31 := hn31.blk
             refine L_op0 (X_storeW (b := b31) (ys := [pq.d0.pv, pq.d0.cv, pq.d0.bv, (.bool (pq.d0.off)), pq.d1.pv, pq.d1.cv, pq.d1.bv, (.bool (pq.d1.off)), (.int .i64 (pq.fz)), (.bool (pq.dn))]) A29 rfl rfl (List.forall_mem_cons.2 ⟨(hq0.1.sv.one), (List.forall_mem_cons.2 ⟨(hq0.2.1.sv.one), (List.forall_mem_cons.2 ⟨(hq0.2.2.sv.one), (List.forall_mem_cons.2 ⟨rfl, (List.forall_mem_cons.2 ⟨(hq1.1.sv.one), (List.forall_mem_cons.2 ⟨(hq1.2.1.sv.one), (List.forall_mem_cons.2 ⟨(hq1.2.2.sv.one), (List.forall_mem_cons.2 ⟨rfl, (List.forall_mem_cons.2 ⟨rfl, (List.forall_mem_cons.2 ⟨rfl, (fun _ h => by cases h)⟩)⟩)⟩)⟩)⟩)⟩)⟩)⟩)⟩)⟩) rfl hB31 rfl ?_)
             intro w32 hu32 hb32
             have hz32 := hu32.size
             replace hB1 := hB1.upd hu32 fun h => by have h : b1 = b31 := h; omega
             replace hB2 := hB2.upd hu32 fun h => by have h : b2 = b31 := h; omega
             replace hz0 := hz0.upd hu32 fun i h1 h2 h => by have h : i = b31 := h; omega
             replace hz1 := hz1.upd hu32 fun i h1 h2 h => by have h : i = b31 := h; omega
             replace hU := hU.trans (hu32.mono fun i _ h => by have h : i = b31 := h; show n0 ≤ i; omega)
             replace hq0 := hq0.upd hu32 fun i h1 h2 h => by have h : i = b31 := h; omega
             replace hq1 := hq1.upd hu32 fun i h1 h2 h => by have h : i = b31 := h; omega
             replace hB31 : Blk w32 b31 #[pq.d0.pv, pq.d0.cv, pq.d0.bv, (.bool (pq.d0.off)), pq.d1.pv, pq.d1.cv, pq.d1.bv, (.bool (pq.d1.off)), (.int .i64 (pq.fz)), (.bool (pq.dn))] 29 := hb32
             refine L_op rfl (X_assign (v := (.int .i64 (0))) rfl ?_)
             refine L_nil ?_
             refine T_n ?_
             refine W_seq ?_
             refine W_seq ?_
             refine W_reg ?_
             refine L_op rfl (X_move (v := (.int .i64 (0))) rfl ?_)
             refine L_op rfl (X_cmp (k := .i64) (a := 0) (b := 0) (r := false) rfl rfl rfl rfl ?_)
             refine L_op rfl (X_move (v := (.bool (false))) rfl ?_)
             refine L_gy (dj := 107) rfl rfl rfl (X_fldP (b := b31) (o := 0) (r := 9) Fd29_2 rfl rfl ?_)
             refine L_gy (dj := 107) rfl rfl rfl (X_load (p := (ptr b31 (9))) (v := .bool false) T4 rfl (hB31.at1 (by rw [hqdn]; rfl)) ?_)
             refine L_op rfl (X_pick (t := false) (v := (.bool (false))) rfl rfl ?_)
             refine L_op rfl (X_move (v := (.bool (false))) rfl ?_)
             refine L_gy (dj := 111) rfl rfl rfl (X_fldP (b := b31) (o := 0) (r := 8) Fd29_1 rfl rfl ?_)
             refine L_gy (dj := 111) rfl rfl rfl (X_load (p := (ptr b31 (8))) (v := (.int .i64 (pq.fz))) T3 rfl (hB31.at1 rfl) ?_)
             refine L_gy (dj := 111) rfl rfl rfl (X_move (v := (.int .i64 (f))) rfl ?_)
             refine L_gy (dj := 111) rfl rfl rfl (X_arith (k := .i64) (a := f) (b := 1) (r := (f - 1 : Int)) rfl rfl rfl (isub64 rfl (by omega) (by omega)) ?_)
             refine L_gy (dj := 111) rfl rfl rfl (X_move (v := (.int .i64 (((i : Nat) : Int)))) rfl ?_)
             refine L_gy (dj := 111) rfl rfl rfl (X_arith (k := .i64) (a := (f - 1 : Int)) (b := ((i : Nat) : Int)) (r := ((f - 1 : Int) - ((i : Nat) : Int) : Int)) rfl rfl rfl (isub64 rfl (by omega) (by omega)) ?_)
             refine L_gy (dj := 111) rfl rfl rfl (X_cmp (k := .i64) (a := pq.fz) (b := ((f - 1 : Int) - ((i : Nat) : Int) : Int)) (r := false) rfl rfl rfl (decide_eq_false (p := ((pq.fz) : Int) ≠ ((((f - 1 : Int) - ((i : Nat) : Int) : Int)) : Int)) (by omega)) ?_)
             refine L_op rfl (X_pick (t := false) (v := (.bool (false))) rfl rfl ?_)
             refine L_nil ?_
             refine T_n ?_
             refine W_cf rfl ?_
             refine W_skip ?_
             refine T_n ?_
             refine W_reg ?_
             refine L_op rfl (X_loadA (p := (ptr b31 (0))) (xs := [pq.d0.pv, pq.d0.cv, pq.d0.bv, (.bool (pq.d0.off)), pq.d1.pv, pq.d1.cv, pq.d1.bv, (.bool (pq.d1.off)), (.int .i64 (pq.fz)), (.bool (pq.dn))]) A29 rfl hB31.atAll rfl ?_)
             refine L_op0 (X_storeW (b := b1) (ys := [pq.d0.pv, pq.d0.cv, pq.d0.bv, (.bool (pq.d0.off)), pq.d1.pv, pq.d1.cv, pq.d1.bv, (.bool (pq.d1.off)), (.int .i64 (pq.fz)), (.bool (pq.dn))]) A29 rfl rfl (List.forall_mem_cons.2 ⟨(hq0.1.sv.one), (List.forall_mem_cons.2 ⟨(hq0.2.1.sv.one), (List.forall_mem_cons.2 ⟨(hq0.2.2.sv.one), (List.forall_mem_cons.2 ⟨rfl, (List.forall_mem_cons.2 ⟨(hq1.1.sv.one), (List.forall_mem_cons.2 ⟨(hq1.2.1.sv.one), (List.forall_mem_cons.2 ⟨(hq1.2.2.sv.one), (List.forall_mem_cons.2 ⟨rfl, (List.forall_mem_cons.2 ⟨rfl, (List.forall_mem_cons.2 ⟨rfl, (fun _ h => by cases h)⟩)⟩)⟩)⟩)⟩)⟩)⟩)⟩)⟩)⟩) rfl hB1 rfl ?_)
             intro w33 hu33 hb33
             have hz33 := hu33.size
             replace hB2 := hB2.upd hu33 fun h => by have h : b2 = b1 := h; omega
             replace hz0 := hz0.upd hu33 fun i h1 h2 h => by have h : i = b1 := h; omega
             replace hz1 := hz1.upd hu33 fun i h1 h2 h => by have h : i = b1 := h; omega
             replace hU := hU.trans (hu33.mono fun i _ h => by have h : i = b1 := h; show n0 ≤ i; omega)
             replace hq0 := hq0.upd hu33 fun i h1 h2 h => by have h : i = b1 := h; omega
             replace hq1 := hq1.upd hu33 fun i h1 h2 h => by have h : i = b1 := h; omega
             replace hB31 := hB31.upd hu33 fun h => by have h : b31 = b1 := h; omega
             replace hB1 : Blk w33 b1 #[pq.d0.pv, pq.d0.cv, pq.d0.bv, (.bool (pq.d0.off)), pq.d1.pv, pq.d1.cv, pq.d1.bv, (.bool (pq.d1.off)), (.int .i64 (pq.fz)), (.bool (pq.dn))] 29 := hb33
             refine L_nil ?_
             refine B_n ?_
             refine T_n ?_
             refine W_reg ?_
             refine L_op rfl (X_move (v := (.int .i64 (((i : Nat) : Int)))) rfl ?_)
             refine L_op rfl (X_arith (k := .i64) (a := ((i : Nat) : Int)) (b := 1) (r := ((i + 1 : Nat) : Int)) rfl rfl rfl (iadd64 (by omega) (by omega) (by omega)) ?_)
             refine L_op rfl (X_assign (v := (.int .i64 (((i + 1 : Nat) : Int)))) rfl ?_)
             refine L_nil ?_
             refine T_n ?_
             exact ⟨rfl, (i + 1, pq, l0q, u0q, l1q, u1q), ⟨⟨by omega, hB1, hB2, hq0, hq1, hU, by omega, by omega, by omega, by rw [hdaq]; exact hFI2⟩, (by show (f - ((i + 1 : Nat) : Int)).toNat < (f - (i : Int)).toNat; omega)⟩, (Out.mk rfl), ⟨rfl, trivial⟩⟩
           ·refine L_op rfl (X_cmp (k := .i64) (a := ((i : Nat) : Int)) (b := f) (r := false) rfl rfl rfl (decide_eq_false (p := ((((i : Nat) : Int)) : Int) < ((f) : Int)) (by omega)) ?_)
            have hif : (i : Int) = f := by omega
            have hz0f : pz.fz = 0 := by omega
            refine L_nil ?_
            refine T_n ?_
            refine W_cf rfl ?_
            refine W_exit ?_
            refine T_e ?_
            refine T_e ?_
            refine B_x ?_
            refine T_n ?_
            refine W_seq ?_
            refine W_reg ?_
            refine L_op rfl (X_loadA (p := (ptr b1 (0))) (xs := [pz.d0.pv, pz.d0.cv, pz.d0.bv, (.bool (pz.d0.off)), pz.d1.pv, pz.d1.cv, pz.d1.bv, (.bool (pz.d1.off)), (.int .i64 (pz.fz)), (.bool (pz.dn))]) A29 rfl hB1.atAll rfl ?_)
            refine L_op rfl (X_move (v := (.int .i64 (n))) rfl ?_)
            refine L_op rfl (X_loadA (p := (ptr b2 (0))) (xs := ((pg.1).map byteV)) A37 rfl hB2.atAll (by rw [List.length_map]; exact pg.2) ?_)
            have hpo := put_out (z := pz.da) (pg := pg) (a := n) hzdn hz0f
            obtain ⟨sa, hsa⟩ : ∃ n, n = w24.heap.size := ⟨_, rfl⟩
            have hcr_ := c_putA0 pz n pg w24 (by omega) l0z u0z l1z u1z (by omega) (by omega) hz0 hz1 ((may_sz hFI.ma).mono (by decide))
            refine L_op rfl (X_fn (vs := [(.agg ([pz.d0.pv, pz.d0.cv, pz.d0.bv, (.bool (pz.d0.off)), pz.d1.pv, pz.d1.cv, pz.d1.bv, (.bool (pz.d1.off)), (.int .i64 (pz.fz)), (.bool (pz.dn))]).toArray), (.int .i64 (0)), (.int .i64 (n)), (.agg (((pg.1).map byteV)).toArray)]) en21 rfl ?_)
            refine CT.mono hcr_ ?_
            clear hcr_
            rintro _ w34 ⟨pa, l0a, u0a, l1a, u1a, rfl, ha0, ha1, hia0, hia1, _, _, hdaa, hu34⟩
            have hz34 := hu34.size
            obtain ⟨ea, hea⟩ : ∃ z, z = (putD pz.da 0 n pg).2 := ⟨_, rfl⟩
            rw [← hea]
            obtain ⟨ua, hua⟩ : ∃ n, n = w34.heap.size := ⟨_, rfl⟩
            rw [← hsa, ← hua] at hia0 hia1
            have huba0 : u0a ≤ ua := by omega
            have huba1 : u1a ≤ ua := by omega
            replace hB1 := hB1.ext hu34
            replace hB2 := hB2.ext hu34
            replace hz0 := hz0.ext hu34
            replace hz1 := hz1.ext hu34
            replace hU := hU.trans (Ext.upd hu34)
            rw [hpo] at hea hdaa
            replace hea : ea = 100 := hea
            subst hea
            have hadn : pa.dn = true := congrArg PD.dn hdaa
            have hafz : pa.fz = 0 := (congrArg PD.fz hdaa).trans hz0f
            have haa : pa.d0.da = pz.d0.da := congrArg PD.a hdaa
            have hab : pa.d1.da = pz.d1.da := congrArg PD.b hdaa
            have hMa : pa.da.a.May := by rw [hdaa]; exact hFI.ma
            have hMb : pa.da.b.May := by rw [hdaa]; exact hFI.mb
            have hr100 : readyD pa.da = 100 := ready_dn hadn
            refine L_op rfl (X_move (v := (.tuple #[(.agg #[pa.d0.pv, pa.d0.cv, pa.d0.bv, (.bool (pa.d0.off)), pa.d1.pv, pa.d1.cv, pa.d1.bv, (.bool (pa.d1.off)), (.int .i64 (pa.fz)), (.bool (pa.dn))]), (.int .i64 (100))])) rfl ?_)
            refine L_op rfl (X_extract (l := [(.agg #[pa.d0.pv, pa.d0.cv, pa.d0.bv, (.bool (pa.d0.off)), pa.d1.pv, pa.d1.cv, pa.d1.bv, (.bool (pa.d1.off)), (.int .i64 (pa.fz)), (.bool (pa.dn))]), (.int .i64 (100))]) (v := (.agg #[pa.d0.pv, pa.d0.cv, pa.d0.bv, (.bool (pa.d0.off)), pa.d1.pv, pa.d1.cv, pa.d1.bv, (.bool (pa.d1.off)), (.int .i64 (pa.fz)), (.bool (pa.dn))])) rfl rfl ?_)
            refine L_op rfl (X_extract (l := [(.agg #[pa.d0.pv, pa.d0.cv, pa.d0.bv, (.bool (pa.d0.off)), pa.d1.pv, pa.d1.cv, pa.d1.bv, (.bool (pa.d1.off)), (.int .i64 (pa.fz)), (.bool (pa.dn))]), (.int .i64 (100))]) (v := (.int .i64 (100))) rfl rfl ?_)
            refine L_op rfl (X_alloc (z := (.agg #[(.slice none 0 0), (.slice none 0 0), (.slice none 0 0), (.bool (false)), (.slice none 0 0), (.slice none 0 0), (.slice none 0 0), (.bool (false)), (.int .i64 (0)), (.bool (false))])) (c := #[(.slice none 0 0), (.slice none 0 0), (.slice none 0 0), (.bool (false)), (.slice none 0 0), (.slice none 0 0), (.slice none 0 0), (.bool (false)), (.int .i64 (0)), (.bool (false))]) Zv29 rfl ?_)
            intro b35 w35 hn35
            have hbn35 := hn35.num; have hbs35 := hn35.size
            replace hB1 := hB1.ext hn35.ext
            replace hB2 := hB2.ext hn35.ext
            replace hz0 := hz0.ext hn35.ext
            replace hz1 := hz1.ext hn35.ext
            replace hU := hU.trans (Ext.upd hn35.ext)
            replace ha0 := ha0.ext hn35.ext
            replace ha1 := ha1.ext hn35.ext
            have hB35 := hn35.blk
            refine L_op0 (X_storeW (b := b35) (ys := [pa.d0.pv, pa.d0.cv, pa.d0.bv, (.bool (pa.d0.off)), pa.d1.pv, pa.d1.cv, pa.d1.bv, (.bool (pa.d1.off)), (.int .i64 (pa.fz)), (.bool (pa.dn))]) A29 rfl rfl (List.forall_mem_cons.2 ⟨(ha0.1.sv.one), (List.forall_mem_cons.2 ⟨(ha0.2.1.sv.one), (List.forall_mem_cons.2 ⟨(ha0.2.2.sv.one), (List.forall_mem_cons.2 ⟨rfl, (List.forall_mem_cons.2 ⟨(ha1.1.sv.one), (List.forall_mem_cons.2 ⟨(ha1.2.1.sv.one), (List.forall_mem_cons.2 ⟨(ha1.2.2.sv.one), (List.forall_mem_cons.2 ⟨rfl, (List.forall_mem_cons.2 ⟨rfl, (List.forall_mem_cons.2 ⟨rfl, (fun _ h => by cases h)⟩)⟩)⟩)⟩)⟩)⟩)⟩)⟩)⟩)⟩) rfl hB35 rfl ?_)
            intro w36 hu36 hb36
            have hz36 := hu36.size
            replace hB1 := hB1.upd hu36 fun h => by have h : b1 = b35 := h; omega
            replace hB2 := hB2.upd hu36 fun h => by have h : b2 = b35 := h; omega
            replace hz0 := hz0.upd hu36 fun i h1 h2 h => by have h : i = b35 := h; omega
            replace hz1 := hz1.upd hu36 fun i h1 h2 h => by have h : i = b35 := h; omega
            replace hU := hU.trans (hu36.mono fun i _ h => by have h : i = b35 := h; show n0 ≤ i; omega)
            replace ha0 := ha0.upd hu36 fun i h1 h2 h => by have h : i = b35 := h; omega
            replace ha1 := ha1.upd hu36 fun i h1 h2 h => by have h : i = b35 := h; omega
            replace hB35 : Blk w36 b35 #[pa.d0.pv, pa.d0.cv, pa.d0.bv, (.bool (pa.d0.off)), pa.d1.pv, pa.d1.cv, pa.d1.bv, (.bool (pa.d1.off)), (.int .i64 (pa.fz)), (.bool (pa.dn))] 29 := hb36
            refine L_op rfl (X_assign (v := (.int .i64 (100))) rfl ?_)
            refine L_nil ?_
            refine T_n ?_
            refine W_seq ?_
            refine W_reg ?_
            refine L_op rfl (X_loadA (p := (ptr b35 (0))) (xs := [pa.d0.pv, pa.d0.cv, pa.d0.bv, (.bool (pa.d0.off)), pa.d1.pv, pa.d1.cv, pa.d1.bv, (.bool (pa.d1.off)), (.int .i64 (pa.fz)), (.bool (pa.dn))]) A29 rfl hB35.atAll rfl ?_)
            have hfl2 := flush_none (p := pa.da) (by rw [hr100]; decide)
            rw [hr100] at hfl2
            obtain ⟨sb, hsb⟩ : ∃ n, n = w36.heap.size := ⟨_, rfl⟩
            have hcr_ := c_flushM pa w36 (by omega) l0a u0a l1a u1a (by omega) (by omega) ha0 ha1 ((may_sz hMa).mono (by decide)) ((may_sz hMb).mono (by decide))
            refine L_op rfl (X_fn (vs := [(.agg ([pa.d0.pv, pa.d0.cv, pa.d0.bv, (.bool (pa.d0.off)), pa.d1.pv, pa.d1.cv, pa.d1.bv, (.bool (pa.d1.off)), (.int .i64 (pa.fz)), (.bool (pa.dn))]).toArray)]) en11 rfl ?_)
            refine CT.mono hcr_ ?_
            clear hcr_
            rintro _ w37 ⟨pb, l0b, u0b, l1b, u1b, rfl, hb0, hb1, hib0, hib1, hdab, hu37⟩
            have hz37 := hu37.size
            obtain ⟨eb, heb⟩ : ∃ z, z = (flushD pa.da).2 := ⟨_, rfl⟩
            rw [← heb]
            obtain ⟨ub, hub⟩ : ∃ n, n = w37.heap.size := ⟨_, rfl⟩
            rw [← hsb, ← hub] at hib0 hib1
            have hubb0 : u0b ≤ ub := by omega
            have hubb1 : u1b ≤ ub := by omega
            replace hB1 := hB1.ext hu37
            replace hB2 := hB2.ext hu37
            replace hz0 := hz0.ext hu37
            replace hz1 := hz1.ext hu37
            replace hU := hU.trans (Ext.upd hu37)
            replace ha0 := ha0.ext hu37
            replace ha1 := ha1.ext hu37
            replace hB35 := hB35.ext hu37
            rw [hfl2] at heb hdab
            replace heb : eb = 100 := heb
            subst heb
            replace hdab : pb.da = pa.da := hdab
            have hbfz : pb.fz = 0 := (congrArg PD.fz hdab).trans hafz
            refine L_op rfl (X_move (v := (.tuple #[(.agg #[pb.d0.pv, pb.d0.cv, pb.d0.bv, (.bool (pb.d0.off)), pb.d1.pv, pb.d1.cv, pb.d1.bv, (.bool (pb.d1.off)), (.int .i64 (pb.fz)), (.bool (pb.dn))]), (.int .i64 (100))])) rfl ?_)
            refine L_op rfl (X_extract (l := [(.agg #[pb.d0.pv, pb.d0.cv, pb.d0.bv, (.bool (pb.d0.off)), pb.d1.pv, pb.d1.cv, pb.d1.bv, (.bool (pb.d1.off)), (.int .i64 (pb.fz)), (.bool (pb.dn))]), (.int .i64 (100))]) (v := (.agg #[pb.d0.pv, pb.d0.cv, pb.d0.bv, (.bool (pb.d0.off)), pb.d1.pv, pb.d1.cv, pb.d1.bv, (.bool (pb.d1.off)), (.int .i64 (pb.fz)), (.bool (pb.dn))])) rfl rfl ?_)
            refine L_op rfl (X_extract (l := [(.agg #[pb.d0.pv, pb.d0.cv, pb.d0.bv, (.bool (pb.d0.off)), pb.d1.pv, pb.d1.cv, pb.d1.bv, (.bool (pb.d1.off)), (.int .i64 (pb.fz)), (.bool (pb.dn))]), (.int .i64 (100))]) (v := (.int .i64 (100))) rfl rfl ?_)
            refine L_op rfl (X_alloc (z := (.agg #[(.slice none 0 0), (.slice none 0 0), (.slice none 0 0), (.bool (false)), (.slice none 0 0), (.slice none 0 0), (.slice none 0 0), (.bool (false)), (.int .i64 (0)), (.bool (false))])) (c := #[(.slice none 0 0), (.slice none 0 0), (.slice none 0 0), (.bool (false)), (.slice none 0 0), (.slice none 0 0), (.slice none 0 0), (.bool (false)), (.int .i64 (0)), (.bool (false))]) Zv29 rfl ?_)
            intro b38 w38 hn38
            have hbn38 := hn38.num; have hbs38 := hn38.size
            replace hB1 := hB1.ext hn38.ext
            replace hB2 := hB2.ext hn38.ext
            replace hz0 := hz0.ext hn38.ext
            replace hz1 := hz1.ext hn38.ext
            replace hU := hU.trans (Ext.upd hn38.ext)
            replace ha0 := ha0.ext hn38.ext
            replace ha1 := ha1.ext hn38.ext
            replace hB35 := hB35.ext hn38.ext
            replace hb0 := hb0.ext hn38.ext
            replace hb1 := hb1.ext hn38.ext
            have hB38 := hn38.blk
            refine L_op0 (X_storeW (b := b38) (ys := [pb.d0.pv, pb.d0.cv, pb.d0.bv, (.bool (pb.d0.off)), pb.d1.pv, pb.d1.cv, pb.d1.bv, (.bool (pb.d1.off)), (.int .i64 (pb.fz)), (.bool (pb.dn))]) A29 rfl rfl (List.forall_mem_cons.2 ⟨(hb0.1.sv.one), (List.forall_mem_cons.2 ⟨(hb0.2.1.sv.one), (List.forall_mem_cons.2 ⟨(hb0.2.2.sv.one), (List.forall_mem_cons.2 ⟨rfl, (List.forall_mem_cons.2 ⟨(hb1.1.sv.one), (List.forall_mem_cons.2 ⟨(hb1.2.1.sv.one), (List.forall_mem_cons.2 ⟨(hb1.2.2.sv.one), (List.forall_mem_cons.2 ⟨rfl, (List.forall_mem_cons.2 ⟨rfl, (List.forall_mem_cons.2 ⟨rfl, (fun _ h => by cases h)⟩)⟩)⟩)⟩)⟩)⟩)⟩)⟩)⟩)⟩) rfl hB38 rfl ?_)
            intro w39 hu39 hb39
            have hz39 := hu39.size
            replace hB1 := hB1.upd hu39 fun h => by have h : b1 = b38 := h; omega
            replace hB2 := hB2.upd hu39 fun h => by have h : b2 = b38 := h; omega
            replace hz0 := hz0.upd hu39 fun i h1 h2 h => by have h : i = b38 := h; omega
            replace hz1 := hz1.upd hu39 fun i h1 h2 h => by have h : i = b38 := h; omega
            replace hU := hU.trans (hu39.mono fun i _ h => by have h : i = b38 := h; show n0 ≤ i; omega)
            replace ha0 := ha0.upd hu39 fun i h1 h2 h => by have h : i = b38 := h; omega
            replace ha1 := ha1.upd hu39 fun i h1 h2 h => by have h : i = b38 := h; omega
            replace hB35 := hB35.upd hu39 fun h => by have h : b35 = b38 := h; omega
            replace hb0 := hb0.upd hu39 fun i h1 h2 h => by have h : i = b38 := h; omega
            replace hb1 := hb1.upd hu39 fun i h1 h2 h => by have h : i = b38 := h; omega
            replace hB38 : Blk w39 b38 #[pb.d0.pv, pb.d0.cv, pb.d0.bv, (.bool (pb.d0.off)), pb.d1.pv, pb.d1.cv, pb.d1.bv, (.bool (pb.d1.off)), (.int .i64 (pb.fz)), (.bool (pb.dn))] 29 := hb39
            refine L_op rfl (X_assign (v := (.int .i64 (100))) rfl ?_)
            refine L_nil ?_
            refine T_n ?_
            refine W_seq ?_
            refine W_reg ?_
            refine L_op rfl (X_loadA (p := (ptr b38 (0))) (xs := [pb.d0.pv, pb.d0.cv, pb.d0.bv, (.bool (pb.d0.off)), pb.d1.pv, pb.d1.cv, pb.d1.bv, (.bool (pb.d1.off)), (.int .i64 (pb.fz)), (.bool (pb.dn))]) A29 rfl hB38.atAll rfl ?_)
            refine L_op rfl (X_move (v := (.int .i64 (n))) rfl ?_)
            refine L_op rfl (X_convInt (k := .i64) (a := n) (r := n) (by rw [Try.underlying3]; rfl) Try.underlying30 rfl (wrap_u16 (by omega) (by omega)) ?_)
            refine L_op rfl (X_build (built31 n) ?_)
            refine L_op rfl (X_build (c := ([(.int .u8 (3)), (.int .u16 (n)), (.int .u16 (0)), (.int .u32 (0)), (.int .u64 (0))]).toArray) rfl ?_)
            refine L_op rfl (X_loadA (p := (ptr b2 (0))) (xs := ((pg.1).map byteV)) A37 rfl hB2.atAll (by rw [List.length_map]; exact pg.2) ?_)
            have hwl2 := write_none (p := pb.da) (q := (3, n, 0, 0, 0)) (pg := pg) (by rw [hdab, hr100]; decide)
            rw [show readyD pb.da = 100 by rw [hdab]; exact hr100] at hwl2
            obtain ⟨sc, hsc⟩ : ∃ n, n = w39.heap.size := ⟨_, rfl⟩
            have hcr_ := c_writeM (3, n, 0, 0, 0) pg pb w39 (by omega) l0b u0b l1b u1b (by omega) (by omega) hb0 hb1 (ptok3 hn1 (by omega)) (by rw [hdab]; exact (may_sz hMa).mono (by decide)) (by rw [hdab]; exact (may_sz hMb).mono (by decide))
            refine L_op rfl (X_fn (vs := [(.agg ([pb.d0.pv, pb.d0.cv, pb.d0.bv, (.bool (pb.d0.off)), pb.d1.pv, pb.d1.cv, pb.d1.bv, (.bool (pb.d1.off)), (.int .i64 (pb.fz)), (.bool (pb.dn))]).toArray), (.agg ([(.int .u8 (3)), (.int .u16 (n)), (.int .u16 (0)), (.int .u32 (0)), (.int .u64 (0))]).toArray), (.agg (((pg.1).map byteV)).toArray)]) en10 rfl ?_)
            refine CT.mono hcr_ ?_
            clear hcr_
            rintro _ w40 ⟨pc, l0c, u0c, l1c, u1c, rfl, hc0, hc1, hic0, hic1, hdac, hu40⟩
            have hz40 := hu40.size
            obtain ⟨ec, hec⟩ : ∃ z, z = (writeD pb.da (3, n, 0, 0, 0) pg).2 := ⟨_, rfl⟩
            rw [← hec]
            obtain ⟨uc, huc⟩ : ∃ n, n = w40.heap.size := ⟨_, rfl⟩
            rw [← hsc, ← huc] at hic0 hic1
            have hubc0 : u0c ≤ uc := by omega
            have hubc1 : u1c ≤ uc := by omega
            replace hB1 := hB1.ext hu40
            replace hB2 := hB2.ext hu40
            replace hz0 := hz0.ext hu40
            replace hz1 := hz1.ext hu40
            replace hU := hU.trans (Ext.upd hu40)
            replace ha0 := ha0.ext hu40
            replace ha1 := ha1.ext hu40
            replace hB35 := hB35.ext hu40
            replace hb0 := hb0.ext hu40
            replace hb1 := hb1.ext hu40
            replace hB38 := hB38.ext hu40
            rw [hwl2] at hec hdac
            replace hec : ec = 100 := hec
            subst hec
            replace hdac : pc.da = pb.da := hdac
            refine L_op rfl (X_move (v := (.tuple #[(.agg #[pc.d0.pv, pc.d0.cv, pc.d0.bv, (.bool (pc.d0.off)), pc.d1.pv, pc.d1.cv, pc.d1.bv, (.bool (pc.d1.off)), (.int .i64 (pc.fz)), (.bool (pc.dn))]), (.int .i64 (100))])) rfl ?_)
            refine L_op rfl (X_extract (l := [(.agg #[pc.d0.pv, pc.d0.cv, pc.d0.bv, (.bool (pc.d0.off)), pc.d1.pv, pc.d1.cv, pc.d1.bv, (.bool (pc.d1.off)), (.int .i64 (pc.fz)), (.bool (pc.dn))]), (.int .i64 (100))]) (v := (.agg #[pc.d0.pv, pc.d0.cv, pc.d0.bv, (.bool (pc.d0.off)), pc.d1.pv, pc.d1.cv, pc.d1.bv, (.bool (pc.d1.off)), (.int .i64 (pc.fz)), (.bool (pc.dn))])) rfl rfl ?_)
            refine L_op rfl (X_extract (l := [(.agg #[pc.d0.pv, pc.d0.cv, pc.d0.bv, (.bool (pc.d0.off)), pc.d1.pv, pc.d1.cv, pc.d1.bv, (.bool (pc.d1.off)), (.int .i64 (pc.fz)), (.bool (pc.dn))]), (.int .i64 (100))]) (v := (.int .i64 (100))) rfl rfl ?_)
            refine L_op rfl (X_alloc (z := (.agg #[(.slice none 0 0), (.slice none 0 0), (.slice none 0 0), (.bool (false)), (.slice none 0 0), (.slice none 0 0), (.slice none 0 0), (.bool (false)), (.int .i64 (0)), (.bool (false))])) (c := #[(.slice none 0 0), (.slice none 0 0), (.slice none 0 0), (.bool (false)), (.slice none 0 0), (.slice none 0 0), (.slice none 0 0), (.bool (false)), (.int .i64 (0)), (.bool (false))]) Zv29 rfl ?_)
            intro b41 w41 hn41
            have hbn41 := hn41.num; have hbs41 := hn41.size
            replace hB1 := hB1.ext hn41.ext
            replace hB2 := hB2.ext hn41.ext
            replace hz0 := hz0.ext hn41.ext
            replace hz1 := hz1.ext hn41.ext
            replace hU := hU.trans (Ext.upd hn41.ext)
            replace ha0 := ha0.ext hn41.ext
            replace ha1 := ha1.ext hn41.ext
            replace hB35 := hB35.ext hn41.ext
            replace hb0 := hb0.ext hn41.ext
            replace hb1 := hb1.ext hn41.ext
            replace hB38 := hB38.ext hn41.ext
            replace hc0 := hc0.ext hn41.ext
            replace hc1 := hc1.ext hn41.ext
            have hB41 := hn41.blk
            refine L_op0 (X_storeW (b := b41) (ys := [pc.d0.pv, pc.d0.cv, pc.d0.bv, (.bool (pc.d0.off)), pc.d1.pv, pc.d1.cv, pc.d1.bv, (.bool (pc.d1.off)), (.int .i64 (pc.fz)), (.bool (pc.dn))]) A29 rfl rfl (List.forall_mem_cons.2 ⟨(hc0.1.sv.one), (List.forall_mem_cons.2 ⟨(hc0.2.1.sv.one), (List.forall_mem_cons.2 ⟨(hc0.2.2.sv.one), (List.forall_mem_cons.2 ⟨rfl, (List.forall_mem_cons.2 ⟨(hc1.1.sv.one), (List.forall_mem_cons.2 ⟨(hc1.2.1.sv.one), (List.forall_mem_cons.2 ⟨(hc1.2.2.sv.one), (List.forall_mem_cons.2 ⟨rfl, (List.forall_mem_cons.2 ⟨rfl, (List.forall_mem_cons.2 ⟨rfl, (fun _ h => by cases h)⟩)⟩)⟩)⟩)⟩)⟩)⟩)⟩)⟩)⟩) rfl hB41 rfl ?_)
            intro w42 hu42 hb42
            have hz42 := hu42.size
            replace hB1 := hB1.upd hu42 fun h => by have h : b1 = b41 := h; omega
            replace hB2 := hB2.upd hu42 fun h => by have h : b2 = b41 := h; omega
            replace hz0 := hz0.upd hu42 fun i h1 h2 h => by have h : i = b41 := h; omega
            replace hz1 := hz1.upd hu42 fun i h1 h2 h => by have h : i = b41 := h; omega
            replace hU := hU.trans (hu42.mono fun i _ h => by have h : i = b41 := h; show n0 ≤ i; omega)
            replace ha0 := ha0.upd hu42 fun i h1 h2 h => by have h : i = b41 := h; omega
            replace ha1 := ha1.upd hu42 fun i h1 h2 h => by have h : i = b41 := h; omega
            replace hB35 := hB35.upd hu42 fun h => by have h : b35 = b41 := h; omega
            replace hb0 := hb0.upd hu42 fun i h1 h2 h => by have h : i = b41 := h; omega
            replace hb1 := hb1.upd hu42 fun i h1 h2 h => by have h : i = b41 := h; omega
            replace hB38 := hB38.upd hu42 fun h => by have h : b38 = b41 := h; omega
            replace hc0 := hc0.upd hu42 fun i h1 h2 h => by have h : i = b41 := h; omega
            replace hc1 := hc1.upd hu42 fun i h1 h2 h => by have h : i = b41 := h; omega
            replace hB41 : Blk w42 b41 #[pc.d0.pv, pc.d0.cv, pc.d0.bv, (.bool (pc.d0.off)), pc.d1.pv, pc.d1.cv, pc.d1.bv, (.bool (pc.d1.off)), (.int .i64 (pc.fz)), (.bool (pc.dn))] 29 := hb42
            refine L_op rfl (X_assign (v := (.int .i64 (100))) rfl ?_)
            refine L_nil ?_
            refine T_n ?_
            refine W_seq ?_
            refine W_seq ?_
            refine W_reg ?_
            refine L_op rfl (X_move (v := (.int .i64 (100))) rfl ?_)
            refine L_op rfl (X_cmp (k := .i64) (a := 100) (b := 100) (r := false) rfl rfl rfl rfl ?_)
            refine L_op rfl (X_move (v := (.bool (false))) rfl ?_)
            refine L_gy (dj := 145) rfl rfl rfl (X_move (v := (.int .i64 (100))) rfl ?_)
            refine L_gy (dj := 145) rfl rfl rfl (X_cmp (k := .i64) (a := 100) (b := 100) (r := false) rfl rfl rfl rfl ?_)
            refine L_op rfl (X_pick (t := false) (v := (.bool (false))) rfl rfl ?_)
            refine L_op rfl (X_move (v := (.bool (false))) rfl ?_)
            refine L_gy (dj := 149) rfl rfl rfl (X_move (v := (.int .i64 (100))) rfl ?_)
            refine L_gy (dj := 149) rfl rfl rfl (X_cmp (k := .i64) (a := 100) (b := 100) (r := false) rfl rfl rfl rfl ?_)
            refine L_op rfl (X_pick (t := false) (v := (.bool (false))) rfl rfl ?_)
            refine L_op rfl (X_move (v := (.bool (false))) rfl ?_)
            refine L_gy (dj := 153) rfl rfl rfl (X_fldP (b := b35) (o := 0) (r := 9) Fd29_2 rfl rfl ?_)
            refine L_gy (dj := 153) rfl rfl rfl (X_load (p := (ptr b35 (9))) (v := .bool true) T4 rfl (hB35.at1 (by rw [hadn]; rfl)) ?_)
            refine L_gy (dj := 153) rfl rfl rfl (X_not (b := true) (r := false) rfl rfl ?_)
            refine L_op rfl (X_pick (t := false) (v := (.bool (false))) rfl rfl ?_)
            refine L_op rfl (X_move (v := (.bool (false))) rfl ?_)
            refine L_gy (dj := 158) rfl rfl rfl (X_loadA (p := (ptr b35 (0))) (xs := [pa.d0.pv, pa.d0.cv, pa.d0.bv, (.bool (pa.d0.off)), pa.d1.pv, pa.d1.cv, pa.d1.bv, (.bool (pa.d1.off)), (.int .i64 (pa.fz)), (.bool (pa.dn))]) A29 rfl hB35.atAll rfl ?_)
            refine L_gy (dj := 158) rfl rfl rfl (X_loadA (p := (ptr b38 (0))) (xs := [pb.d0.pv, pb.d0.cv, pb.d0.bv, (.bool (pb.d0.off)), pb.d1.pv, pb.d1.cv, pb.d1.bv, (.bool (pb.d1.off)), (.int .i64 (pb.fz)), (.bool (pb.dn))]) A29 rfl hB38.atAll rfl ?_)
            have hcr_ := c_sameMR pa pb w42 l0a u0a l1a u1a l0b u0b l1b u1b ha0 ha1 hb0 hb1
            refine L_gy (dj := 158) rfl rfl rfl (X_fn (vs := [(.agg ([pa.d0.pv, pa.d0.cv, pa.d0.bv, (.bool (pa.d0.off)), pa.d1.pv, pa.d1.cv, pa.d1.bv, (.bool (pa.d1.off)), (.int .i64 (pa.fz)), (.bool (pa.dn))]).toArray), (.agg ([pb.d0.pv, pb.d0.cv, pb.d0.bv, (.bool (pb.d0.off)), pb.d1.pv, pb.d1.cv, pb.d1.bv, (.bool (pb.d1.off)), (.int .i64 (pb.fz)), (.bool (pb.dn))]).toArray)]) en19 rfl ?_)
            refine CT.mono hcr_ ?_
            clear hcr_
            rintro _ w43 ⟨⟨g43, rfl, hg43⟩, hu43⟩
            have hz43 := hu43.size
            replace hB1 := hB1.ext hu43
            replace hB2 := hB2.ext hu43
            replace hz0 := hz0.ext hu43
            replace hz1 := hz1.ext hu43
            replace hU := hU.trans (Ext.upd hu43)
            replace ha0 := ha0.ext hu43
            replace ha1 := ha1.ext hu43
            replace hB35 := hB35.ext hu43
            replace hb0 := hb0.ext hu43
            replace hb1 := hb1.ext hu43
            replace hB38 := hB38.ext hu43
            replace hc0 := hc0.ext hu43
            replace hc1 := hc1.ext hu43
            replace hB41 := hB41.ext hu43
            obtain rfl : g43 = true := hg43.2 hdab.symm
            refine L_gy (dj := 158) rfl rfl rfl (X_not (b := true) (r := false) rfl rfl ?_)
            refine L_op rfl (X_pick (t := false) (v := (.bool (false))) rfl rfl ?_)
            refine L_op rfl (X_move (v := (.bool (false))) rfl ?_)
            refine L_gy (dj := 164) rfl rfl rfl (X_loadA (p := (ptr b38 (0))) (xs := [pb.d0.pv, pb.d0.cv, pb.d0.bv, (.bool (pb.d0.off)), pb.d1.pv, pb.d1.cv, pb.d1.bv, (.bool (pb.d1.off)), (.int .i64 (pb.fz)), (.bool (pb.dn))]) A29 rfl hB38.atAll rfl ?_)
            refine L_gy (dj := 164) rfl rfl rfl (X_loadA (p := (ptr b41 (0))) (xs := [pc.d0.pv, pc.d0.cv, pc.d0.bv, (.bool (pc.d0.off)), pc.d1.pv, pc.d1.cv, pc.d1.bv, (.bool (pc.d1.off)), (.int .i64 (pc.fz)), (.bool (pc.dn))]) A29 rfl hB41.atAll rfl ?_)
            have hcr_ := c_sameMR pb pc w43 l0b u0b l1b u1b l0c u0c l1c u1c hb0 hb1 hc0 hc1
            refine L_gy (dj := 164) rfl rfl rfl (X_fn (vs := [(.agg ([pb.d0.pv, pb.d0.cv, pb.d0.bv, (.bool (pb.d0.off)), pb.d1.pv, pb.d1.cv, pb.d1.bv, (.bool (pb.d1.off)), (.int .i64 (pb.fz)), (.bool (pb.dn))]).toArray), (.agg ([pc.d0.pv, pc.d0.cv, pc.d0.bv, (.bool (pc.d0.off)), pc.d1.pv, pc.d1.cv, pc.d1.bv, (.bool (pc.d1.off)), (.int .i64 (pc.fz)), (.bool (pc.dn))]).toArray)]) en19 rfl ?_)
            refine CT.mono hcr_ ?_
            clear hcr_
            rintro _ w44 ⟨⟨g44, rfl, hg44⟩, hu44⟩
            have hz44 := hu44.size
            replace hB1 := hB1.ext hu44
            replace hB2 := hB2.ext hu44
            replace hz0 := hz0.ext hu44
            replace hz1 := hz1.ext hu44
            replace hU := hU.trans (Ext.upd hu44)
            replace ha0 := ha0.ext hu44
            replace ha1 := ha1.ext hu44
            replace hB35 := hB35.ext hu44
            replace hb0 := hb0.ext hu44
            replace hb1 := hb1.ext hu44
            replace hB38 := hB38.ext hu44
            replace hc0 := hc0.ext hu44
            replace hc1 := hc1.ext hu44
            replace hB41 := hB41.ext hu44
            obtain rfl : g44 = true := hg44.2 hdac.symm
            refine L_gy (dj := 164) rfl rfl rfl (X_not (b := true) (r := false) rfl rfl ?_)
            refine L_op rfl (X_pick (t := false) (v := (.bool (false))) rfl rfl ?_)
            refine L_op rfl (X_move (v := (.bool (false))) rfl ?_)
            refine L_gy (dj := 170) rfl rfl rfl (X_fldP (b := b35) (o := 0) (r := 0) Fd29_0 rfl rfl ?_)
            refine L_gy (dj := 170) rfl rfl rfl (X_idxAP (len := 2) (sz := 4) (b := b35) (o := 0) (k := .i64) (i := 0) (r := 0) Try.underlying27 Z26 rfl rfl (by omega) (by omega) rfl ?_)
            refine L_gy (dj := 170) rfl rfl rfl (X_loadA (p := (ptr b35 (0))) (xs := [pa.d0.pv, pa.d0.cv, pa.d0.bv, (.bool (pa.d0.off))]) A26 rfl (hB35.part (o := 0) (n := 4) rfl) rfl ?_)
            refine L_gy (dj := 170) rfl rfl rfl (X_fldP (b := b1) (o := 0) (r := 0) Fd29_0 rfl rfl ?_)
            refine L_gy (dj := 170) rfl rfl rfl (X_idxAP (len := 2) (sz := 4) (b := b1) (o := 0) (k := .i64) (i := 0) (r := 0) Try.underlying27 Z26 rfl rfl (by omega) (by omega) rfl ?_)
            refine L_gy (dj := 170) rfl rfl rfl (X_loadA (p := (ptr b1 (0))) (xs := [pz.d0.pv, pz.d0.cv, pz.d0.bv, (.bool (pz.d0.off))]) A26 rfl (hB1.part (o := 0) (n := 4) rfl) rfl ?_)
            have hcr_ := c_sameRD pa.d0 pz.d0 w44 l0a u0a l0z u0z ha0 hz0
            refine L_gy (dj := 170) rfl rfl rfl (X_fn (vs := [(.agg #[pa.d0.pv, pa.d0.cv, pa.d0.bv, (.bool (pa.d0.off))]), (.agg #[pz.d0.pv, pz.d0.cv, pz.d0.bv, (.bool (pz.d0.off))])]) en13 rfl ?_)
            refine CT.mono hcr_ ?_
            clear hcr_
            rintro _ w45 ⟨⟨g45, rfl, hg45⟩, hu45⟩
            have hz45 := hu45.size
            replace hB1 := hB1.ext hu45
            replace hB2 := hB2.ext hu45
            replace hz0 := hz0.ext hu45
            replace hz1 := hz1.ext hu45
            replace hU := hU.trans (Ext.upd hu45)
            replace ha0 := ha0.ext hu45
            replace ha1 := ha1.ext hu45
            replace hB35 := hB35.ext hu45
            replace hb0 := hb0.ext hu45
            replace hb1 := hb1.ext hu45
            replace hB38 := hB38.ext hu45
            replace hc0 := hc0.ext hu45
            replace hc1 := hc1.ext hu45
            replace hB41 := hB41.ext hu45
            obtain rfl : g45 = true := hg45.2 haa
            refine L_gy (dj := 170) rfl rfl rfl (X_not (b := true) (r := false) rfl rfl ?_)
            refine L_op rfl (X_pick (t := false) (v := (.bool (false))) rfl rfl ?_)
            refine L_nil ?_
            refine T_n ?_
            refine W_cf rfl ?_
            refine W_skip ?_
            refine T_n ?_
            refine W_seq ?_
            refine W_reg ?_
            refine L_op rfl (X_loadA (p := (ptr b41 (0))) (xs := [pc.d0.pv, pc.d0.cv, pc.d0.bv, (.bool (pc.d0.off)), pc.d1.pv, pc.d1.cv, pc.d1.bv, (.bool (pc.d1.off)), (.int .i64 (pc.fz)), (.bool (pc.dn))]) A29 rfl hB41.atAll rfl ?_)
            refine L_op rfl (X_build built60 ?_)
            have hcda : pc.da = pa.da := hdac.trans hdab
            have hcA : Sz pc.d0.da 1048576 := by rw [show pc.d0.da = pa.da.a from congrArg PD.a hcda]; exact (may_sz hMa).mono (by decide)
            have hcB : Sz pc.d1.da 1048576 := by rw [show pc.d1.da = pa.da.b from congrArg PD.b hcda]; exact (may_sz hMb).mono (by decide)
            obtain ⟨se, hse⟩ : ∃ n, n = w45.heap.size := ⟨_, rfl⟩
            have hcr_ := c_settle pc w45 l0c u0c l1c u1c (by omega) (by omega) hc0 hc1 hcA hcB
            refine L_op rfl (X_fn (vs := [(.agg ([pc.d0.pv, pc.d0.cv, pc.d0.bv, (.bool (pc.d0.off)), pc.d1.pv, pc.d1.cv, pc.d1.bv, (.bool (pc.d1.off)), (.int .i64 (pc.fz)), (.bool (pc.dn))]).toArray), (.agg #[.slice none 0 0, .slice none 0 0])]) en23 rfl ?_)
            refine CT.mono hcr_ ?_
            clear hcr_
            rintro _ w46 ⟨e0, e1, rfl, he0, he1, ce0, ne0, hu46⟩
            have hz46 := hu46.size
            obtain ⟨ue, hue⟩ : ∃ n, n = w46.heap.size := ⟨_, rfl⟩
            rw [← hse, ← hue] at he0 he1
            replace hB1 := hB1.ext hu46
            replace hB2 := hB2.ext hu46
            replace hz0 := hz0.ext hu46
            replace hz1 := hz1.ext hu46
            replace hU := hU.trans (Ext.upd hu46)
            replace ha0 := ha0.ext hu46
            replace ha1 := ha1.ext hu46
            replace hB35 := hB35.ext hu46
            replace hb0 := hb0.ext hu46
            replace hb1 := hb1.ext hu46
            replace hB38 := hB38.ext hu46
            replace hc0 := hc0.ext hu46
            replace hc1 := hc1.ext hu46
            replace hB41 := hB41.ext hu46
            have hce0 : e0.cs.length = 0 := congrArg List.length ce0
            have hps0 : e0.ps.length = pz.d0.ps.length := ne0.trans (congrArg (fun d => d.ps.length) ((congrArg PD.a hcda).trans haa))
            refine L_op rfl (X_alloc (z := (.agg #[(.slice none 0 0), (.slice none 0 0), (.slice none 0 0), (.bool (false)), (.slice none 0 0), (.slice none 0 0), (.slice none 0 0), (.bool (false)), (.int .i64 (0)), (.bool (false))])) (c := #[(.slice none 0 0), (.slice none 0 0), (.slice none 0 0), (.bool (false)), (.slice none 0 0), (.slice none 0 0), (.slice none 0 0), (.bool (false)), (.int .i64 (0)), (.bool (false))]) Zv29 rfl ?_)
            intro b47 w47 hn47
            have hbn47 := hn47.num; have hbs47 := hn47.size
            replace hB1 := hB1.ext hn47.ext
            replace hB2 := hB2.ext hn47.ext
            replace hz0 := hz0.ext hn47.ext
            replace hz1 := hz1.ext hn47.ext
            replace hU := hU.trans (Ext.upd hn47.ext)
            replace ha0 := ha0.ext hn47.ext
            replace ha1 := ha1.ext hn47.ext
            replace hB35 := hB35.ext hn47.ext
            replace hb0 := hb0.ext hn47.ext
            replace hb1 := hb1.ext hn47.ext
            replace hB38 := hB38.ext hn47.ext
            replace hc0 := hc0.ext hn47.ext
            replace hc1 := hc1.ext hn47.ext
            replace hB41 := hB41.ext hn47.ext
            replace he0 := he0.ext hn47.ext
            replace he1 := he1.ext hn47.ext
            have hB47 := hn47.blk
            refine L_op0 (X_storeW (b := b47) (ys := [e0.pv, e0.cv, e0.bv, (.bool (e0.off)), e1.pv, e1.cv, e1.bv, (.bool (e1.off)), (.int .i64 (-1)), (.bool (false))]) A29 rfl rfl (List.forall_mem_cons.2 ⟨(he0.1.sv.one), (List.forall_mem_cons.2 ⟨(he0.2.1.sv.one), (List.forall_mem_cons.2 ⟨(he0.2.2.sv.one), (List.forall_mem_cons.2 ⟨rfl, (List.forall_mem_cons.2 ⟨(he1.1.sv.one), (List.forall_mem_cons.2 ⟨(he1.2.1.sv.one), (List.forall_mem_cons.2 ⟨(he1.2.2.sv.one), (List.forall_mem_cons.2 ⟨rfl, (List.forall_mem_cons.2 ⟨rfl, (List.forall_mem_cons.2 ⟨rfl, (fun _ h => by cases h)⟩)⟩)⟩)⟩)⟩)⟩)⟩)⟩)⟩)⟩) rfl hB47 rfl ?_)
            intro w48 hu48 hb48
            have hz48 := hu48.size
            replace hB1 := hB1.upd hu48 fun h => by have h : b1 = b47 := h; omega
            replace hB2 := hB2.upd hu48 fun h => by have h : b2 = b47 := h; omega
            replace hz0 := hz0.upd hu48 fun i h1 h2 h => by have h : i = b47 := h; omega
            replace hz1 := hz1.upd hu48 fun i h1 h2 h => by have h : i = b47 := h; omega
            replace hU := hU.trans (hu48.mono fun i _ h => by have h : i = b47 := h; show n0 ≤ i; omega)
            replace ha0 := ha0.upd hu48 fun i h1 h2 h => by have h : i = b47 := h; omega
            replace ha1 := ha1.upd hu48 fun i h1 h2 h => by have h : i = b47 := h; omega
            replace hB35 := hB35.upd hu48 fun h => by have h : b35 = b47 := h; omega
            replace hb0 := hb0.upd hu48 fun i h1 h2 h => by have h : i = b47 := h; omega
            replace hb1 := hb1.upd hu48 fun i h1 h2 h => by have h : i = b47 := h; omega
            replace hB38 := hB38.upd hu48 fun h => by have h : b38 = b47 := h; omega
            replace hc0 := hc0.upd hu48 fun i h1 h2 h => by have h : i = b47 := h; omega
            replace hc1 := hc1.upd hu48 fun i h1 h2 h => by have h : i = b47 := h; omega
            replace hB41 := hB41.upd hu48 fun h => by have h : b41 = b47 := h; omega
            replace he0 := he0.upd hu48 fun i h1 h2 h => by have h : i = b47 := h; omega
            replace he1 := he1.upd hu48 fun i h1 h2 h => by have h : i = b47 := h; omega
            replace hB47 : Blk w48 b47 #[e0.pv, e0.cv, e0.bv, (.bool (e0.off)), e1.pv, e1.cv, e1.bv, (.bool (e1.off)), (.int .i64 (-1)), (.bool (false))] 29 := hb48
            refine L_nil ?_
            refine T_n ?_
            refine W_seq ?_
            refine W_reg ?_
            refine L_op rfl (X_fldP (b := b47) (o := 0) (r := 9) Fd29_2 rfl rfl ?_)
            refine L_op rfl (X_load (p := (ptr b47 (9))) (v := (.bool (false))) T4 rfl (hB47.at1 rfl) ?_)
            refine L_op rfl (X_not (b := false) (r := true) rfl rfl ?_)
            refine L_op rfl (X_move (v := (.bool (true))) rfl ?_)
            refine L_gy (dj := 186) rfl rfl rfl (X_fldP (b := b47) (o := 0) (r := 8) Fd29_1 rfl rfl ?_)
            refine L_gy (dj := 186) rfl rfl rfl (X_load (p := (ptr b47 (8))) (v := (.int .i64 (-1))) T3 rfl (hB47.at1 rfl) ?_)
            refine L_gy (dj := 186) rfl rfl rfl (X_cmp (k := .i64) (a := -1) (b := -1) (r := true) rfl rfl rfl rfl ?_)
            refine L_op rfl (X_pick (t := true) (v := (.bool (true))) rfl rfl ?_)
            refine L_op rfl (X_move (v := (.bool (true))) rfl ?_)
            refine L_gy (dj := 191) rfl rfl rfl (X_fldP (b := b47) (o := 0) (r := 0) Fd29_0 rfl rfl ?_)
            refine L_gy (dj := 191) rfl rfl rfl (X_idxAP (len := 2) (sz := 4) (b := b47) (o := 0) (k := .i64) (i := 0) (r := 0) Try.underlying27 Z26 rfl rfl (by omega) (by omega) rfl ?_)
            refine L_gy (dj := 191) rfl rfl rfl (X_fldP (b := b47) (o := 0) (r := 1) Fd26_1 rfl rfl ?_)
            refine L_gy (dj := 191) rfl rfl rfl (X_load (p := (ptr b47 (1))) (v := e0.cv) T23 rfl (hB47.at1 rfl) ?_)
            refine L_gy (dj := 191) rfl rfl rfl (X_len (v := e0.cv) (n := e0.cs.length) Try.underlying23 rfl he0.2.1.sv ?_)
            refine L_gy (dj := 191) rfl rfl rfl (X_cmp (k := .i64) (a := ((e0.cs.length : Nat) : Int)) (b := 0) (r := true) rfl rfl rfl (decide_eq_true (p := ((((e0.cs.length : Nat) : Int)) : Int) = ((0) : Int)) (by omega)) ?_)
            refine L_op rfl (X_pick (t := true) (v := (.bool (true))) rfl rfl ?_)
            refine L_op rfl (X_move (v := (.bool (true))) rfl ?_)
            refine L_gy (dj := 199) rfl rfl rfl (X_fldP (b := b47) (o := 0) (r := 0) Fd29_0 rfl rfl ?_)
            refine L_gy (dj := 199) rfl rfl rfl (X_idxAP (len := 2) (sz := 4) (b := b47) (o := 0) (k := .i64) (i := 0) (r := 0) Try.underlying27 Z26 rfl rfl (by omega) (by omega) rfl ?_)
            refine L_gy (dj := 199) rfl rfl rfl (X_fldP (b := b47) (o := 0) (r := 0) Fd26_0 rfl rfl ?_)
            refine L_gy (dj := 199) rfl rfl rfl (X_load (p := (ptr b47 (0))) (v := e0.pv) T22 rfl (hB47.at1 rfl) ?_)
            refine L_gy (dj := 199) rfl rfl rfl (X_len (v := e0.pv) (n := e0.ps.length) Try.underlying22 rfl he0.1.sv ?_)
            refine L_gy (dj := 199) rfl rfl rfl (X_fldP (b := b1) (o := 0) (r := 0) Fd29_0 rfl rfl ?_)
            refine L_gy (dj := 199) rfl rfl rfl (X_idxAP (len := 2) (sz := 4) (b := b1) (o := 0) (k := .i64) (i := 0) (r := 0) Try.underlying27 Z26 rfl rfl (by omega) (by omega) rfl ?_)
            refine L_gy (dj := 199) rfl rfl rfl (X_fldP (b := b1) (o := 0) (r := 0) Fd26_0 rfl rfl ?_)
            refine L_gy (dj := 199) rfl rfl rfl (X_load (p := (ptr b1 (0))) (v := pz.d0.pv) T22 rfl (hB1.at1 rfl) ?_)
            refine L_gy (dj := 199) rfl rfl rfl (X_len (v := pz.d0.pv) (n := pz.d0.ps.length) Try.underlying22 rfl hz0.1.sv ?_)
            refine L_gy (dj := 199) rfl rfl rfl (X_cmp (k := .i64) (a := ((e0.ps.length : Nat) : Int)) (b := ((pz.d0.ps.length : Nat) : Int)) (r := true) rfl rfl rfl (decide_eq_true (p := ((((e0.ps.length : Nat) : Int)) : Int) = ((((pz.d0.ps.length : Nat) : Int)) : Int)) (by omega)) ?_)
            refine L_op rfl (X_pick (t := true) (v := (.bool (true))) rfl rfl ?_)
            refine L_op rfl (X_move (v := (.bool (true))) rfl ?_)
            refine L_gy (dj := 212) rfl rfl rfl (X_fn (vs := []) en9 rfl (CT.mono (c_wakes _) ?_))
            rintro _ w49 ⟨rfl, hu49⟩
            have hz49 := hu49.size
            replace hB1 := hB1.ext hu49
            replace hB2 := hB2.ext hu49
            replace hz0 := hz0.ext hu49
            replace hz1 := hz1.ext hu49
            replace hU := hU.trans (Ext.upd hu49)
            replace ha0 := ha0.ext hu49
            replace ha1 := ha1.ext hu49
            replace hB35 := hB35.ext hu49
            replace hb0 := hb0.ext hu49
            replace hb1 := hb1.ext hu49
            replace hB38 := hB38.ext hu49
            replace hc0 := hc0.ext hu49
            replace hc1 := hc1.ext hu49
            replace hB41 := hB41.ext hu49
            replace he0 := he0.ext hu49
            replace he1 := he1.ext hu49
            replace hB47 := hB47.ext hu49
            refine L_op rfl (X_pick (t := true) (v := (.bool (true))) rfl rfl ?_)
            refine L_op rfl (X_assign (v := (.bool (true))) rfl ?_)
            refine L_nil ?_
            refine T_n ?_
            refine W_ret ?_
            exact BQ_r (End_1 Try.results6 (v := .bool true) rfl ⟨rfl, hU.own hn0⟩)
  ·rw [hc6]
   refine L_gy (dj := 24) rfl rfl rfl (X_not (b := false) (r := true) rfl rfl ?_)
   refine L_op rfl (X_pick (t := false) (v := (.bool (true))) rfl rfl ?_)
   refine L_op rfl (X_move (v := (.bool (true))) rfl ?_)
   refine L_gn (dj := 31) (t := true) rfl rfl rfl rfl ?_
   refine L_gn (dj := 31) (t := true) rfl rfl rfl rfl ?_
   refine L_gn (dj := 31) (t := true) rfl rfl rfl rfl ?_
   refine L_gn (dj := 31) (t := true) rfl rfl rfl rfl ?_
   refine L_op rfl (X_pick (t := true) (v := (.bool (true))) rfl rfl ?_)
   refine L_op rfl (X_move (v := (.bool (true))) rfl ?_)
   refine L_gn (dj := 37) (t := true) rfl rfl rfl rfl ?_
   refine L_gn (dj := 37) (t := true) rfl rfl rfl rfl ?_
   refine L_gn (dj := 37) (t := true) rfl rfl rfl rfl ?_
   refine L_gn (dj := 37) (t := true) rfl rfl rfl rfl ?_
   refine L_op rfl (X_pick (t := true) (v := (.bool (true))) rfl rfl ?_)
   refine L_op rfl (X_move (v := (.bool (true))) rfl ?_)
   refine L_gn (dj := 43) (t := true) rfl rfl rfl rfl ?_
   refine L_gn (dj := 43) (t := true) rfl rfl rfl rfl ?_
   refine L_op rfl (X_pick (t := true) (v := (.bool (true))) rfl rfl ?_)
   refine L_op rfl (X_move (v := (.bool (true))) rfl ?_)
   refine L_gn (dj := 47) (t := true) rfl rfl rfl rfl ?_
   refine L_gn (dj := 47) (t := true) rfl rfl rfl rfl ?_
   refine L_op rfl (X_pick (t := true) (v := (.bool (true))) rfl rfl ?_)
   refine L_op rfl (X_move (v := (.bool (true))) rfl ?_)
   refine L_gn (dj := 51) (t := true) rfl rfl rfl rfl ?_
   refine L_gn (dj := 51) (t := true) rfl rfl rfl rfl ?_
   refine L_op rfl (X_pick (t := true) (v := (.bool (true))) rfl rfl ?_)
   refine L_op rfl (X_move (v := (.bool (true))) rfl ?_)
   refine L_gn (dj := 55) (t := true) rfl rfl rfl rfl ?_
   refine L_gn (dj := 55) (t := true) rfl rfl rfl rfl ?_
   refine L_op rfl (X_pick (t := true) (v := (.bool (true))) rfl rfl ?_)
   refine L_op rfl (X_move (v := (.bool (true))) rfl ?_)
   refine L_gn (dj := 59) (t := true) rfl rfl rfl rfl ?_
   refine L_gn (dj := 59) (t := true) rfl rfl rfl rfl ?_
   refine L_gn (dj := 59) (t := true) rfl rfl rfl rfl ?_
   refine L_gn (dj := 59) (t := true) rfl rfl rfl rfl ?_
   refine L_gn (dj := 59) (t := true) rfl rfl rfl rfl ?_
   refine L_gn (dj := 59) (t := true) rfl rfl rfl rfl ?_
   refine L_gn (dj := 59) (t := true) rfl rfl rfl rfl ?_
   refine L_gn (dj := 59) (t := true) rfl rfl rfl rfl ?_
   refine L_gn (dj := 59) (t := true) rfl rfl rfl rfl ?_
   refine L_gn (dj := 59) (t := true) rfl rfl rfl rfl ?_
   refine L_gn (dj := 59) (t := true) rfl rfl rfl rfl ?_
   refine L_gn (dj := 59) (t := true) rfl rfl rfl rfl ?_
   refine L_gn (dj := 59) (t := true) rfl rfl rfl rfl ?_
   refine L_op rfl (X_pick (t := true) (v := (.bool (true))) rfl rfl ?_)
   refine L_op rfl (X_move (v := (.bool (true))) rfl ?_)
   refine L_gn (dj := 74) (t := true) rfl rfl rfl rfl ?_
   refine L_gn (dj := 74) (t := true) rfl rfl rfl rfl ?_
   refine L_gn (dj := 74) (t := true) rfl rfl rfl rfl ?_
   refine L_gn (dj := 74) (t := true) rfl rfl rfl rfl ?_
   refine L_gn (dj := 74) (t := true) rfl rfl rfl rfl ?_
   refine L_gn (dj := 74) (t := true) rfl rfl rfl rfl ?_
   refine L_gn (dj := 74) (t := true) rfl rfl rfl rfl ?_
   refine L_gn (dj := 74) (t := true) rfl rfl rfl rfl ?_
   refine L_gn (dj := 74) (t := true) rfl rfl rfl rfl ?_
   refine L_gn (dj := 74) (t := true) rfl rfl rfl rfl ?_
   refine L_gn (dj := 74) (t := true) rfl rfl rfl rfl ?_
   refine L_gn (dj := 74) (t := true) rfl rfl rfl rfl ?_
   refine L_op rfl (X_pick (t := true) (v := (.bool (true))) rfl rfl ?_)
   refine L_nil ?_
   refine T_n ?_
   refine W_ct rfl ?_
   refine W_seq ?_
   refine W_reg ?_
   refine L_op rfl (X_fn (vs := []) en9 rfl (CT.mono (c_wakes _) ?_))
   rintro _ w50 ⟨rfl, hu50⟩
   have hz50 := hu50.size
   replace h0 := h0.ext hu50
   replace h1 := h1.ext hu50
   replace hU := hU.trans (Ext.upd hu50)
   replace hB1 := hB1.ext hu50
   replace hB2 := hB2.ext hu50
   refine L_op rfl (X_assign (v := (.bool (true))) rfl ?_)
   refine L_nil ?_
   refine T_n ?_
   refine W_ret ?_
   refine T_r ?_
   exact BQ_r (End_1 Try.results6 (v := .bool true) rfl ⟨rfl, hU.own hn0⟩)
 ·rw [hc4]
  refine L_op rfl (X_not (b := false) (r := true) rfl rfl ?_)
  refine L_op rfl (X_move (v := (.bool (true))) rfl ?_)
  refine L_gn (dj := 24) (t := true) rfl rfl rfl rfl ?_
  refine L_gn (dj := 24) (t := true) rfl rfl rfl rfl ?_
  refine L_gn (dj := 24) (t := true) rfl rfl rfl rfl ?_
  refine L_gn (dj := 24) (t := true) rfl rfl rfl rfl ?_
  refine L_gn (dj := 24) (t := true) rfl rfl rfl rfl ?_
  refine L_op rfl (X_pick (t := true) (v := (.bool (true))) rfl rfl ?_)
  refine L_op rfl (X_move (v := (.bool (true))) rfl ?_)
  refine L_gn (dj := 31) (t := true) rfl rfl rfl rfl ?_
  refine L_gn (dj := 31) (t := true) rfl rfl rfl rfl ?_
  refine L_gn (dj := 31) (t := true) rfl rfl rfl rfl ?_
  refine L_gn (dj := 31) (t := true) rfl rfl rfl rfl ?_
  refine L_op rfl (X_pick (t := true) (v := (.bool (true))) rfl rfl ?_)
  refine L_op rfl (X_move (v := (.bool (true))) rfl ?_)
  refine L_gn (dj := 37) (t := true) rfl rfl rfl rfl ?_
  refine L_gn (dj := 37) (t := true) rfl rfl rfl rfl ?_
  refine L_gn (dj := 37) (t := true) rfl rfl rfl rfl ?_
  refine L_gn (dj := 37) (t := true) rfl rfl rfl rfl ?_
  refine L_op rfl (X_pick (t := true) (v := (.bool (true))) rfl rfl ?_)
  refine L_op rfl (X_move (v := (.bool (true))) rfl ?_)
  refine L_gn (dj := 43) (t := true) rfl rfl rfl rfl ?_
  refine L_gn (dj := 43) (t := true) rfl rfl rfl rfl ?_
  refine L_op rfl (X_pick (t := true) (v := (.bool (true))) rfl rfl ?_)
  refine L_op rfl (X_move (v := (.bool (true))) rfl ?_)
  refine L_gn (dj := 47) (t := true) rfl rfl rfl rfl ?_
  refine L_gn (dj := 47) (t := true) rfl rfl rfl rfl ?_
  refine L_op rfl (X_pick (t := true) (v := (.bool (true))) rfl rfl ?_)
  refine L_op rfl (X_move (v := (.bool (true))) rfl ?_)
  refine L_gn (dj := 51) (t := true) rfl rfl rfl rfl ?_
  refine L_gn (dj := 51) (t := true) rfl rfl rfl rfl ?_
  refine L_op rfl (X_pick (t := true) (v := (.bool (true))) rfl rfl ?_)
  refine L_op rfl (X_move (v := (.bool (true))) rfl ?_)
  refine L_gn (dj := 55) (t := true) rfl rfl rfl rfl ?_
  refine L_gn (dj := 55) (t := true) rfl rfl rfl rfl ?_
  refine L_op rfl (X_pick (t := true) (v := (.bool (true))) rfl rfl ?_)
  refine L_op rfl (X_move (v := (.bool (true))) rfl ?_)
  refine L_gn (dj := 59) (t := true) rfl rfl rfl rfl ?_
  refine L_gn (dj := 59) (t := true) rfl rfl rfl rfl ?_
  refine L_gn (dj := 59) (t := true) rfl rfl rfl rfl ?_
  refine L_gn (dj := 59) (t := true) rfl rfl rfl rfl ?_
  refine L_gn (dj := 59) (t := true) rfl rfl rfl rfl ?_
  refine L_gn (dj := 59) (t := true) rfl rfl rfl rfl ?_
  refine L_gn (dj := 59) (t := true) rfl rfl rfl rfl ?_
  refine L_gn (dj := 59) (t := true) rfl rfl rfl rfl ?_
  refine L_gn (dj := 59) (t := true) rfl rfl rfl rfl ?_
  refine L_gn (dj := 59) (t := true) rfl rfl rfl rfl ?_
  refine L_gn (dj := 59) (t := true) rfl rfl rfl rfl ?_
  refine L_gn (dj := 59) (t := true) rfl rfl rfl rfl ?_
  refine L_gn (dj := 59) (t := true) rfl rfl rfl rfl ?_
  refine L_op rfl (X_pick (t := true) (v := (.bool (true))) rfl rfl ?_)
  refine L_op rfl (X_move (v := (.bool (true))) rfl ?_)
  refine L_gn (dj := 74) (t := true) rfl rfl rfl rfl ?_
  refine L_gn (dj := 74) (t := true) rfl rfl rfl rfl ?_
  refine L_gn (dj := 74) (t := true) rfl rfl rfl rfl ?_
  refine L_gn (dj := 74) (t := true) rfl rfl rfl rfl ?_
  refine L_gn (dj := 74) (t := true) rfl rfl rfl rfl ?_
  refine L_gn (dj := 74) (t := true) rfl rfl rfl rfl ?_
  refine L_gn (dj := 74) (t := true) rfl rfl rfl rfl ?_
  refine L_gn (dj := 74) (t := true) rfl rfl rfl rfl ?_
  refine L_gn (dj := 74) (t := true) rfl rfl rfl rfl ?_
  refine L_gn (dj := 74) (t := true) rfl rfl rfl rfl ?_
  refine L_gn (dj := 74) (t := true) rfl rfl rfl rfl ?_
  refine L_gn (dj := 74) (t := true) rfl rfl rfl rfl ?_
  refine L_op rfl (X_pick (t := true) (v := (.bool (true))) rfl rfl ?_)
  refine L_nil ?_
  refine T_n ?_
  refine W_ct rfl ?_
  refine W_seq ?_
  refine W_reg ?_
  refine L_op rfl (X_fn (vs := []) en9 rfl (CT.mono (c_wakes _) ?_))
  rintro _ w51 ⟨rfl, hu51⟩
  have hz51 := hu51.size
  replace h0 := h0.ext hu51
  replace h1 := h1.ext hu51
  replace hU := hU.trans (Ext.upd hu51)
  replace hB1 := hB1.ext hu51
  replace hB2 := hB2.ext hu51
  refine L_op rfl (X_assign (v := (.bool (true))) rfl ?_)
  refine L_nil ?_
  refine T_n ?_
  refine W_ret ?_
  refine T_r ?_
  exact BQ_r (End_1 Try.results6 (v := .bool true) rfl ⟨rfl, hU.own hn0⟩)
end Go.Proofs.Ytcjfkkoapncnhaa
