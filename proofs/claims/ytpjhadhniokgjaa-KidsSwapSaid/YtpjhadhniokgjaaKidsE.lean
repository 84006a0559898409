/-
  More contracts of chapter 16: named, cut, Own. (Printed by wip/gen/t16e.py of this repo.)
-/
import Derived.Test.YtpjhadhniokgjaaKidsD
import Derived.Test.YtpjhadhniokgjaaBaseL
namespace Go.Proofs.Ytpjhadhniokgjaa
open Go Go.SL Go.Proofs

def KeyOK (es : List KE) : Prop := ∀ (j : Nat) (e : KE), es[j]? = some e → e.2.1.length ≤ 140737488355328

theorem c_named0 (l key : Value) (w : World) (hl : SV l 0) : CT Try.prog 20 #[l, key] w fun v w' => l = v ∧ w = w' := by
  refine CT_of Try.func20 rfl rfl rfl ?_
  refine W_seq ?_
  refine W_reg ?_
  refine L_op rfl (X_assign (v := (.slice none 0 0)) rfl ?_)
  refine L_nil ?_
  refine T_n ?_
  refine W_seq ?_
  refine W_seq ?_
  refine W_reg ?_
  refine L_op rfl (X_move (v := l) rfl ?_)
  refine L_op rfl (X_len (v := l) (n := 0) Try.underlying22 rfl hl ?_)
  refine L_op rfl (X_cmp (k := .i64) (a := 0) (b := 0) (r := false) rfl rfl rfl rfl ?_)
  refine L_nil ?_
  refine T_n ?_
  refine W_cf rfl ?_
  refine W_skip ?_
  refine T_n ?_
  refine W_seq ?_
  refine W_reg ?_
  refine L_op rfl (X_move (v := l) rfl ?_)
  refine L_op rfl (X_assign (v := l) rfl ?_)
  refine L_nil ?_
  refine T_n ?_
  refine W_ret ?_
  exact BQ_r (End_1 Try.results20 (v := l) rfl ⟨rfl, rfl⟩)

theorem c_named (v key : Value) (es : List KE) (e : KE) (n : Nat) (m : List UInt8) (w : World) (lo up : Nat) (hup : up ≤ w.heap.size) (hlo : lo ≤ w.heap.size) (hN : NOwn LK w 39 5 lo up v es) (he : es[n]? = some e) (hm : m.length ≤ 140737488355328) (hk : Rd w 1 key m.length (m.map byteV)) : CT Try.prog 20 #[(cutv v 6 n es.length), key] w fun r w' => r = cutv v 6 n es.length ∧ ∃ kv, NOwn LK w' 39 5 lo w'.heap.size v (es.set n (kv, m, e.2.2)) ∧ (∀ k, obk kv = some k → w.heap.size ≤ k) ∧ Upd (fun i => obk v = some i) w w' := by
  obtain ⟨n0, hn0⟩ : ∃ n, n = w.heap.size := ⟨_, rfl⟩
  have hnl := (List.getElem?_eq_some_iff.1 he).1
  have hcv : SV (cutv v 6 n es.length) (es.length - n) := by have := (hN.rd.tail (k := n) (by omega)).sv; rwa [List.length_drop] at this
  have hlen := hN.1.sv.len
  refine CT_of Try.func20 rfl rfl rfl ?_
  refine W_seq ?_
  refine W_reg ?_
  refine L_op rfl (X_assign (v := (.slice none 0 0)) rfl ?_)
  refine L_nil ?_
  refine T_n ?_
  refine W_seq ?_
  refine W_seq ?_
  refine W_reg ?_
  refine L_op rfl (X_move (v := (cutv v 6 n es.length)) rfl ?_)
  refine L_op rfl (X_len (v := (cutv v 6 n es.length)) (n := (es.length - n)) Try.underlying22 rfl hcv ?_)
  refine L_op rfl (X_cmp (k := .i64) (a := (((es.length - n) : Nat) : Int)) (b := 0) (r := true) rfl rfl rfl (decide_eq_true (p := ((0) : Int) < (((((es.length - n) : Nat) : Int)) : Int)) (by omega)) ?_)
  refine L_nil ?_
  refine T_n ?_
  refine W_ct rfl ?_
  refine W_reg ?_
  refine L_op rfl (X_move (v := (cutv v 6 n es.length)) rfl ?_)
  refine L_op rfl (X_move (v := key) rfl ?_)
  refine L_op rfl (X_fn (vs := [key]) en25 rfl (CT.mono (c_clone _ m _ hm hk) ?_))
  rintro kv w1 ⟨hK, hu1⟩
  have hz1 := hu1.size
  replace hN := hN.ext hu1
  have hKb : BOwn w1 5 n0 w1.heap.size (kv, m) := ⟨hK.more (by omega), fun b hb => (hK.lt hb).2⟩
  refine L_op rfl (X_idx (v := (cutv v 6 n es.length)) (n := (es.length - n)) (k := .i64) (i := 0) S22 rfl hcv rfl (by omega) (by omega) ?_)
  refine L_op rfl (X_fldS (v := (cutv v 6 n es.length)) (o := (0 : Int).toNat * 6) Fd39_0 rfl hcv (by omega) ?_)
  refine L_op0 (X_storeKey (up' := w1.heap.size) (n := n) (N := es.length) T23 hN he (by have := (List.getElem?_eq_some_iff.1 he).1; omega) (Nat.le_refl _) rfl rfl (hKb.mono (by omega) (Nat.le_refl _)) (by decide) (by omega) ?_)
  intro w2 hN2 hu2
  refine L_nil ?_
  refine T_n ?_
  refine W_seq ?_
  refine W_reg ?_
  refine L_op rfl (X_move (v := (cutv v 6 n es.length)) rfl ?_)
  refine L_op rfl (X_assign (v := (cutv v 6 n es.length)) rfl ?_)
  refine L_nil ?_
  refine T_n ?_
  refine W_ret ?_
  exact BQ_r (End_1 Try.results20 (v := cutv v 6 n es.length) rfl ⟨rfl, kv, hN2.mono (Nat.le_refl _) hu2.size, fun k hk => by have := (hK.lt hk).1; omega, (Ext.upd hu1).trans (hu2.mono fun i _ h => h)⟩)

theorem c_cut (l : Value) (n : Int) (N : Nat) (w : World) (hl : SV l N) : CT Try.prog 18 #[l, (.int .i64 (n))] w fun v w' => v = .tuple #[headv l (min n.toNat N) (min n.toNat N), cutv l 6 (min n.toNat N) N] ∧ Ext w w' := by
  have hE := Upd.refl (fun _ => False) w
  refine CT_of Try.func18 rfl rfl rfl ?_
  refine W_seq ?_
  refine W_reg ?_
  refine L_op rfl (X_assign (v := (.slice none 0 0)) rfl ?_)
  refine L_op rfl (X_assign (v := (.slice none 0 0)) rfl ?_)
  refine L_nil ?_
  refine T_n ?_
  refine W_seq ?_
  refine W_reg ?_
  refine L_op rfl (X_move (v := (.int .i64 (n))) rfl ?_)
  refine L_op rfl (X_max (k := .i64) (a := n) (b := 0) (r := max n 0) rfl rfl (by omega) ?_)
  refine L_op rfl (X_move (v := l) rfl ?_)
  refine L_op rfl (X_len (v := l) (n := N) Try.underlying22 rfl hl ?_)
  refine L_op rfl (X_min (k := .i64) (a := max n 0) (b := ((N : Nat) : Int)) (r := ((min n.toNat N : Nat) : Int)) rfl rfl (by omega) ?_)
  refine L_op rfl (X_assign (v := (.int .i64 (((min n.toNat N : Nat) : Int)))) rfl ?_)
  refine L_nil ?_
  refine T_n ?_
  refine W_seq ?_
  refine W_draw 8 [[], [], [], [0, 1, 2], [], [], [4, 5], [0, 1, 2, 3], [0, 1, 2, 3, 4, 5, 6, 7]] mixed (by kernel_rfl) ?_
  refine ⟨.det (fun val => l), ⟨fun _ _ hv => rfl, fun _ _ _ _ _ => trivial⟩, fun val h_ W hx he => ⟨trivial, ?_⟩, ?_⟩
  · replace hx := (Upd.drew _ _).trans hx
    have hE := Upd.refl (fun _ => False) W
    refine id (X_move (v := l) rfl ?_)
    exact ⟨hE, rfl⟩
  refine ⟨.det (fun val => (.int .i64 (((min n.toNat N : Nat) : Int)))), ⟨fun _ _ hv => rfl, fun _ _ _ _ _ => trivial⟩, fun val h_ W hx he => ⟨trivial, ?_⟩, ?_⟩
  · replace hx := (Upd.drew _ _).trans hx
    have hE := Upd.refl (fun _ => False) W
    refine id (X_move (v := (.int .i64 (((min n.toNat N : Nat) : Int)))) rfl ?_)
    exact ⟨hE, rfl⟩
  refine ⟨.det (fun val => (.int .i64 (((min n.toNat N : Nat) : Int)))), ⟨fun _ _ hv => rfl, fun _ _ _ _ _ => trivial⟩, fun val h_ W hx he => ⟨trivial, ?_⟩, ?_⟩
  · replace hx := (Upd.drew _ _).trans hx
    have hE := Upd.refl (fun _ => False) W
    refine id (X_move (v := (.int .i64 (((min n.toNat N : Nat) : Int)))) rfl ?_)
    exact ⟨hE, rfl⟩
  refine ⟨.det (fun val => (headv l (min n.toNat N) (min n.toNat N))), ⟨fun _ _ hv => rfl, fun _ _ _ _ _ => trivial⟩, fun val h_ W hx he => ⟨trivial, ?_⟩, ?_⟩
  · replace hx := (Upd.drew _ _).trans hx
    have hE := Upd.refl (fun _ => False) W
    refine id (X_slice3 (n := N) (h' := min n.toNat N) (m := min n.toNat N) (kh := .i64) (km := .i64) S22 rfl hl rfl rfl (Nat.le_refl _) (by omega) ?_)
    exact ⟨hE, rfl⟩
  refine ⟨.det (fun val => l), ⟨fun _ _ hv => rfl, fun _ _ _ _ _ => trivial⟩, fun val h_ W hx he => ⟨trivial, ?_⟩, ?_⟩
  · replace hx := (Upd.drew _ _).trans hx
    have hE := Upd.refl (fun _ => False) W
    refine id (X_move (v := l) rfl ?_)
    exact ⟨hE, rfl⟩
  refine ⟨.det (fun val => (.int .i64 (((min n.toNat N : Nat) : Int)))), ⟨fun _ _ hv => rfl, fun _ _ _ _ _ => trivial⟩, fun val h_ W hx he => ⟨trivial, ?_⟩, ?_⟩
  · replace hx := (Upd.drew _ _).trans hx
    have hE := Upd.refl (fun _ => False) W
    refine id (X_move (v := (.int .i64 (((min n.toNat N : Nat) : Int)))) rfl ?_)
    exact ⟨hE, rfl⟩
  refine ⟨.det (fun val => (cutv l 6 (min n.toNat N) N)), ⟨fun _ _ hv => rfl, fun _ _ _ _ _ => trivial⟩, fun val h_ W hx he => ⟨trivial, ?_⟩, ?_⟩
  · replace hx := (Upd.drew _ _).trans hx
    have hE := Upd.refl (fun _ => False) W
    refine id (X_slice (n := N) (l := min n.toNat N) (h' := N) (kl := .i64) (kh := .i64) S22 rfl hl rfl rfl (by omega) (Nat.le_refl _) ?_)
    exact ⟨hE, rfl⟩
  refine ⟨.det (fun val => (headv l (min n.toNat N) (min n.toNat N))), ⟨fun _ _ hv => rfl, fun _ _ _ _ _ => trivial⟩, fun val h_ W hx he => ⟨trivial, ?_⟩, ?_⟩
  · replace hx := (Upd.drew _ _).trans hx
    have hE := Upd.refl (fun _ => False) W
    refine id (X_assign (v := (headv l (min n.toNat N) (min n.toNat N))) rfl ?_)
    exact ⟨hE, rfl⟩
  intro val W1 hx1 he1
  replace hx1 := (Upd.drew _ _).trans hx1
  have hz1 := hx1.size
  replace hE := hE.trans (Ext.upd hx1)
  refine L_op rfl (X_assign (v := (cutv l 6 (min n.toNat N) N)) rfl ?_)
  refine L_nil ?_
  refine T_n ?_
  refine W_ret ?_
  exact BQ_r (End_2 Try.results18 (v1 := headv l (min n.toNat N) (min n.toNat N)) (v2 := cutv l 6 (min n.toNat N) N) rfl rfl ⟨rfl, Ext.upd hE⟩)

theorem c_own (l : Value) (es : List KE) (w : World) (lo up : Nat) (hup : up ≤ w.heap.size) (hl : NRd LK w lo up l es) (hkl : KeyOK es) (hlen : es.length ≤ 1099511627776) : CT Try.prog 19 #[l] w fun v w' => ∃ fs, NOwn LK w' 39 5 w.heap.size w'.heap.size v fs ∧ Dist fs ∧ fs.map (·.2) = es.map (·.2) ∧ Ext w w' := by
  obtain ⟨n0, hn0⟩ : ∃ n, n = w.heap.size := ⟨_, rfl⟩
  have hU : Upd (fun i => n0 ≤ i) w w := Upd.refl _ _
  rw [← hn0] at hup
  refine CT_of Try.func19 rfl rfl rfl ?_
  refine W_seq ?_
  refine W_reg ?_
  refine L_op rfl (X_assign (v := (.slice none 0 0)) rfl ?_)
  refine L_nil ?_
  refine T_n ?_
  refine W_seq ?_
  refine W_reg ?_
  refine L_op rfl (X_move (v := l) rfl ?_)
  refine L_op rfl (X_buildSlice1 (vs := [l]) S62 (by decide) rfl rfl (List.forall_mem_cons.2 ⟨(hl.sv.cells), (fun _ h => by cases h)⟩) ?_)
  intro b1 w1 hn1
  have hbn1 := hn1.num; have hbs1 := hn1.size
  replace hl := hl.ext hn1.ext
  replace hU := hU.trans (Ext.upd hn1.ext)
  have hB1 := hn1.blk
  obtain ⟨nw, hnw⟩ : ∃ n, n = w1.heap.size := ⟨_, rfl⟩
  refine L_op rfl (X_fn (vs := [(.slice (some ⟨b1, 0, none⟩) 1 1)]) en24 rfl (CT.mono (c_all _ 1 _ (hB1.own (B := 0) (n := 1) (c := 1) (sz := 1) (Nat.zero_le _) (Nat.le_refl _) (by decide) (Nat.le_refl 1)).sv) ?_))
  rintro _ w3 ⟨rfl, hA, hu3, hz3⟩
  rw [← hnw] at hA ⊢
  replace hl := hl.ext hu3
  replace hU := hU.trans (Ext.upd hu3)
  replace hB1 := hB1.ext hu3
  have hit := c_all1 (.slice (some ⟨b1, 0, none⟩) 1 1) [(l, es)] nw w3 0 up (by omega) hA (hB1.rd (o := 0) (n := 1) (c := 1) (sz := 1) (by decide) (by decide) rfl (fun j u hj => by rw [Nat.zero_add]; simpa using hj)) (List.forall_mem_cons.2 ⟨hl.mono (Nat.zero_le _) (Nat.le_refl _), fun _ h => by cases h⟩) (List.forall_mem_cons.2 ⟨fun e he => by obtain ⟨j, hj, rfl⟩ := List.getElem_of_mem he; exact hkl j _ (List.getElem?_eq_getElem hj), fun _ h => by cases h⟩)
  rw [show flR [(l, es)] = es from by simp [flR]] at hit
  refine L_op rfl (X_fn (vs := [(.func (.func 29) #[] #[ptr nw 0])]) en23 rfl (CT.mono (c_collect (lb := [ptr nw 0]) (es) _ hit en29 (Upd.refl _ _) (by omega)) ?_))
  rintro v4 w4 ⟨fs, hN, hdi, hfs, hu4⟩
  have hz4 := hu4.size
  replace hl := hl.ext hu4
  replace hU := hU.trans (Ext.upd hu4)
  replace hB1 := hB1.ext hu4
  replace hA := hA.ext hu4
  refine L_op rfl (X_assign (v := v4) rfl ?_)
  refine L_nil ?_
  refine T_n ?_
  refine W_ret ?_
  exact BQ_r (End_1 Try.results19 (v := v4) rfl ⟨fs, hN.mono (by omega) (Nat.le_refl _), hdi, hfs, hU.own hn0⟩)
end Go.Proofs.Ytpjhadhniokgjaa
