/-
  More contracts of chapter 16: Swap. (Printed by wip/gen/t16g.py of this repo.)
-/
import Derived.Test.YtpjhadhniokgjaaKidsF
namespace Go.Proofs.Ytpjhadhniokgjaa
open Go Go.SL Go.Proofs

theorem KeyOK.mem {es : List KE} (h : KeyOK es) : ∀ e ∈ es, e.2.1.length ≤ 140737488355328 := fun e he => by
  obtain ⟨j, hj, rfl⟩ := List.getElem_of_mem he
  exact h j _ (List.getElem?_eq_getElem hj)
theorem KeyOK.of {es : List KE} (h : ∀ e ∈ es, e.2.1.length ≤ 140737488355328) : KeyOK es := fun _ e he => h e (List.mem_of_getElem? he)
def swapI (n : Int) (N : Nat) : Nat := (min (max n 0) (max ((N : Int) - 1) 0)).toNat
theorem flR3 {a b c : Value} {x y z : List KE} : flR [(a, x), (b, y), (c, z)] = x ++ (y ++ z) := by simp [flR]
theorem drop_min {α : Type} {es : List α} {i : Nat} : (es.drop i).drop (min ((1 : Int)).toNat (es.length - i)) = es.drop (i + 1) := by
  rw [List.drop_drop]
  rcases Nat.lt_or_ge i es.length with h | h
  · rw [show min ((1 : Int)).toNat (es.length - i) = 1 by simp; omega]
  · rw [show es.length - i = 0 by omega, Nat.min_zero, Nat.add_zero, List.drop_eq_nil_of_le h, List.drop_eq_nil_of_le (by omega)]

theorem c_swap (l : Value) (n : Int) (t : Value) (es ms : List KE) (w : World) (lo up lo2 up2 : Nat) (hup : up ≤ w.heap.size) (hup2 : up2 ≤ w.heap.size) (hl : NRd LK w lo up l es) (ht : NRd LK w lo2 up2 t ms) (hkl : KeyOK es) (hkm : KeyOK ms) (hlen : es.length ≤ 549755813888) (hlen2 : ms.length ≤ 549755813888) : CT Try.prog 15 #[l, (.int .i64 (n)), t] w fun v w' => ∃ gs, NOwn LK w' 39 5 w.heap.size w'.heap.size v gs ∧ Dist gs ∧ gs.map (·.2) = bareK ((es.map (·.2)).take (swapI n es.length) ++ (ms.map (·.2) ++ (es.map (·.2)).drop (swapI n es.length + 1))) ∧ Ext w w' := by
  obtain ⟨n0, hn0⟩ : ∃ n, n = w.heap.size := ⟨_, rfl⟩
  have hU : Upd (fun i => n0 ≤ i) w w := Upd.refl _ _
  rw [← hn0] at hup hup2
  refine CT_of Try.func15 rfl rfl rfl ?_
  refine W_seq ?_
  refine W_reg ?_
  refine L_op rfl (X_assign (v := (.slice none 0 0)) rfl ?_)
  refine L_nil ?_
  refine T_n ?_
  refine W_seq ?_
  refine W_reg ?_
  refine L_op rfl (X_move (v := l) rfl ?_)
  refine L_op rfl (X_move (v := (.int .i64 (n))) rfl ?_)
  refine L_op rfl (X_max (k := .i64) (a := n) (b := 0) (r := max n 0) rfl rfl (by omega) ?_)
  refine L_op rfl (X_move (v := l) rfl ?_)
  refine L_op rfl (X_len (v := l) (n := es.length) Try.underlying22 rfl hl.sv ?_)
  refine L_op rfl (X_arith (k := .i64) (a := ((es.length : Nat) : Int)) (b := 1) (r := ((es.length : Nat) : Int) - 1) rfl rfl rfl (isub64 rfl (by omega) (by omega)) ?_)
  refine L_op rfl (X_max (k := .i64) (a := ((es.length : Nat) : Int) - 1) (b := 0) (r := max (((es.length : Nat) : Int) - 1) 0) rfl rfl (by omega) ?_)
  refine L_op rfl (X_min (k := .i64) (a := max n 0) (b := max (((es.length : Nat) : Int) - 1) 0) (r := min (max n 0) (max (((es.length : Nat) : Int) - 1) 0)) rfl rfl (by omega) ?_)
  have hK1 : min (min (max n 0) (max (((es.length : Nat) : Int) - 1) 0)).toNat es.length = swapI n es.length := by unfold swapI; omega
  have hKl : swapI n es.length ≤ es.length := by omega
  refine L_op rfl (X_fn (vs := [l, (.int .i64 (min (max n 0) (max (((es.length : Nat) : Int) - 1) 0)))]) en18 rfl (CT.mono (c_cut l _ es.length _ hl.sv) ?_))
  rintro vt w1 ⟨hvt, hu1⟩
  rw [hK1] at hvt; subst hvt
  have hz1 := hu1.size
  replace hl := hl.ext hu1
  replace ht := ht.ext hu1
  replace hU := hU.trans (Ext.upd hu1)
  refine L_op rfl (X_move (v := (.tuple #[(headv l (swapI n es.length) (swapI n es.length)), (cutv l 6 (swapI n es.length) es.length)])) rfl ?_)
  refine L_op rfl (X_extract (l := [(headv l (swapI n es.length) (swapI n es.length)), (cutv l 6 (swapI n es.length) es.length)]) (v := (headv l (swapI n es.length) (swapI n es.length))) rfl rfl ?_)
  refine L_op rfl (X_extract (l := [(headv l (swapI n es.length) (swapI n es.length)), (cutv l 6 (swapI n es.length) es.length)]) (v := (cutv l 6 (swapI n es.length) es.length)) rfl rfl ?_)
  refine L_op rfl (X_assign (v := (headv l (swapI n es.length) (swapI n es.length))) rfl ?_)
  refine L_op rfl (X_assign (v := (cutv l 6 (swapI n es.length) es.length)) rfl ?_)
  refine L_nil ?_
  refine T_n ?_
  refine W_seq ?_
  refine W_reg ?_
  refine L_op rfl (X_move (v := (cutv l 6 (swapI n es.length) es.length)) rfl ?_)
  refine L_op rfl (X_fn (vs := [(cutv l 6 (swapI n es.length) es.length), (.int .i64 (1))]) en18 rfl (CT.mono (c_cut _ 1 (es.drop (swapI n es.length)).length _ (hl.tail hKl).sv) ?_))
  rintro _ w2 ⟨rfl, hu2⟩
  have hz2 := hu2.size
  replace hl := hl.ext hu2
  replace ht := ht.ext hu2
  replace hU := hU.trans (Ext.upd hu2)
  have hR := (hl.tail hKl).tail (k := min ((1 : Int)).toNat (es.drop (swapI n es.length)).length) (by omega)
  rw [show (es.drop (swapI n es.length)).length = es.length - swapI n es.length from List.length_drop, drop_min] at hR
  rw [show (es.drop (swapI n es.length)).length = es.length - swapI n es.length from List.length_drop]
  refine L_op rfl (X_move (v := (.tuple #[(headv (cutv l 6 (swapI n es.length) es.length) (min ((1 : Int)).toNat (es.length - swapI n es.length)) (min ((1 : Int)).toNat (es.length - swapI n es.length))), (cutv (cutv l 6 (swapI n es.length) es.length) 6 (min ((1 : Int)).toNat (es.length - swapI n es.length)) (es.length - swapI n es.length))])) rfl ?_)
  refine L_op rfl (X_extract (l := [(headv (cutv l 6 (swapI n es.length) es.length) (min ((1 : Int)).toNat (es.length - swapI n es.length)) (min ((1 : Int)).toNat (es.length - swapI n es.length))), (cutv (cutv l 6 (swapI n es.length) es.length) 6 (min ((1 : Int)).toNat (es.length - swapI n es.length)) (es.length - swapI n es.length))]) (v := (headv (cutv l 6 (swapI n es.length) es.length) (min ((1 : Int)).toNat (es.length - swapI n es.length)) (min ((1 : Int)).toNat (es.length - swapI n es.length)))) rfl rfl ?_)
  refine L_op rfl (X_extract (l := [(headv (cutv l 6 (swapI n es.length) es.length) (min ((1 : Int)).toNat (es.length - swapI n es.length)) (min ((1 : Int)).toNat (es.length - swapI n es.length))), (cutv (cutv l 6 (swapI n es.length) es.length) 6 (min ((1 : Int)).toNat (es.length - swapI n es.length)) (es.length - swapI n es.length))]) (v := (cutv (cutv l 6 (swapI n es.length) es.length) 6 (min ((1 : Int)).toNat (es.length - swapI n es.length)) (es.length - swapI n es.length))) rfl rfl ?_)
  refine L_op rfl (X_assign (v := (headv (cutv l 6 (swapI n es.length) es.length) (min ((1 : Int)).toNat (es.length - swapI n es.length)) (min ((1 : Int)).toNat (es.length - swapI n es.length)))) rfl ?_)
  refine L_op rfl (X_assign (v := (cutv (cutv l 6 (swapI n es.length) es.length) 6 (min ((1 : Int)).toNat (es.length - swapI n es.length)) (es.length - swapI n es.length))) rfl ?_)
  refine L_nil ?_
  refine T_n ?_
  refine W_seq ?_
  refine W_reg ?_
  refine L_op rfl (X_move (v := (headv l (swapI n es.length) (swapI n es.length))) rfl ?_)
  refine L_op rfl (X_move (v := t) rfl ?_)
  refine L_op rfl (X_move (v := (cutv (cutv l 6 (swapI n es.length) es.length) 6 (min ((1 : Int)).toNat (es.length - swapI n es.length)) (es.length - swapI n es.length))) rfl ?_)
  refine L_op rfl (X_buildSlice1 (vs := [(headv l (swapI n es.length) (swapI n es.length)), t, (cutv (cutv l 6 (swapI n es.length) es.length) 6 (min ((1 : Int)).toNat (es.length - swapI n es.length)) (es.length - swapI n es.length))]) S62 (by decide) rfl rfl (List.forall_mem_cons.2 ⟨((hl.head hKl).sv.cells), (List.forall_mem_cons.2 ⟨(ht.sv.cells), (List.forall_mem_cons.2 ⟨(hR.sv.cells), (fun _ h => by cases h)⟩)⟩)⟩) ?_)
  intro b3 w3 hn3
  have hbn3 := hn3.num; have hbs3 := hn3.size
  replace hl := hl.ext hn3.ext
  replace ht := ht.ext hn3.ext
  replace hU := hU.trans (Ext.upd hn3.ext)
  replace hR := hR.ext hn3.ext
  have hB3 := hn3.blk
  obtain ⟨nw, hnw⟩ : ∃ n, n = w3.heap.size := ⟨_, rfl⟩
  refine L_op rfl (X_fn (vs := [(.slice (some ⟨b3, 0, none⟩) 3 3)]) en24 rfl (CT.mono (c_all _ 3 _ (hB3.own (B := 0) (n := 3) (c := 3) (sz := 1) (Nat.zero_le _) (Nat.le_refl _) (by decide) (Nat.le_refl 3)).sv) ?_))
  rintro _ w3 ⟨rfl, hA, hu3, hz3⟩
  rw [← hnw] at hA ⊢
  replace hl := hl.ext hu3
  replace ht := ht.ext hu3
  replace hU := hU.trans (Ext.upd hu3)
  replace hR := hR.ext hu3
  replace hB3 := hB3.ext hu3
  have hit := c_all1 (.slice (some ⟨b3, 0, none⟩) 3 3) [(headv l (swapI n es.length) (swapI n es.length), es.take (swapI n es.length)), (t, ms), (cutv (cutv l 6 (swapI n es.length) es.length) 6 (min ((1 : Int)).toNat (es.length - swapI n es.length)) (es.length - swapI n es.length), es.drop (swapI n es.length + 1))] nw w3 0 n0 (by omega) hA (hB3.rd (o := 0) (n := 3) (c := 3) (sz := 1) (by decide) (by decide) rfl (fun j u hj => by rw [Nat.zero_add]; simpa using hj)) (List.forall_mem_cons.2 ⟨(hl.head hKl).mono (Nat.zero_le _) hup, List.forall_mem_cons.2 ⟨ht.mono (Nat.zero_le _) hup2, List.forall_mem_cons.2 ⟨hR.mono (Nat.zero_le _) hup, fun _ h => by cases h⟩⟩⟩) (List.forall_mem_cons.2 ⟨fun e he => hkl.mem e (List.mem_of_mem_take he), List.forall_mem_cons.2 ⟨hkm.mem, List.forall_mem_cons.2 ⟨fun e he => hkl.mem e (List.mem_of_mem_drop he), fun _ h => by cases h⟩⟩⟩)
  rw [show flR [(headv l (swapI n es.length) (swapI n es.length), es.take (swapI n es.length)), (t, ms), (cutv (cutv l 6 (swapI n es.length) es.length) 6 (min ((1 : Int)).toNat (es.length - swapI n es.length)) (es.length - swapI n es.length), es.drop (swapI n es.length + 1))] = (es.take (swapI n es.length) ++ (ms ++ es.drop (swapI n es.length + 1))) from flR3] at hit
  refine L_op rfl (X_fn (vs := [(.func (.func 29) #[] #[ptr nw 0])]) en23 rfl (CT.mono (c_collect (lb := [ptr nw 0]) ((es.take (swapI n es.length) ++ (ms ++ es.drop (swapI n es.length + 1)))) _ hit en29 (Upd.refl _ _) (by rw [List.length_append, List.length_append, List.length_take, List.length_drop]; omega)) ?_))
  rintro v4 w4 ⟨fs, hN, hdi, hfs, hu4⟩
  have hz4 := hu4.size
  replace hl := hl.ext hu4
  replace ht := ht.ext hu4
  replace hU := hU.trans (Ext.upd hu4)
  replace hR := hR.ext hu4
  replace hB3 := hB3.ext hu4
  replace hA := hA.ext hu4
  rcases Nat.eq_zero_or_pos fs.length with hg | hg
  · refine L_op rfl (X_fn (vs := [v4, (.slice none 0 0)]) en20 rfl (CT.mono (c_named0 _ _ _ (hg ▸ hN.1.sv)) ?_))
    rintro _ _ ⟨rfl, rfl⟩
    have hG : fs.map (·.2) = bareK (fs.map (·.2)) := by rw [List.eq_nil_of_length_eq_zero hg]; rfl
    refine L_op rfl (X_assign (v := v4) rfl ?_)
    refine L_nil ?_
    refine T_n ?_
    refine W_ret ?_
    exact BQ_r (End_1 Try.results15 (v := v4) rfl ⟨fs, hN.mono (by omega) (by omega), hdi, by rw [hG, hfs, List.map_append, List.map_append, List.map_take, List.map_drop], hU.own hn0⟩)
  · obtain ⟨e, he⟩ : ∃ e, fs[0]? = some e := ⟨_, List.getElem?_eq_getElem hg⟩
    have hnm := c_named v4 (.slice none 0 0) fs e 0 [] _ n0 w4.heap.size (by omega) (by omega) (hN.mono (by omega) (by omega)) he (by decide) (Rd.nil _ 1)
    rw [cutv_all hN.1.sv] at hnm
    refine L_op rfl (X_fn (vs := [v4, .slice none 0 0]) en20 rfl (CT.mono hnm ?_))
    rintro r_ wn4 ⟨hr_, kv, hN2, hkv, hun4⟩
    have hr2_ := hr_.symm; subst hr2_
    have hzn4 := hun4.size
    replace hU := hU.trans (hun4.mono fun i _ h => by have := (hN.1.lt h).1; show n0 ≤ i; omega)
    have hdi2 : Dist (fs.set 0 (kv, [], e.2.2)) := hdi.set (m := w4.heap.size) (fun a ha k hk => (hN.2.2 a ha (a.1, a.2.1) (by simp [LK])).2 k hk |> fun h => by omega) hkv
    have hG : (fs.set 0 (kv, [], e.2.2)).map (·.2) = bareK (fs.map (·.2)) := by have h := set_drop he kv []; rwa [List.drop_zero, List.drop_zero, bare_name] at h
    refine L_op rfl (X_assign (v := v4) rfl ?_)
    refine L_nil ?_
    refine T_n ?_
    refine W_ret ?_
    exact BQ_r (End_1 Try.results15 (v := v4) rfl ⟨(fs.set 0 (kv, [], e.2.2)), hN2.mono (by omega) (by omega), hdi2, by rw [hG, hfs, List.map_append, List.map_append, List.map_take, List.map_drop], hU.own hn0⟩)
end Go.Proofs.Ytpjhadhniokgjaa
