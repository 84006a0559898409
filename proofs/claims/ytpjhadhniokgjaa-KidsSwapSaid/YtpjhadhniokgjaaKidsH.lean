/-
  More contracts of chapter 16: row. (Printed by wip/gen/t16h.py of this repo.)
-/
import Derived.Test.YtpjhadhniokgjaaKidsG
import Derived.Test.YtpjhadhniokgjaaBaseN
namespace Go.Proofs.Ytpjhadhniokgjaa
open Go Go.SL Go.Proofs

theorem built37 (x : Int) : Try.prog.built 37 [(0, .int .u8 1), (2, .int .u32 x)] = some (ptC (1, 0, 0, x, 0)).toArray := by kernel_rfl
theorem built39 (a : Option Addr) (n c : Nat) (p : Pt) : Try.prog.built 39 [(0, .slice a n c), (1, .agg (ptC p).toArray)] = some (Value.slice a n c :: ptC p).toArray := by kernel_rfl
theorem built39' {v : Value} {n : Nat} (h : SV v n) (p : Pt) : Try.prog.built 39 [(0, v), (1, .agg (ptC p).toArray)] = some (v :: ptC p).toArray := by
  obtain ⟨a, c, rfl, _⟩ := h
  exact built39 a n c p
def rowK (ss : List (List UInt8)) (n : Nat) : List KD := (List.range n).map fun i => (ss.getD i [], ((1 : Int), (0 : Int), (0 : Int), ((i + 1 : Nat) : Int), (0 : Int)))
theorem rowK_step (ss : List (List UInt8)) {i : Nat} (hi : i < ss.length) : rowK ss (i + 1) = rowK ss i ++ [(ss[i], ((1 : Int), (0 : Int), (0 : Int), ((i + 1 : Nat) : Int), (0 : Int)))] := by
  unfold rowK
  rw [List.range_succ, List.map_append, List.map_singleton, List.getD_eq_getElem?_getD, List.getElem?_eq_getElem hi]; rfl

theorem c_row (s : Value) (ss : List (List UInt8)) (w : World) (hs : Rd w 1 s ss.length (ss.map strV)) (hsm : ∀ l ∈ ss, l.length ≤ maxLen) (hn : ss.length ≤ 1048576) : CT Try.prog 17 #[s] w fun v w' => ∃ es, NRd LK w' w.heap.size w'.heap.size v es ∧ es.map (·.2) = rowK ss ss.length ∧ Ext w w' := by
  obtain ⟨n0, hn0⟩ : ∃ n, n = w.heap.size := ⟨_, rfl⟩
  have hU : Upd (fun i => n0 ≤ i) w w := Upd.refl _ _
  have hs0 := hs
  have hsv := hs.sv
  refine CT_of Try.func17 rfl rfl rfl ?_
  refine W_seq ?_
  refine W_reg ?_
  refine L_op rfl (X_assign (v := (.slice none 0 0)) rfl ?_)
  refine L_nil ?_
  refine T_n ?_
  refine W_seq ?_
  refine W_reg ?_
  refine L_op rfl (X_assign (v := (.slice none 0 0)) rfl ?_)
  refine L_nil ?_
  refine T_n ?_
  refine W_seq ?_
  refine W_seq ?_
  refine W_reg ?_
  refine L_op rfl (X_assign (v := (.int .i64 (0))) rfl ?_)
  refine L_nil ?_
  refine T_n ?_
  refine W_block ?_
  refine W_loop (α := Nat × Value × List KE) [3, 4, 5, 6, 7, 8, 9, 10, 11, 12, 13, 14, 15, 16, 17, 18, 19, 20, 21, 22, 23] (fun ⟨i, u, es⟩ => [(3, u), (4, (.int .i64 (((i : Nat) : Int))))]) (fun ⟨i, u, es⟩ w_ => i ≤ ss.length ∧ RowJ n0 w_ 39 u es ∧ es.map (·.2) = rowK ss i ∧ Upd (fun i => n0 ≤ i) w w_) (fun ⟨i, u, es⟩ => ss.length - i) ⟨rfl, (0, .slice none 0 0, []), ⟨Nat.zero_le _, RowJ.nil _ _ _, rfl, hU⟩, Out.refl _ _, ⟨rfl, rfl, trivial⟩⟩ ?_
  rintro ⟨i, u, es⟩ w1 _ ⟨hil, hJ, hes, hU⟩
  have hsz_ := hU.size
  have hel : es.length = i := by have h := congrArg List.length hes; rw [List.length_map] at h; rw [h]; unfold rowK; rw [List.length_map, List.length_range]
  refine W_seq ?_
  refine W_seq ?_
  refine W_reg ?_
  refine L_op rfl (X_move (v := (.int .i64 (((i : Nat) : Int)))) rfl ?_)
  refine L_op rfl (X_move (v := s) rfl ?_)
  refine L_op rfl (X_len (v := s) (n := ss.length) Try.underlying58 rfl hsv ?_)
  by_cases hc2 : (((i : Nat) : Int) : Int) < (((ss.length : Nat) : Int))
  · refine L_op rfl (X_cmp (k := .i64) (a := ((i : Nat) : Int)) (b := ((ss.length : Nat) : Int)) (r := true) rfl rfl rfl (decide_eq_true (p := ((((i : Nat) : Int)) : Int) < ((((ss.length : Nat) : Int)) : Int)) (by omega)) ?_)
    have hi : i < ss.length := by omega
    refine L_nil ?_
    refine T_n ?_
    refine W_ct rfl ?_
    refine W_skip ?_
    refine T_n ?_
    refine W_seq ?_
    refine W_block ?_
    refine W_reg ?_
    refine L_op rfl (X_move (v := u) rfl ?_)
    refine L_op rfl (X_move (v := s) rfl ?_)
    refine L_op rfl (X_move (v := (.int .i64 (((i : Nat) : Int)))) rfl ?_)
    refine L_op rfl (X_idx (v := s) (n := ss.length) (k := .i64) (i := ((i : Nat) : Int)) S58 rfl hsv rfl (by omega) (by omega) ?_)
    have hsW := hs0.old (by decide) (hn0 ▸ hU)
    refine L_op rfl (X_load (v := strV (ss[i]'hi)) T9 rfl (hsW.cell (by rw [show (((i : Nat) : Int).toNat * 1) = i by omega, List.getElem?_map, List.getElem?_eq_getElem hi]; rfl)) ?_)
    refine L_op rfl (X_bytesStr (l := ss[i]'hi) Try.underlying9 Try.underlying23 Try.underlying5 rfl (hsm _ (List.getElem_mem hi)) ?_)
    intro kv w4 hkv hu4 hkb hz4
    replace hU := hU.trans (Ext.upd hu4)
    refine L_op rfl (X_move (v := (.int .i64 (((i : Nat) : Int)))) rfl ?_)
    refine L_op rfl (X_arith (k := .i64) (a := ((i : Nat) : Int)) (b := 1) (r := ((i + 1 : Nat) : Int)) rfl rfl rfl (iadd64 (by omega) (by omega) (by omega)) ?_)
    refine L_op rfl (X_convInt (k := .i64) (a := ((i + 1 : Nat) : Int)) (r := ((i + 1 : Nat) : Int)) (by rw [Try.underlying3]; rfl) Try.underlying34 rfl (u32_wrap (by omega) (by omega)) ?_)
    refine L_op rfl (X_build (built37 ((i + 1 : Nat) : Int)) ?_)
    refine L_op rfl (X_build (built39' hkv.sv ((1 : Int), (0 : Int), (0 : Int), ((i + 1 : Nat) : Int), (0 : Int))) ?_)
    refine L_op rfl (X_buildSliceL (vs := [.agg (kv :: ptC ((1 : Int), (0 : Int), (0 : Int), ((i + 1 : Nat) : Int), (0 : Int))).toArray]) (c := kv :: ptC ((1 : Int), (0 : Int), (0 : Int), ((i + 1 : Nat) : Int), (0 : Int))) S22 (by decide) rfl rfl (List.forall_mem_cons.2 ⟨rfl, fun _ h => by cases h⟩) rfl ?_)
    intro bl wl hnl
    have hbnl := hnl.num; have hbsl := hnl.size
    replace hU := hU.trans (Ext.upd hnl.ext)
    have hBl := hnl.blk
    have hX : Ext w1 wl := hu4.trans hnl.ext
    refine L_op rfl (X_append (B := n0) (n := es.length) (s := u) (x := .slice (some ⟨bl, 0, none⟩) 1 1) S22 ⟨_, Try.underlying22⟩ rfl rfl (hJ.own.ext hX) (m := 1) (ys := kv :: ptC ((1 : Int), (0 : Int), (0 : Int), ((i + 1 : Nat) : Int), (0 : Int))) (hBl.rd (o := 0) (n := 1) (c := 1) (sz := 6) (by decide) (by decide) rfl (fun j u hj => by rw [Nat.zero_add]; simpa using hj)) (hkv.sv.kone _) (by unfold maxLen; omega) (by omega) (by have := hX.size; have := hU.size; omega) ?_)
    intro v5 w5 hO5 hu5 ho5
    have hJ5 := hJ.push (e := (kv, ss[i]'hi, ((1 : Int), (0 : Int), (0 : Int), ((i + 1 : Nat) : Int), (0 : Int)))) hX ⟨hkv.ext hnl.ext, fun b hb => by have := hkb b hb; omega⟩ (by omega) hO5 hu5 ho5
    replace hU := hU.trans (hu5.mono fun i _ h => by have := (hJ.own.lt h).1; show n0 ≤ i; omega)
    refine L_op rfl (X_assign (v := v5) rfl ?_)
    refine L_nil ?_
    refine B_n ?_
    refine T_n ?_
    refine W_reg ?_
    refine L_op rfl (X_move (v := (.int .i64 (((i : Nat) : Int)))) rfl ?_)
    refine L_op rfl (X_arith (k := .i64) (a := ((i : Nat) : Int)) (b := 1) (r := ((i + 1 : Nat) : Int)) rfl rfl rfl (iadd64 (by omega) (by omega) (by omega)) ?_)
    refine L_op rfl (X_assign (v := (.int .i64 (((i + 1 : Nat) : Int)))) rfl ?_)
    refine L_nil ?_
    refine T_n ?_
    exact ⟨rfl, (i + 1, v5, es ++ [(kv, ss[i]'hi, ((1 : Int), (0 : Int), (0 : Int), ((i + 1 : Nat) : Int), (0 : Int)))]), ⟨⟨hi, hJ5, by rw [rowK_step ss hi, List.map_append, hes]; rfl, hU⟩, (by show ss.length - (i + 1) < ss.length - i; omega)⟩, (Out.mk rfl), ⟨rfl, rfl, trivial⟩⟩
  · refine L_op rfl (X_cmp (k := .i64) (a := ((i : Nat) : Int)) (b := ((ss.length : Nat) : Int)) (r := false) rfl rfl rfl (decide_eq_false (p := ((((i : Nat) : Int)) : Int) < ((((ss.length : Nat) : Int)) : Int)) (by omega)) ?_)
    obtain rfl : i = ss.length := by omega
    refine L_nil ?_
    refine T_n ?_
    refine W_cf rfl ?_
    refine W_exit ?_
    refine T_e ?_
    refine T_e ?_
    refine B_x ?_
    refine T_n ?_
    refine W_seq ?_
    refine W_reg ?_
    refine L_op rfl (X_move (v := u) rfl ?_)
    refine L_op rfl (X_assign (v := u) rfl ?_)
    refine L_nil ?_
    refine T_n ?_
    refine W_ret ?_
    exact BQ_r (End_1 Try.results17 (v := u) rfl ⟨es, hJ.rd.mono (by omega) (Nat.le_refl _), hes, hU.own hn0⟩)
end Go.Proofs.Ytpjhadhniokgjaa
