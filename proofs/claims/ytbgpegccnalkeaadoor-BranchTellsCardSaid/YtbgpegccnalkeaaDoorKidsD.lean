/-
  The contracts of branches: kids read. (Printed by wip/gen/t07h.py of this repo.)
-/
import Derived.Test.YtbgpegccnalkeaaDoorKidsC
import Derived.Test.YtbgpegccnalkeaaDoorBaseK
import Derived.Test.YtbgpegccnalkeaaDoorBaseJ
namespace Go.Proofs.YtbgpegccnalkeaaDoor
open Go Go.SL Go.Proofs
set_option linter.unusedVariables false

def kidV (e : KE) : Value := .agg (e.1 :: ptC e.2.2).toArray
/-- the kids that bytes tell, each with the bytes behind it; at most n -/
def parseK : List UInt8 → Nat → List (KD × List UInt8)
  | _, 0 => []
  | b, n + 1 => if takeE b 8 = 0 ∧ takeQE (takeR b 8) = 0 then ((takeS b 8, takeQ (takeR b 8)), takeQR (takeR b 8)) :: parseK (takeQR (takeR b 8)) n else []
theorem parse_yes {b : List UInt8} {n : Nat} (h : takeE b 8 = 0 ∧ takeQE (takeR b 8) = 0) : parseK b (n + 1) = ((takeS b 8, takeQ (takeR b 8)), takeQR (takeR b 8)) :: parseK (takeQR (takeR b 8)) n := if_pos h
theorem parse_no {b : List UInt8} {n : Nat} (h : ¬ (takeE b 8 = 0 ∧ takeQE (takeR b 8) = 0)) : parseK b (n + 1) = [] := if_neg h
theorem parse_len : ∀ (n : Nat) (b : List UInt8), (parseK b n).length ≤ n
  | 0, _ => Nat.le_refl _
  | n + 1, b => by
    unfold parseK
    split
    · rw [List.length_cons]; exact Nat.succ_le_succ (parse_len n _)
    · exact Nat.zero_le _
theorem parse_ok : ∀ (n : Nat) (b : List UInt8), ∀ x ∈ parseK b n, PtOk x.1.2
  | 0, _, x, h => by cases h
  | n + 1, b, x, h => by
    unfold parseK at h
    split at h
    · rcases List.mem_cons.1 h with rfl | h
      · exact takeQ_ok _
      · exact parse_ok n _ x h
    · cases h
theorem drop_head {α : Type} {l m : List α} {i : Nat} {x : α} (h : x :: m = l.drop i) : i < l.length ∧ l[i]? = some x ∧ m = l.drop (i + 1) := by
  have hi : i < l.length := by
    rcases Nat.lt_or_ge i l.length with h1 | h1
    · exact h1
    · rw [List.drop_of_length_le h1] at h; cases h
  rw [List.drop_eq_getElem_cons hi] at h
  injection h with h1 h2
  exact ⟨hi, by rw [List.getElem?_eq_getElem hi, h1], h2⟩
theorem drop_none {α : Type} {l : List α} {i : Nat} (h : [] = l.drop i) (hi : i ≤ l.length) : i = l.length := by
  have := congrArg List.length h
  rw [List.length_drop, List.length_nil] at this
  omega
theorem built44 (a : Option Addr) (n c : Nat) (p : Pt) : Tryd.prog.built 44 [(0, .slice a n c), (1, .agg (ptC p).toArray)] = some (Value.slice a n c :: ptC p).toArray := by kernel_rfl
theorem built44' {v : Value} {n : Nat} (h : SV v n) (p : Pt) : Tryd.prog.built 44 [(0, v), (1, .agg (ptC p).toArray)] = some (v :: ptC p).toArray := by
  obtain ⟨a, c, rfl, _⟩ := h
  exact built44 a n c p
/-- what a round over the kids of bytes is handed -/
def YP (r0 : Value) (ps : List (KD × List UInt8)) : Nat → List Value → World → World → Prop := fun k x W0 W => ∃ kv r d t, ps[k]? = some (d, t) ∧ x = [kidV (kv, d), r] ∧ BOwn W 5 W0.heap.size W.heap.size (kv, d.1) ∧ Rd W 1 r t.length (t.map byteV) ∧ ∀ b, rbk r = some b → rbk r0 = some b

theorem c_read (s : Value) (n : Nat) (m : Int) (w : World) (hs : SV s n) : CT Tryd.prog 28 #[s, (.int .i64 (m))] w fun v w' => v = .func (.func 41) #[] #[ptr (w.heap.size + 1) 0, ptr w.heap.size 0] ∧ Blk w' w.heap.size #[s] 42 ∧ Blk w' (w.heap.size + 1) #[.int .i64 m] 3 ∧ Ext w w' ∧ w'.heap.size = w.heap.size + 2 := by
  obtain ⟨n0, hn0⟩ : ∃ n, n = w.heap.size := ⟨_, rfl⟩
  have hU : Upd (fun i => n0 ≤ i) w w := Upd.refl _ _
  refine CT_of Tryd.func28 rfl rfl rfl ?_
  refine W_seq ?_
  refine W_reg ?_
  refine L_op rfl (X_box (v := s) (c := #[s]) rfl (hs.cells) ?_)
  intro b1 w1 hn1
  have hbn1 := hn1.num; have hbs1 := hn1.size
  replace hU := hU.trans (Ext.upd hn1.ext)
  have hB1 := hn1.blk
  refine L_op rfl (X_box (v := (.int .i64 (m))) (c := #[(.int .i64 (m))]) rfl rfl ?_)
  intro b2 w2 hn2
  have hbn2 := hn2.num; have hbs2 := hn2.size
  replace hU := hU.trans (Ext.upd hn2.ext)
  replace hB1 := hB1.ext hn2.ext
  have hB2 := hn2.blk
  refine L_op rfl (X_assign (v := .nilFunc) rfl ?_)
  refine L_nil ?_
  refine T_n ?_
  refine W_seq ?_
  refine W_reg ?_
  refine L_op rfl (X_makeFunc (vs := [ptr b2 0, ptr b1 0]) rfl ?_)
  refine L_op rfl (X_assign (v := (.func (.func 41) #[] #[ptr b2 0, ptr b1 0])) rfl ?_)
  refine L_nil ?_
  refine T_n ?_
  refine W_ret ?_
  exact BQ_r (End_1 Tryd.results28 (v := .func (.func 41) #[] #[ptr b2 0, ptr b1 0]) rfl ⟨by rw [hbn2, hbs1, hbn1], hbn1 ▸ hB1, by rw [← hbn1]; exact (show b2 = b1 + 1 by omega) ▸ hB2, hU.own hn0, by omega⟩)

theorem c_read1 (r0 : Value) (b0 : List UInt8) (N xb xm : Nat) (w : World) (hN : N < 4294967296) (hM : Blk w xm #[.int .i64 ((N : Nat) : Int)] 3) (hB : Blk w xb #[r0] 42) (hR : Rd w 1 r0 b0.length (b0.map byteV)) (hlt : ∀ b, rbk r0 = some b → b < xb) (hx : xm = xb + 1) (hx0 : 0 < xb) (hT : TabR w) :
    IterG Tryd.prog 41 [ptr xm 0, ptr xb 0] (parseK b0 N).length (YP r0 (parseK b0 N)) w (fun b => b = xm ∨ b = xb ∨ b = 0 ∨ rbk r0 = some b) (fun b => b = xb) := by
  intro lp J Jx W Db hu0 hDb hJs hJxs hy hJ0
  have hM := hM.upd hu0 fun h => h (.inl rfl)
  have hB := hB.upd hu0 fun h => h (.inr (.inl rfl))
  have hR := hR.upd hu0 fun i hi h => h (.inr (.inr (.inr hi)))
  have hT := hT.upd hu0 fun i h1 h2 h => h (.inr (.inr (.inl (by omega))))
  show CT Tryd.prog 41 #[.func (.yield lp) #[] #[], ptr xm 0, ptr xb 0] W _
  refine CT_of Tryd.func41 rfl rfl rfl ?_
  refine W_scopeQ ?_
  refine W_seq ?_
  refine W_label ?_
  refine T_n ?_
  refine W_seq ?_
  refine W_reg ?_
  refine L_op rfl (X_load (p := (ptr xm (0))) (v := (.int .i64 (((N : Nat) : Int)))) T3 rfl (hM.at1 rfl) ?_)
  refine L_op rfl (X_move (v := (.int .i64 (0))) rfl ?_)
  refine L_nil ?_
  refine T_n ?_
  refine W_block ?_
  refine W_loop (α := Nat × Value × List UInt8) [4, 5, 6, 7, 9, 10, 11, 12, 13, 14, 15, 16, 17, 18, 19, 20, 21, 22, 23, 24, 25, 26, 27, 28, 29, 30, 31, 32, 33, 34, 35, 36, 37] (fun ⟨i, r, bi⟩ => [(9, (.int .i64 (((i : Nat) : Int))))]) (fun ⟨i, r, bi⟩ w_ => i ≤ N ∧ i ≤ (parseK b0 N).length ∧ J i w_ ∧ parseK bi (N - i) = (parseK b0 N).drop i ∧ Blk w_ xm #[.int .i64 ((N : Nat) : Int)] 3 ∧ Blk w_ xb #[r] 42 ∧ Rd w_ 1 r bi.length (bi.map byteV) ∧ (∀ b, rbk r = some b → rbk r0 = some b) ∧ TabR w_) (fun ⟨i, r, bi⟩ => N - i) ⟨rfl, (0, r0, b0), ⟨Nat.zero_le _, Nat.zero_le _, hJ0, rfl, hM, hB, hR, fun b hb => hb, hT⟩, Out.refl _ _, ⟨rfl, trivial⟩⟩ ?_
  rintro ⟨i, r, bi⟩ w1 _ ⟨hiN, hil, hJ, hps, hM, hB, hR, hrb, hT⟩
  have hX := Upd.refl (fun b => b = xb) w1
  have hr_b : ∀ b, rbk r = some b → b < xb := fun b hb => hlt b (hrb b hb)
  have hxm := hM.lt; have hxb := hB.lt
  refine W_seq ?_
  refine W_reg ?_
  by_cases hc2 : (((i : Nat) : Int) : Int) < (((N : Nat) : Int))
  · refine L_op rfl (X_cmp (k := .i64) (a := ((i : Nat) : Int)) (b := ((N : Nat) : Int)) (r := true) rfl rfl rfl (decide_eq_true (p := ((((i : Nat) : Int)) : Int) < ((((N : Nat) : Int)) : Int)) (by omega)) ?_)
    have hi : i < N := by omega
    rw [show N - i = (N - (i + 1)) + 1 by omega] at hps
    refine L_nil ?_
    refine T_n ?_
    refine W_seq ?_
    refine W_ct rfl ?_
    refine W_skip ?_
    refine T_n ?_
    refine W_seq ?_
    refine W_block ?_
    refine W_seq ?_
    refine W_reg ?_
    refine L_op rfl (X_load (p := (ptr xb (0))) (v := r) T42 rfl (hB.at1 rfl) ?_)
    obtain ⟨sT, hsT⟩ : ∃ n, n = w1.heap.size := ⟨_, rfl⟩
    refine L_op rfl (X_fn (vs := [r, (.int .i64 (8))]) en42 rfl (CT.mono (c_takeBytes r bi 8 _ hR) ?_))
    rintro _ w3 ⟨s, r1, rfl, hOs, hRr, hrb1, hu3⟩
    have hz3 := hu3.size
    rw [← hsT] at hOs
    replace hM := hM.ext hu3
    replace hB := hB.ext hu3
    replace hR := hR.ext hu3
    replace hT := hT.ext hu3
    replace hX := hX.trans (Ext.upd hu3)
    have hOs_c : ∀ b, obk s = some b → sT ≤ b ∧ b < w3.heap.size := fun b hb => hOs.lt hb
    have hRr_b : ∀ b, rbk r1 = some b → b < xb := fun b hb => hr_b b (hrb1 b hb)
    refine L_op rfl (X_move (v := (.tuple #[s, r1, (.int .i64 ((takeE bi 8)))])) rfl ?_)
    refine L_op rfl (X_extract (l := [s, r1, (.int .i64 ((takeE bi 8)))]) (v := s) rfl rfl ?_)
    refine L_op rfl (X_extract (l := [s, r1, (.int .i64 ((takeE bi 8)))]) (v := r1) rfl rfl ?_)
    refine L_op rfl (X_extract (l := [s, r1, (.int .i64 ((takeE bi 8)))]) (v := (.int .i64 ((takeE bi 8)))) rfl rfl ?_)
    refine L_op rfl (X_assign (v := s) rfl ?_)
    refine L_op rfl (X_assign (v := r1) rfl ?_)
    refine L_op rfl (X_assign (v := (.int .i64 ((takeE bi 8)))) rfl ?_)
    refine L_nil ?_
    refine T_n ?_
    refine W_seq ?_
    refine W_seq ?_
    refine W_reg ?_
    refine L_op rfl (X_move (v := (.int .i64 ((takeE bi 8)))) rfl ?_)
    by_cases hc4 : ((takeE bi 8) : Int) ≠ (0)
    · refine L_op rfl (X_cmp (k := .i64) (a := (takeE bi 8)) (b := 0) (r := true) rfl rfl rfl (decide_eq_true (p := (((takeE bi 8)) : Int) ≠ ((0) : Int)) (by omega)) ?_)
      refine L_nil ?_
      refine T_n ?_
      refine W_ct rfl ?_
      refine W_exit ?_
      refine T_e ?_
      refine B_e rfl ?_
      refine T_e ?_
      refine T_e ?_
      refine B_x ?_
      refine S_n ?_
      rw [parse_no (fun h => by omega)] at hps
      have hJ9 := hJs _ _ _ hJ hX
      have hin := drop_none hps hil
      exact BQ_n (End_0 Tryd.results41 (.inl (hin ▸ hJ9)))
    · refine L_op rfl (X_cmp (k := .i64) (a := (takeE bi 8)) (b := 0) (r := false) rfl rfl rfl (decide_eq_false (p := (((takeE bi 8)) : Int) ≠ ((0) : Int)) (by omega)) ?_)
      refine L_nil ?_
      refine T_n ?_
      refine W_cf rfl ?_
      refine W_skip ?_
      refine T_n ?_
      refine W_seq ?_
      refine W_reg ?_
      refine L_op rfl (X_move (v := r1) rfl ?_)
      refine L_op rfl (X_fn (vs := [r1]) en43 rfl (CT.mono (c_ptrTake r1 (takeR bi 8) _ hRr hT) ?_))
      rintro _ w5 ⟨r2, rfl, hR2, hrb2, hu5⟩
      have hz5 := hu5.size
      replace hM := hM.ext hu5
      replace hB := hB.ext hu5
      replace hR := hR.ext hu5
      replace hT := hT.ext hu5
      replace hX := hX.trans (Ext.upd hu5)
      replace hOs := hOs.ext hu5
      have hR2_b : ∀ b, rbk r2 = some b → b < xb := fun b hb => hRr_b b (hrb2 b hb)
      refine L_op rfl (X_move (v := (.tuple #[(.agg (ptC (takeQ (takeR bi 8))).toArray), r2, (.int .i64 ((takeQE (takeR bi 8))))])) rfl ?_)
      refine L_op rfl (X_extract (l := [(.agg (ptC (takeQ (takeR bi 8))).toArray), r2, (.int .i64 ((takeQE (takeR bi 8))))]) (v := (.agg (ptC (takeQ (takeR bi 8))).toArray)) rfl rfl ?_)
      refine L_op rfl (X_extract (l := [(.agg (ptC (takeQ (takeR bi 8))).toArray), r2, (.int .i64 ((takeQE (takeR bi 8))))]) (v := r2) rfl rfl ?_)
      refine L_op rfl (X_extract (l := [(.agg (ptC (takeQ (takeR bi 8))).toArray), r2, (.int .i64 ((takeQE (takeR bi 8))))]) (v := (.int .i64 ((takeQE (takeR bi 8))))) rfl rfl ?_)
      refine L_op rfl (X_alloc (z := (.agg #[(.int .u8 (0)), (.int .u16 (0)), (.int .u16 (0)), (.int .u32 (0)), (.int .u64 (0))])) (c := #[(.int .u8 (0)), (.int .u16 (0)), (.int .u16 (0)), (.int .u32 (0)), (.int .u64 (0))]) Zv41 rfl ?_)
      intro b6 w6 hn6
      have hbn6 := hn6.num; have hbs6 := hn6.size
      replace hM := hM.ext hn6.ext
      replace hB := hB.ext hn6.ext
      replace hR := hR.ext hn6.ext
      replace hT := hT.ext hn6.ext
      replace hX := hX.trans (Ext.upd hn6.ext)
      replace hOs := hOs.ext hn6.ext
      replace hR2 := hR2.ext hn6.ext
      have hB6 := hn6.blk
      refine L_op0 (X_storeW (b := b6) (ys := [(.int .u8 ((takeQ (takeR bi 8)).1)), (.int .u16 ((takeQ (takeR bi 8)).2.1)), (.int .u16 ((takeQ (takeR bi 8)).2.2.1)), (.int .u32 ((takeQ (takeR bi 8)).2.2.2.1)), (.int .u64 ((takeQ (takeR bi 8)).2.2.2.2))]) A41 rfl rfl (List.forall_mem_cons.2 ⟨rfl, (List.forall_mem_cons.2 ⟨rfl, (List.forall_mem_cons.2 ⟨rfl, (List.forall_mem_cons.2 ⟨rfl, (List.forall_mem_cons.2 ⟨rfl, (fun _ h => by cases h)⟩)⟩)⟩)⟩)⟩) rfl hB6 rfl ?_)
      intro w7 hu7 hb7
      have hz7 := hu7.size
      replace hM := hM.upd hu7 fun h => by have h : xm = b6 := h; omega
      replace hB := hB.upd hu7 fun h => by have h : xb = b6 := h; omega
      replace hR := hR.upd hu7 fun i hi h => by have hi := hr_b _ hi; have h : i = b6 := h; omega
      replace hT := hT.upd hu7 fun i h1 h2 h => by have h : i = b6 := h; omega
      replace hX := hX.comp hu7 (fun _ _ h => h) fun i hi h => by have h : i = b6 := h; show i = xb; omega
      replace hOs := hOs.upd hu7 fun i hi h => by have hi := hOs_c _ hi; have h : i = b6 := h; omega
      replace hR2 := hR2.upd hu7 fun i hi h => by have hi := hR2_b _ hi; have h : i = b6 := h; omega
      replace hB6 : Blk w7 b6 #[(.int .u8 ((takeQ (takeR bi 8)).1)), (.int .u16 ((takeQ (takeR bi 8)).2.1)), (.int .u16 ((takeQ (takeR bi 8)).2.2.1)), (.int .u32 ((takeQ (takeR bi 8)).2.2.2.1)), (.int .u64 ((takeQ (takeR bi 8)).2.2.2.2))] 41 := hb7
      refine L_op rfl (X_assign (v := r2) rfl ?_)
      refine L_op rfl (X_assign (v := (.int .i64 ((takeQE (takeR bi 8))))) rfl ?_)
      refine L_nil ?_
      refine T_n ?_
      refine W_seq ?_
      refine W_reg ?_
      refine L_op rfl (X_move (v := r2) rfl ?_)
      refine L_op0 (X_store (b := xb) (o := 0) T42 rfl rfl (hR2.sv.one) hB (by show (0 : Nat) < 1; decide) ?_)
      intro w8 hu8 hb8
      have hz8 := hu8.size
      replace hM := hM.upd hu8 fun h => by have h : xm = xb := h; omega
      replace hR := hR.upd hu8 fun i hi h => by have hi := hr_b _ hi; have h : i = xb := h; omega
      replace hT := hT.upd hu8 fun i h1 h2 h => by have h : i = xb := h; omega
      replace hX := hX.comp hu8 (fun _ _ h => h) fun i hi h => by have h : i = xb := h; show i = xb; omega
      replace hOs := hOs.upd hu8 fun i hi h => by have hi := hOs_c _ hi; have h : i = xb := h; omega
      replace hR2 := hR2.upd hu8 fun i hi h => by have hi := hR2_b _ hi; have h : i = xb := h; omega
      replace hB6 := hB6.upd hu8 fun h => by have h : b6 = xb := h; omega
      replace hB : Blk w8 xb #[r2] 42 := hb8
      refine L_nil ?_
      refine T_n ?_
      refine W_seq ?_
      refine W_reg ?_
      refine L_op rfl (X_move (v := (.int .i64 ((takeQE (takeR bi 8))))) rfl ?_)
      by_cases hc9 : ((takeQE (takeR bi 8)) : Int) ≠ (0)
      · refine L_op rfl (X_cmp (k := .i64) (a := (takeQE (takeR bi 8))) (b := 0) (r := true) rfl rfl rfl (decide_eq_true (p := (((takeQE (takeR bi 8))) : Int) ≠ ((0) : Int)) (by omega)) ?_)
        refine L_op rfl (X_move (v := (.bool (true))) rfl ?_)
        refine L_gn (dj := 28) (t := true) rfl rfl rfl rfl ?_
        refine L_gn (dj := 28) (t := true) rfl rfl rfl rfl ?_
        refine L_gn (dj := 28) (t := true) rfl rfl rfl rfl ?_
        refine L_gn (dj := 28) (t := true) rfl rfl rfl rfl ?_
        refine L_gn (dj := 28) (t := true) rfl rfl rfl rfl ?_
        refine L_gn (dj := 28) (t := true) rfl rfl rfl rfl ?_
        refine L_gn (dj := 28) (t := true) rfl rfl rfl rfl ?_
        refine L_op rfl (X_pick (t := true) (v := (.bool (true))) rfl rfl ?_)
        refine L_nil ?_
        refine T_n ?_
        refine W_ct rfl ?_
        refine W_exit ?_
        refine B_e rfl ?_
        refine T_e ?_
        refine T_e ?_
        refine B_x ?_
        refine S_n ?_
        rw [parse_no (fun h => by omega)] at hps
        have hJ9 := hJs _ _ _ hJ hX
        have hin := drop_none hps hil
        exact BQ_n (End_0 Tryd.results41 (.inl (hin ▸ hJ9)))
      · refine L_op rfl (X_cmp (k := .i64) (a := (takeQE (takeR bi 8))) (b := 0) (r := false) rfl rfl rfl (decide_eq_false (p := (((takeQE (takeR bi 8))) : Int) ≠ ((0) : Int)) (by omega)) ?_)
        refine L_op rfl (X_move (v := (.bool (false))) rfl ?_)
        refine L_gy (dj := 28) rfl rfl rfl (X_move (v := (.func (.yield lp) #[] #[])) rfl ?_)
        refine L_gy (dj := 28) rfl rfl rfl (X_move (v := s) rfl ?_)
        refine L_gy (dj := 28) rfl rfl rfl (X_loadA (p := (ptr b6 (0))) (xs := ptC (takeQ (takeR bi 8))) A41 rfl hB6.atAll rfl ?_)
        refine L_gy (dj := 28) rfl rfl rfl (X_build (built44' hOs.sv (takeQ (takeR bi 8))) ?_)
        refine L_gy (dj := 28) rfl rfl rfl (X_move (v := r2) rfl ?_)
        rw [parse_yes ⟨by omega, by omega⟩] at hps
        obtain ⟨hil2, hat, hps2⟩ := drop_head hps
        have hYP : YP r0 (parseK b0 N) i [(kidV (s, takeS bi 8, takeQ (takeR bi 8))), r2] w1 w8 := ⟨s, r2, _, _, hat, rfl, ⟨hOs.more (by omega), fun b hb => (hOs.lt hb).2⟩, hR2, fun b hb => hrb b (hrb1 b (hrb2 b hb))⟩
        refine L_gy (dj := 28) rfl rfl rfl (X_yield (vs := [(kidV (s, takeS bi 8, takeQ (takeR bi 8))), r2]) rfl rfl (YieldC.mono (hy i _ _ _ ⟨hil2, hYP⟩ hJ hX) ?_))
        rintro _ W2 (⟨rfl, hJ2, hu⟩ | ⟨rfl, hJx⟩)
        · replace hM := hM.upd hu fun h => hDb _ h (.inl rfl)
          replace hB := hB.upd hu fun h => hDb _ h (.inr (.inl rfl))
          replace hR2 := hR2.upd hu fun i hi h => hDb _ h (.inr (.inr (.inr (hrb i (hrb1 i (hrb2 i hi))))))
          replace hT := hT.upd hu fun i h1 h2 h => hDb _ h (.inr (.inr (.inl (by omega))))
          refine L_gy (dj := 28) rfl rfl rfl (X_not (b := true) (r := false) rfl rfl ?_)
          refine L_op rfl (X_pick (t := false) (v := (.bool (false))) rfl rfl ?_)
          refine L_nil ?_
          refine T_n ?_
          refine W_cf rfl ?_
          refine W_skip ?_
          refine B_n ?_
          refine T_n ?_
          refine W_reg ?_
          refine L_op rfl (X_arith (k := .i64) (a := ((i : Nat) : Int)) (b := 1) (r := ((i + 1 : Nat) : Int)) rfl rfl rfl (iadd64 (by omega) (by omega) (by omega)) ?_)
          refine L_op rfl (X_move (v := (.int .i64 (((i + 1 : Nat) : Int)))) rfl ?_)
          refine L_nil ?_
          refine T_n ?_
          exact ⟨rfl, (i + 1, r2, takeQR (takeR bi 8)), ⟨⟨hi, hil2, hJ2, hps2, hM, hB, hR2, fun b hb => hrb b (hrb1 b (hrb2 b hb)), hT⟩, (by show N - (i + 1) < N - i; omega)⟩, (Out.mk rfl), ⟨rfl, trivial⟩⟩
        · refine L_gy (dj := 28) rfl rfl rfl (X_not (b := false) (r := true) rfl rfl ?_)
          refine L_op rfl (X_pick (t := false) (v := (.bool (true))) rfl rfl ?_)
          refine L_nil ?_
          refine T_n ?_
          refine W_ct rfl ?_
          refine W_exit ?_
          refine B_e rfl ?_
          refine T_e ?_
          refine T_e ?_
          refine B_x ?_
          refine S_n ?_
          exact BQ_n (End_0 Tryd.results41 (.inr ⟨i, hil2, hJx⟩))
  · refine L_op rfl (X_cmp (k := .i64) (a := ((i : Nat) : Int)) (b := ((N : Nat) : Int)) (r := false) rfl rfl rfl (decide_eq_false (p := ((((i : Nat) : Int)) : Int) < ((((N : Nat) : Int)) : Int)) (by omega)) ?_)
    refine L_nil ?_
    refine T_n ?_
    refine W_seq ?_
    refine W_cf rfl ?_
    refine W_exit ?_
    refine T_e ?_
    refine T_e ?_
    refine B_x ?_
    refine S_n ?_
    rw [show N - i = 0 by omega] at hps
    have hJ9 := hJ
    have hin := drop_none hps hil
    exact BQ_n (End_0 Tryd.results41 (.inl (hin ▸ hJ9)))
end Go.Proofs.YtbgpegccnalkeaaDoor
