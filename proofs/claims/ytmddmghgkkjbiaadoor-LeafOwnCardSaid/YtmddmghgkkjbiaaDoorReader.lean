/-
  The contracts of leaves: the reader. (Printed by wip/gen/t06h.py of this repo.)
-/
import Derived.Test.YtmddmghgkkjbiaaDoorItemsC
import Derived.Test.YtmddmghgkkjbiaaDoorBaseGV
namespace Go.Proofs.YtmddmghgkkjbiaaDoor
open Go Go.SL Go.Proofs
set_option linter.unusedVariables false

abbrev RS := List UInt8 × Int
def rdB (st : RS) (m : Int) : List UInt8 × RS := if st.2 = 0 then (takeS st.1 m, (takeR st.1 m, takeE st.1 m)) else ([], st)
def rdN (st : RS) (m : Int) : Nat × RS := if st.2 = 0 then (takeV st.1 (wideN m), (restB st.1 (wideN m), if st.1.length < wideN m then 20 else 0)) else (0, st)
/-- one item, read -/
def stepI (st : RS) : ID × RS :=
  match rdB st 8 with
  | (K, s1) => match rdN s1 1 with
    | (k, s2) => if k = 0 then (match rdB s2 16 with | (v, s3) => ((K, v, ptZ, 0), s3))
      else if k = 1 then (match rdN s2 2 with | (n, s3) => if s3.2 = 0 then ((K, [], takeQ s3.1, (n : Int)), (takeQR s3.1, takeQE s3.1)) else ((K, [], ptZ, (n : Int)), s3))
      else ((K, [], ptZ, 0), (s2.1, 50))
/-- at most n items, read -/
def itemsI : RS → Nat → List ID × RS
  | st, 0 => ([], st)
  | st, n + 1 => match stepI st with | (d, s) => if s.2 = 0 then (d :: (itemsI s n).1, (itemsI s n).2) else ([], s)
theorem items_yes {st : RS} {n : Nat} {d : ID} {s : RS} (h : stepI st = (d, s)) (h0 : s.2 = 0) : itemsI st (n + 1) = (d :: (itemsI s n).1, (itemsI s n).2) := by
  show (match stepI st with | (d, s) => if s.2 = 0 then (d :: (itemsI s n).1, (itemsI s n).2) else ([], s)) = _
  rw [h]; exact if_pos h0
theorem items_no {st : RS} {n : Nat} {d : ID} {s : RS} (h : stepI st = (d, s)) (h0 : s.2 ≠ 0) : itemsI st (n + 1) = ([], s) := by
  show (match stepI st with | (d, s) => if s.2 = 0 then (d :: (itemsI s n).1, (itemsI s n).2) else ([], s)) = _
  rw [h]; exact if_neg h0
theorem items_len : ∀ (n : Nat) (st : RS), (itemsI st n).1.length ≤ n ∧ ((itemsI st n).2.2 ≠ 0 → st.2 = 0 → (itemsI st n).1.length < n)
  | 0, st => ⟨Nat.le_refl _, fun h h0 => absurd h0 h⟩
  | n + 1, st => by
    obtain ⟨⟨d, s⟩, hs⟩ : ∃ x, stepI st = x := ⟨_, rfl⟩
    by_cases h : s.2 = 0
    · rw [items_yes hs h]
      have ih := items_len n s
      exact ⟨Nat.succ_le_succ ih.1, fun h1 _ => Nat.succ_lt_succ (ih.2 h1 h)⟩
    · rw [items_no hs h]
      exact ⟨Nat.zero_le _, fun _ _ => Nat.succ_pos _⟩
theorem step_ok (st : RS) : ItOk (stepI st).1 := by
  unfold stepI
  obtain ⟨⟨K, s1⟩, h1⟩ : ∃ x, rdB st 8 = x := ⟨_, rfl⟩
  rw [h1]
  dsimp only
  obtain ⟨⟨k, s2⟩, h2⟩ : ∃ x, rdN s1 1 = x := ⟨_, rfl⟩
  rw [h2]
  dsimp only
  split
  · exact ⟨ptZ_ok, (Int.le_refl 0 : (0 : Int) ≤ 0), (by decide : (0 : Int) < 65536)⟩
  · split
    · have hn : (rdN s2 2).1 < 65536 := by
        unfold rdN
        split
        · exact takeV_lt s2.1 (wideN 2)
        · exact (by decide : 0 < 65536)
      obtain ⟨⟨n, s3⟩, h3⟩ : ∃ x, rdN s2 2 = x := ⟨_, rfl⟩
      rw [h3] at hn ⊢
      dsimp only at hn ⊢
      split
      · exact ⟨takeQ_ok _, by show (0 : Int) ≤ (n : Int); omega, by show (n : Int) < 65536; omega⟩
      · exact ⟨ptZ_ok, by show (0 : Int) ≤ (n : Int); omega, by show (n : Int) < 65536; omega⟩
    · exact ⟨ptZ_ok, (Int.le_refl 0 : (0 : Int) ≤ 0), (by decide : (0 : Int) < 65536)⟩
theorem items_ok : ∀ (n : Nat) (st : RS), ∀ d ∈ (itemsI st n).1, ItOk d
  | 0, _, d, h => by cases h
  | n + 1, st, d, h => by
    obtain ⟨⟨d', s⟩, hs⟩ : ∃ x, stepI st = x := ⟨_, rfl⟩
    have hd := step_ok st
    rw [hs] at hd
    by_cases h0 : s.2 = 0
    · rw [items_yes hs h0] at h
      rcases List.mem_cons.1 h with rfl | h
      · exact hd
      · exact items_ok n s d h
    · rw [items_no hs h0] at h; cases h
def tup2 : Value → Value
  | .tuple a => a.getD 1 undef
  | _ => undef

theorem c_rbytes (br : Nat) (r : Value) (bi : List UInt8) (e m : Int) (K : List UInt8) (B : List UInt8) (E : Int) (w : World) (hB : Blk w br #[r, .int .i64 e] 55) (hR : Rd w 1 r bi.length (bi.map byteV)) (hlt : ∀ b, rbk r = some b → b < br) (h : rdB (bi, e) m = (K, (B, E))) : CT Tryd.prog 46 #[(ptr br (0)), (.int .i64 (m))] w fun v w' => ∃ r', Own w' w.heap.size 5 1 v K.length (K.map byteV) ∧ Blk w' br #[r', .int .i64 E] 55 ∧ Rd w' 1 r' B.length (B.map byteV) ∧ (∀ b, rbk r' = some b → rbk r = some b) ∧ Upd (fun b => b = br) w w' := by
  obtain ⟨n0, hn0⟩ : ∃ n, n = w.heap.size := ⟨_, rfl⟩
  have hbr := hB.lt
  have hX := Upd.refl (fun b => b = br) w
  have hR_b := hlt
  refine CT_of Tryd.func46 rfl rfl rfl ?_
  refine W_seq ?_
  refine W_reg ?_
  refine L_op rfl (X_assign (v := (.slice none 0 0)) rfl ?_)
  refine L_nil ?_
  refine T_n ?_
  refine W_seq ?_
  refine W_seq ?_
  refine W_reg ?_
  refine L_op rfl (X_move (v := (ptr br (0))) rfl ?_)
  refine L_op rfl (X_nilCheck (v := (ptr br (0))) rfl ⟨_, _, rfl⟩ ?_)
  refine L_op rfl (X_fldP (b := br) (o := 0) (r := 1) Fd55_1 rfl rfl ?_)
  refine L_op rfl (X_load (p := (ptr br (1))) (v := (.int .i64 (e))) T27 rfl (hB.at1 rfl) ?_)
  by_cases hc1 : (e : Int) = (0)
  · refine L_op rfl (X_cmp (k := .i64) (a := e) (b := 0) (r := true) rfl rfl rfl (decide_eq_true (p := ((e) : Int) = ((0) : Int)) (by omega)) ?_)
    unfold rdB at h
    rw [if_pos (show e = 0 by omega)] at h
    cases h
    refine L_nil ?_
    refine T_n ?_
    refine W_ct rfl ?_
    refine W_reg ?_
    refine L_op rfl (X_move (v := (ptr br (0))) rfl ?_)
    refine L_op rfl (X_move (v := (ptr br (0))) rfl ?_)
    refine L_op rfl (X_move (v := (ptr br (0))) rfl ?_)
    refine L_op rfl (X_nilCheck (v := (ptr br (0))) rfl ⟨_, _, rfl⟩ ?_)
    refine L_op rfl (X_fldP (b := br) (o := 0) (r := 0) Fd55_0 rfl rfl ?_)
    refine L_op rfl (X_load (p := (ptr br (0))) (v := r) T35 rfl (hB.at1 rfl) ?_)
    refine L_op rfl (X_move (v := (.int .i64 (m))) rfl ?_)
    obtain ⟨sT, hsT⟩ : ∃ n, n = w.heap.size := ⟨_, rfl⟩
    refine L_op rfl (X_fn (vs := [r, (.int .i64 (m))]) en60 rfl (CT.mono (c_takeBytes r bi m _ hR) ?_))
    rintro _ w2 ⟨s, r1, rfl, hOs, hRr, hrb1, hu2⟩
    have hz2 := hu2.size
    rw [← hsT] at hOs
    replace hB := hB.ext hu2
    replace hX := hX.trans (Ext.upd hu2)
    have hOs_c : ∀ b, obk s = some b → sT ≤ b ∧ b < w2.heap.size := fun b hb => hOs.lt hb
    have hRr_b : ∀ b, rbk r1 = some b → b < br := fun b hb => hlt b (hrb1 b hb)
    refine L_op rfl (X_move (v := (.tuple #[s, r1, (.int .i64 ((takeE bi m)))])) rfl ?_)
    refine L_op rfl (X_extract (l := [s, r1, (.int .i64 ((takeE bi m)))]) (v := s) rfl rfl ?_)
    refine L_op rfl (X_extract (l := [s, r1, (.int .i64 ((takeE bi m)))]) (v := r1) rfl rfl ?_)
    refine L_op rfl (X_extract (l := [s, r1, (.int .i64 ((takeE bi m)))]) (v := (.int .i64 ((takeE bi m)))) rfl rfl ?_)
    refine L_op rfl (X_assign (v := s) rfl ?_)
    refine L_op rfl (X_nilCheck (v := (ptr br (0))) rfl ⟨_, _, rfl⟩ ?_)
    refine L_op rfl (X_fldP (b := br) (o := 0) (r := 0) Fd55_0 rfl rfl ?_)
    refine L_op0 (X_store (b := br) (o := 0) T35 rfl rfl (hRr.sv.one) hB (by show (0 : Nat) < 2; decide) ?_)
    intro w3 hu3 hb3
    have hz3 := hu3.size
    replace hX := hX.comp hu3 (fun _ _ h => h) fun i hi h => by have h : i = br := h; show i = br; omega
    replace hOs := hOs.upd hu3 fun i hi h => by have hi := hOs_c _ hi; have h : i = br := h; omega
    replace hRr := hRr.upd hu3 fun i hi h => by have hi := hRr_b _ hi; have h : i = br := h; omega
    replace hB : Blk w3 br #[r1, (.int .i64 (e))] 55 := hb3
    refine L_op rfl (X_nilCheck (v := (ptr br (0))) rfl ⟨_, _, rfl⟩ ?_)
    refine L_op rfl (X_fldP (b := br) (o := 0) (r := 1) Fd55_1 rfl rfl ?_)
    refine L_op0 (X_store (b := br) (o := 1) T27 rfl rfl rfl hB (by show (1 : Nat) < 2; decide) ?_)
    intro w4 hu4 hb4
    have hz4 := hu4.size
    replace hX := hX.comp hu4 (fun _ _ h => h) fun i hi h => by have h : i = br := h; show i = br; omega
    replace hOs := hOs.upd hu4 fun i hi h => by have hi := hOs_c _ hi; have h : i = br := h; omega
    replace hRr := hRr.upd hu4 fun i hi h => by have hi := hRr_b _ hi; have h : i = br := h; omega
    replace hB : Blk w4 br #[r1, (.int .i64 ((takeE bi m)))] 55 := hb4
    refine L_nil ?_
    refine T_n ?_
    refine W_seq ?_
    refine W_reg ?_
    refine L_op rfl (X_move (v := s) rfl ?_)
    refine L_op rfl (X_assign (v := s) rfl ?_)
    refine L_nil ?_
    refine T_n ?_
    refine W_ret ?_
    exact BQ_r (End_1 Tryd.results46 (v := s) rfl ⟨r1, hOs.more (by omega), hB, hRr, hrb1, hX⟩)
  · refine L_op rfl (X_cmp (k := .i64) (a := e) (b := 0) (r := false) rfl rfl rfl (decide_eq_false (p := ((e) : Int) = ((0) : Int)) (by omega)) ?_)
    unfold rdB at h
    rw [if_neg (show ¬ e = 0 by omega)] at h
    cases h
    refine L_nil ?_
    refine T_n ?_
    refine W_cf rfl ?_
    refine W_skip ?_
    refine T_n ?_
    refine W_seq ?_
    refine W_reg ?_
    refine L_op rfl (X_move (v := (.slice none 0 0)) rfl ?_)
    refine L_op rfl (X_assign (v := (.slice none 0 0)) rfl ?_)
    refine L_nil ?_
    refine T_n ?_
    refine W_ret ?_
    exact BQ_r (End_1 Tryd.results46 (v := .slice none 0 0) rfl ⟨r, Own.nil _ _ _ _, hB, hR, fun b hb => hb, hX⟩)

theorem c_rnum (br : Nat) (r : Value) (bi : List UInt8) (e m : Int) (K : Nat) (B : List UInt8) (E : Int) (w : World) (hB : Blk w br #[r, .int .i64 e] 55) (hR : Rd w 1 r bi.length (bi.map byteV)) (hlt : ∀ b, rbk r = some b → b < br) (h : rdN (bi, e) m = (K, (B, E))) : CT Tryd.prog 47 #[(ptr br (0)), (.int .i64 (m))] w fun v w' => ∃ r', v = .int .u64 ((K : Nat) : Int) ∧ Blk w' br #[r', .int .i64 E] 55 ∧ Rd w' 1 r' B.length (B.map byteV) ∧ (∀ b, rbk r' = some b → rbk r = some b) ∧ Upd (fun b => b = br) w w' := by
  obtain ⟨n0, hn0⟩ : ∃ n, n = w.heap.size := ⟨_, rfl⟩
  have hbr := hB.lt
  have hX := Upd.refl (fun b => b = br) w
  have hR_b := hlt
  refine CT_of Tryd.func47 rfl rfl rfl ?_
  refine W_seq ?_
  refine W_reg ?_
  refine L_op rfl (X_assign (v := (.int .u64 (0))) rfl ?_)
  refine L_nil ?_
  refine T_n ?_
  refine W_seq ?_
  refine W_seq ?_
  refine W_reg ?_
  refine L_op rfl (X_move (v := (ptr br (0))) rfl ?_)
  refine L_op rfl (X_nilCheck (v := (ptr br (0))) rfl ⟨_, _, rfl⟩ ?_)
  refine L_op rfl (X_fldP (b := br) (o := 0) (r := 1) Fd55_1 rfl rfl ?_)
  refine L_op rfl (X_load (p := (ptr br (1))) (v := (.int .i64 (e))) T27 rfl (hB.at1 rfl) ?_)
  by_cases hc1 : (e : Int) = (0)
  · refine L_op rfl (X_cmp (k := .i64) (a := e) (b := 0) (r := true) rfl rfl rfl (decide_eq_true (p := ((e) : Int) = ((0) : Int)) (by omega)) ?_)
    unfold rdN at h
    rw [if_pos (show e = 0 by omega)] at h
    cases h
    refine L_nil ?_
    refine T_n ?_
    refine W_ct rfl ?_
    refine W_reg ?_
    refine L_op rfl (X_move (v := (ptr br (0))) rfl ?_)
    refine L_op rfl (X_move (v := (ptr br (0))) rfl ?_)
    refine L_op rfl (X_move (v := (ptr br (0))) rfl ?_)
    refine L_op rfl (X_nilCheck (v := (ptr br (0))) rfl ⟨_, _, rfl⟩ ?_)
    refine L_op rfl (X_fldP (b := br) (o := 0) (r := 0) Fd55_0 rfl rfl ?_)
    refine L_op rfl (X_load (p := (ptr br (0))) (v := r) T35 rfl (hB.at1 rfl) ?_)
    refine L_op rfl (X_move (v := (.int .i64 (m))) rfl ?_)
    refine L_op rfl (X_fn (vs := [r, (.int .i64 (m))]) en61 rfl (CT.mono (c_take r bi m _ hR) ?_))
    rintro _ w2 ⟨r1, rfl, hRr, hrb1, hu2⟩
    have hz2 := hu2.size
    replace hB := hB.ext hu2
    replace hX := hX.trans (Ext.upd hu2)
    have hRr_b : ∀ b, rbk r1 = some b → b < br := fun b hb => hlt b (hrb1 b hb)
    refine L_op rfl (X_move (v := (.tuple #[(.int .u64 (((takeV bi (wideN m) : Nat) : Int))), r1, (.int .i64 ((if bi.length < wideN m then 20 else 0)))])) rfl ?_)
    refine L_op rfl (X_extract (l := [(.int .u64 (((takeV bi (wideN m) : Nat) : Int))), r1, (.int .i64 ((if bi.length < wideN m then 20 else 0)))]) (v := (.int .u64 (((takeV bi (wideN m) : Nat) : Int)))) rfl rfl ?_)
    refine L_op rfl (X_extract (l := [(.int .u64 (((takeV bi (wideN m) : Nat) : Int))), r1, (.int .i64 ((if bi.length < wideN m then 20 else 0)))]) (v := r1) rfl rfl ?_)
    refine L_op rfl (X_extract (l := [(.int .u64 (((takeV bi (wideN m) : Nat) : Int))), r1, (.int .i64 ((if bi.length < wideN m then 20 else 0)))]) (v := (.int .i64 ((if bi.length < wideN m then 20 else 0)))) rfl rfl ?_)
    refine L_op rfl (X_assign (v := (.int .u64 (((takeV bi (wideN m) : Nat) : Int)))) rfl ?_)
    refine L_op rfl (X_nilCheck (v := (ptr br (0))) rfl ⟨_, _, rfl⟩ ?_)
    refine L_op rfl (X_fldP (b := br) (o := 0) (r := 0) Fd55_0 rfl rfl ?_)
    refine L_op0 (X_store (b := br) (o := 0) T35 rfl rfl (hRr.sv.one) hB (by show (0 : Nat) < 2; decide) ?_)
    intro w3 hu3 hb3
    have hz3 := hu3.size
    replace hX := hX.comp hu3 (fun _ _ h => h) fun i hi h => by have h : i = br := h; show i = br; omega
    replace hRr := hRr.upd hu3 fun i hi h => by have hi := hRr_b _ hi; have h : i = br := h; omega
    replace hB : Blk w3 br #[r1, (.int .i64 (e))] 55 := hb3
    refine L_op rfl (X_nilCheck (v := (ptr br (0))) rfl ⟨_, _, rfl⟩ ?_)
    refine L_op rfl (X_fldP (b := br) (o := 0) (r := 1) Fd55_1 rfl rfl ?_)
    refine L_op0 (X_store (b := br) (o := 1) T27 rfl rfl rfl hB (by show (1 : Nat) < 2; decide) ?_)
    intro w4 hu4 hb4
    have hz4 := hu4.size
    replace hX := hX.comp hu4 (fun _ _ h => h) fun i hi h => by have h : i = br := h; show i = br; omega
    replace hRr := hRr.upd hu4 fun i hi h => by have hi := hRr_b _ hi; have h : i = br := h; omega
    replace hB : Blk w4 br #[r1, (.int .i64 ((if bi.length < wideN m then 20 else 0)))] 55 := hb4
    refine L_nil ?_
    refine T_n ?_
    refine W_seq ?_
    refine W_reg ?_
    refine L_op rfl (X_move (v := (.int .u64 (((takeV bi (wideN m) : Nat) : Int)))) rfl ?_)
    refine L_op rfl (X_assign (v := (.int .u64 (((takeV bi (wideN m) : Nat) : Int)))) rfl ?_)
    refine L_nil ?_
    refine T_n ?_
    refine W_ret ?_
    exact BQ_r (End_1 Tryd.results47 (v := .int .u64 ((takeV bi (wideN m) : Nat) : Int)) rfl ⟨r1, rfl, hB, hRr, hrb1, hX⟩)
  · refine L_op rfl (X_cmp (k := .i64) (a := e) (b := 0) (r := false) rfl rfl rfl (decide_eq_false (p := ((e) : Int) = ((0) : Int)) (by omega)) ?_)
    unfold rdN at h
    rw [if_neg (show ¬ e = 0 by omega)] at h
    cases h
    refine L_nil ?_
    refine T_n ?_
    refine W_cf rfl ?_
    refine W_skip ?_
    refine T_n ?_
    refine W_seq ?_
    refine W_reg ?_
    refine L_op rfl (X_move (v := (.int .u64 (0))) rfl ?_)
    refine L_op rfl (X_assign (v := (.int .u64 (0))) rfl ?_)
    refine L_nil ?_
    refine T_n ?_
    refine W_ret ?_
    exact BQ_r (End_1 Tryd.results47 (v := .int .u64 0) rfl ⟨r, rfl, hB, hR, fun b hb => hb, hX⟩)
end Go.Proofs.YtmddmghgkkjbiaaDoor
