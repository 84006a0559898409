/-
  The contracts of chains: Encode, Many. (Printed by wip/gen/t08g.py of this repo.)
-/
import Derived.Test.YtmggaahkfidfaaaDoorPtrD
import Derived.Test.YtmggaahkfidfaaaDoorBaseW
namespace Go.Proofs.YtmggaahkfidfaaaDoor
open Go Go.SL Go.Proofs
set_option linter.unusedVariables false

theorem built28z : Tryd.prog.built 28 [] = some (ptC ptZ).toArray := by kernel_rfl
theorem built30z : Tryd.prog.built 30 [] = some ((List.replicate 256 (0 : UInt8)).map byteV).toArray := by
  rw [List.map_replicate]; kernel_rfl
abbrev NextOk (q : Pt) : Prop := q = ptZ ∨ q.1 = 3 ∧ RightP q 256
abbrev EncOk (l : List UInt8) (q : Pt) : Prop := 1 ≤ l.length ∧ l.length ≤ 200 ∧ NextOk q
def encL (l : List UInt8) (q : Pt) : List UInt8 := fillL (([3] ++ sizedB l) ++ ptrB q)
theorem encL_len (l : List UInt8) (q : Pt) : (encL l q).length = 256 := fillL_length _
def encP (l : List UInt8) (q : Pt) : List UInt8 := if EncOk l q then encL l q else List.replicate 256 0
def encE (l : List UInt8) (q : Pt) : Int := if EncOk l q then 0 else 2
theorem encP_len (l : List UInt8) (q : Pt) : (encP l q).length = 256 := by unfold encP; split; exact encL_len l q; exact List.length_replicate
theorem encP_ok {l : List UInt8} {q : Pt} (h : EncOk l q) : encP l q = encL l q := if_pos h
theorem encE_ok {l : List UInt8} {q : Pt} (h : EncOk l q) : encE l q = 0 := if_pos h
theorem encP_no {l : List UInt8} {q : Pt} (h : ¬ EncOk l q) : encP l q = List.replicate 256 0 := if_neg h
theorem encE_no {l : List UInt8} {q : Pt} (h : ¬ EncOk l q) : encE l q = 2 := if_neg h
theorem encE_zero {l : List UInt8} {q : Pt} (h : encE l q = 0) : EncOk l q := by
  unfold encE at h
  split at h
  · assumption
  · cases h
theorem enc_big {l : List UInt8} {q : Pt} (h : l.length ≤ 200) : (([3] ++ sizedB l) ++ ptrB q).length ≤ 256 := by
  rw [List.length_append, List.length_append, sizedB_length, ptrB_len, List.length_take]
  show 1 + _ + _ ≤ _
  omega
/-- what stands in a page behind its first byte -/
def dL (p : List UInt8) : List UInt8 := (p.drop 1).take (256 - 1)
def dS (p : List UInt8) : List UInt8 := takeS (dL p) 200
def dR (p : List UInt8) : List UInt8 := takeR (dL p) 200
def dQ (p : List UInt8) : Pt := takeQ (dR p)
abbrev DecOk (p : List UInt8) : Prop := takeE (dL p) 200 = 0 ∧ takeQE (dR p) = 0 ∧ encE (dS p) (dQ p) = 0 ∧ encP (dS p) (dQ p) = p
def decB (p : List UInt8) : List UInt8 := if DecOk p then dS p else []
def decN (p : List UInt8) : Pt := if DecOk p then dQ p else ptZ
def decE (p : List UInt8) : Int := if DecOk p then 0 else 50
theorem decN_ok (p : List UInt8) : PtOk (decN p) := by unfold decN; split; exact takeQ_ok _; exact ptZ_ok

theorem c_encode (b : Value) (l : List UInt8) (q : Pt) (w : World) (hq : PtOk q) (hb : Rd w 1 b l.length (l.map byteV)) (hT : TabR w) : CT Tryd.prog 8 #[b, (.agg (ptC q).toArray)] w fun v w' => v = .tuple #[.agg ((encP l q).map byteV).toArray, .int .i64 (encE l q)] ∧ Ext w w' := by
  obtain ⟨n0, hn0⟩ : ∃ n, n = w.heap.size := ⟨_, rfl⟩
  have hU : Upd (fun i => n0 ≤ i) w w := Upd.refl _ _
  have hb_b : ∀ i, rbk b = some i → i < n0 := by rw [hn0]; exact fun i hi => hb.bound (by decide) hi
  refine CT_of Tryd.func8 rfl rfl rfl ?_
  refine W_seq ?_
  refine W_reg ?_
  refine L_op rfl (X_box (v := (.agg (ptC q).toArray)) (c := ((ptC q)).toArray) rfl rfl ?_)
  intro b1 w1 hn1
  have hbn1 := hn1.num; have hbs1 := hn1.size
  replace hb := hb.ext hn1.ext
  replace hU := hU.trans (Ext.upd hn1.ext)
  replace hT := hT.ext hn1.ext
  have hB1 := hn1.blk
  refine L_op rfl (X_alloc (z := zv30) (c := zc30.toArray) Zv30 rfl ?_)
  intro b2 w2 hn2
  have hbn2 := hn2.num; have hbs2 := hn2.size
  replace hb := hb.ext hn2.ext
  replace hU := hU.trans (Ext.upd hn2.ext)
  replace hT := hT.ext hn2.ext
  replace hB1 := hB1.ext hn2.ext
  have hB2 := hn2.blk
  rw [zc30_eq] at hB2
  refine L_op rfl (X_assign (v := (.int .i64 (0))) rfl ?_)
  refine L_nil ?_
  refine T_n ?_
  refine W_seq ?_
  refine W_reg ?_
  refine L_op rfl (X_loadA (p := (ptr b1 (0))) (xs := ptC q) A28 rfl hB1.atAll rfl ?_)
  refine L_op rfl (X_build built28z ?_)
  rcases Bool.eq_false_or_eq_true (q == ptZ) with hc3 | hc3
  · refine L_op rfl (X_eqP (p := q) (q := ptZ) (r := true) Tryd.underlying28 u28 (by kernel_rfl) (by decide) ⟨rfl, rfl, rfl, rfl⟩ Tryd.underlying5 Tryd.underlying24 (by kernel_rfl) Tryd.underlying23 (ie := _) rfl (by kernel_rfl) Tryd.underlying25 Tryd.underlying26 (by kernel_rfl) rfl rfl (.inl ⟨rfl, hc3⟩) ?_)
    refine L_op rfl (X_assign (v := (.bool (true))) rfl ?_)
    refine L_nil ?_
    refine T_n ?_
    refine W_seq ?_
    refine W_seq ?_
    refine W_reg ?_
    refine L_op rfl (X_move (v := b) rfl ?_)
    refine L_op rfl (X_len (v := b) (n := l.length) Tryd.underlying22 rfl hb.sv ?_)
    by_cases hc4 : (((l.length : Nat) : Int) : Int) < (1)
    · refine L_op rfl (X_cmp (k := .i64) (a := ((l.length : Nat) : Int)) (b := 1) (r := true) rfl rfl rfl (decide_eq_true (p := ((((l.length : Nat) : Int)) : Int) < ((1) : Int)) (by omega)) ?_)
      refine L_op rfl (X_move (v := (.bool (true))) rfl ?_)
      refine L_gn (dj := 13) (t := true) rfl rfl rfl rfl ?_
      refine L_gn (dj := 13) (t := true) rfl rfl rfl rfl ?_
      refine L_gn (dj := 13) (t := true) rfl rfl rfl rfl ?_
      refine L_op rfl (X_pick (t := true) (v := (.bool (true))) rfl rfl ?_)
      refine L_op rfl (X_move (v := (.bool (true))) rfl ?_)
      refine L_gn (dj := 18) (t := true) rfl rfl rfl rfl ?_
      refine L_gn (dj := 18) (t := true) rfl rfl rfl rfl ?_
      refine L_gn (dj := 18) (t := true) rfl rfl rfl rfl ?_
      refine L_gu (dj := 21) rfl rfl rfl ?_
      refine L_gu (dj := 21) rfl rfl rfl ?_
      refine L_gu (dj := 21) rfl rfl rfl ?_
      refine L_gu (dj := 21) rfl rfl rfl ?_
      refine L_gu (dj := 25) rfl rfl rfl ?_
      refine L_gu (dj := 25) rfl rfl rfl ?_
      refine L_gu (dj := 25) rfl rfl rfl ?_
      refine L_gu (dj := 21) rfl rfl rfl ?_
      refine L_gn (dj := 18) (t := true) rfl rfl rfl rfl ?_
      refine L_op rfl (X_pick (t := true) (v := (.bool (true))) rfl rfl ?_)
      refine L_nil ?_
      refine T_n ?_
      refine W_ct rfl ?_
      refine W_seq ?_
      refine W_reg ?_
      refine L_op rfl (X_loadA (p := (ptr b2 (0))) (xs := ((List.replicate 256 (0 : UInt8)).map byteV)) A30 rfl hB2.atAll (by rw [List.length_map]; exact List.length_replicate) ?_)
      refine L_op0 (X_storeW (b := b2) (ys := ((List.replicate 256 (0 : UInt8)).map byteV)) A30 rfl rfl (byteV_one _) (by rw [List.length_map]; exact List.length_replicate) hB2 (by rw [List.size_toArray]; exact (by rw [List.length_map]; exact List.length_replicate)) ?_)
      intro w5 hu5 hb5
      have hz5 := hu5.size
      replace hb := hb.upd hu5 fun i hi h => by have hi := hb_b _ hi; have h : i = b2 := h; omega
      replace hU := hU.trans (hu5.mono fun i _ h => by have h : i = b2 := h; show n0 ≤ i; omega)
      replace hT := hT.upd hu5 fun i h1 h2 h => by have h : i = b2 := h; omega
      replace hB1 := hB1.upd hu5 fun h => by have h : b1 = b2 := h; omega
      replace hB2 := hb5
      refine L_op rfl (X_assign (v := (.int .i64 (2))) rfl ?_)
      refine L_nil ?_
      refine T_n ?_
      refine W_ret ?_
      refine T_r ?_
      have hno : ¬ EncOk l q := fun h => by obtain ⟨h1, h2, h3⟩ := h; omega
      exact BQ_r (End_2 Tryd.results8 (RV_A A30 rfl hB2.atAll (by rw [List.length_map]; exact List.length_replicate)) (v2 := .int .i64 2) rfl ⟨by rw [encP_no hno, encE_no hno], hU.own hn0⟩)
    · refine L_op rfl (X_cmp (k := .i64) (a := ((l.length : Nat) : Int)) (b := 1) (r := false) rfl rfl rfl (decide_eq_false (p := ((((l.length : Nat) : Int)) : Int) < ((1) : Int)) (by omega)) ?_)
      refine L_op rfl (X_move (v := (.bool (false))) rfl ?_)
      refine L_gy (dj := 13) rfl rfl rfl (X_move (v := b) rfl ?_)
      refine L_gy (dj := 13) rfl rfl rfl (X_len (v := b) (n := l.length) Tryd.underlying22 rfl hb.sv ?_)
      by_cases hc6 : (((l.length : Nat) : Int) : Int) > (200)
      · refine L_gy (dj := 13) rfl rfl rfl (X_cmp (k := .i64) (a := ((l.length : Nat) : Int)) (b := 200) (r := true) rfl rfl rfl (decide_eq_true (p := ((200) : Int) < ((((l.length : Nat) : Int)) : Int)) (by omega)) ?_)
        refine L_op rfl (X_pick (t := false) (v := (.bool (true))) rfl rfl ?_)
        refine L_op rfl (X_move (v := (.bool (true))) rfl ?_)
        refine L_gn (dj := 18) (t := true) rfl rfl rfl rfl ?_
        refine L_gn (dj := 18) (t := true) rfl rfl rfl rfl ?_
        refine L_gn (dj := 18) (t := true) rfl rfl rfl rfl ?_
        refine L_gu (dj := 21) rfl rfl rfl ?_
        refine L_gu (dj := 21) rfl rfl rfl ?_
        refine L_gu (dj := 21) rfl rfl rfl ?_
        refine L_gu (dj := 21) rfl rfl rfl ?_
        refine L_gu (dj := 25) rfl rfl rfl ?_
        refine L_gu (dj := 25) rfl rfl rfl ?_
        refine L_gu (dj := 25) rfl rfl rfl ?_
        refine L_gu (dj := 21) rfl rfl rfl ?_
        refine L_gn (dj := 18) (t := true) rfl rfl rfl rfl ?_
        refine L_op rfl (X_pick (t := true) (v := (.bool (true))) rfl rfl ?_)
        refine L_nil ?_
        refine T_n ?_
        refine W_ct rfl ?_
        refine W_seq ?_
        refine W_reg ?_
        refine L_op rfl (X_loadA (p := (ptr b2 (0))) (xs := ((List.replicate 256 (0 : UInt8)).map byteV)) A30 rfl hB2.atAll (by rw [List.length_map]; exact List.length_replicate) ?_)
        refine L_op0 (X_storeW (b := b2) (ys := ((List.replicate 256 (0 : UInt8)).map byteV)) A30 rfl rfl (byteV_one _) (by rw [List.length_map]; exact List.length_replicate) hB2 (by rw [List.size_toArray]; exact (by rw [List.length_map]; exact List.length_replicate)) ?_)
        intro w7 hu7 hb7
        have hz7 := hu7.size
        replace hb := hb.upd hu7 fun i hi h => by have hi := hb_b _ hi; have h : i = b2 := h; omega
        replace hU := hU.trans (hu7.mono fun i _ h => by have h : i = b2 := h; show n0 ≤ i; omega)
        replace hT := hT.upd hu7 fun i h1 h2 h => by have h : i = b2 := h; omega
        replace hB1 := hB1.upd hu7 fun h => by have h : b1 = b2 := h; omega
        replace hB2 := hb7
        refine L_op rfl (X_assign (v := (.int .i64 (2))) rfl ?_)
        refine L_nil ?_
        refine T_n ?_
        refine W_ret ?_
        refine T_r ?_
        have hno : ¬ EncOk l q := fun h => by obtain ⟨h1, h2, h3⟩ := h; omega
        exact BQ_r (End_2 Tryd.results8 (RV_A A30 rfl hB2.atAll (by rw [List.length_map]; exact List.length_replicate)) (v2 := .int .i64 2) rfl ⟨by rw [encP_no hno, encE_no hno], hU.own hn0⟩)
      · refine L_gy (dj := 13) rfl rfl rfl (X_cmp (k := .i64) (a := ((l.length : Nat) : Int)) (b := 200) (r := false) rfl rfl rfl (decide_eq_false (p := ((200) : Int) < ((((l.length : Nat) : Int)) : Int)) (by omega)) ?_)
        refine L_op rfl (X_pick (t := false) (v := (.bool (false))) rfl rfl ?_)
        refine L_op rfl (X_move (v := (.bool (false))) rfl ?_)
        refine L_gy (dj := 18) rfl rfl rfl (X_move (v := (.bool (true))) rfl ?_)
        refine L_gy (dj := 18) rfl rfl rfl (X_not (b := true) (r := false) rfl rfl ?_)
        refine L_gy (dj := 18) rfl rfl rfl (X_move (v := (.bool (false))) rfl ?_)
        refine L_gn (dj := 21) (t := false) rfl rfl rfl rfl ?_
        refine L_gn (dj := 21) (t := false) rfl rfl rfl rfl ?_
        refine L_gn (dj := 21) (t := false) rfl rfl rfl rfl ?_
        refine L_gn (dj := 21) (t := false) rfl rfl rfl rfl ?_
        refine L_gu (dj := 25) rfl rfl rfl ?_
        refine L_gu (dj := 25) rfl rfl rfl ?_
        refine L_gu (dj := 25) rfl rfl rfl ?_
        refine L_gn (dj := 21) (t := false) rfl rfl rfl rfl ?_
        refine L_gy (dj := 18) rfl rfl rfl (X_pick (t := false) (v := (.bool (false))) rfl rfl ?_)
        refine L_op rfl (X_pick (t := false) (v := (.bool (false))) rfl rfl ?_)
        refine L_nil ?_
        refine T_n ?_
        refine W_cf rfl ?_
        refine W_skip ?_
        refine T_n ?_
        refine W_seq ?_
        refine W_draw 8 [[], [], [0, 1], [], [0, 1, 2, 3], [0, 1, 2, 3, 4], [0, 1, 2, 3, 4, 5], [0, 1, 2, 3, 4, 5], [0, 1, 2, 3, 4, 5, 6, 7], [0, 1, 2, 3, 4, 5, 6, 7, 8]] mixed (by kernel_rfl) ?_
        refine ⟨.abs (fun _ x_ W_ => ∃ b, x_ = .slice (some ⟨b, 0, none⟩) 1 1 ∧ Blk W_ b #[.int .u8 3] 5), ⟨fun _ _ _ => rfl, fun _ _ _ _ hu h => (by obtain ⟨b, e1, e2⟩ := h; exact ⟨b, e1, e2.ext hu⟩)⟩, fun val h_ W hx he => ⟨trivial, ?_⟩, ?_⟩
        · replace hx := (Upd.drew _ _).trans hx
          replace hb := hb.ext hx
          replace hT := hT.ext hx
          replace hB1 := hB1.ext hx
          replace hB2 := hB2.ext hx
          have hE := Upd.refl (fun _ => False) W
          refine X_buildSlice1 (vs := [.int .u8 3]) S22 (by decide) rfl rfl (List.forall_mem_cons.2 ⟨rfl, fun _ h => by cases h⟩) ?_
          intro b w2 hn
          exact ⟨hn.ext, b, rfl, hn.blk⟩
        refine ⟨.det (fun val => b), ⟨fun _ _ hv => rfl, fun _ _ _ _ _ => trivial⟩, fun val h_ W hx he => ⟨trivial, ?_⟩, ?_⟩
        · replace hx := (Upd.drew _ _).trans hx
          replace hb := hb.ext hx
          replace hT := hT.ext hx
          replace hB1 := hB1.ext hx
          replace hB2 := hB2.ext hx
          have hE := Upd.refl (fun _ => False) W
          refine id (X_move (v := b) rfl ?_)
          exact ⟨hE, rfl⟩
        refine ⟨.abs (fun _ x_ W_ => Rd W_ 1 x_ ([3] ++ sizedB l).length (([3] ++ sizedB l).map byteV)), ⟨fun _ _ _ => rfl, fun _ _ _ _ hu h => (by have h2 := Rd.ext h hu; exact h2)⟩, fun val h_ W hx he => ⟨trivial, ?_⟩, ?_⟩
        · replace hx := (Upd.drew _ _).trans hx
          replace hb := hb.ext hx
          replace hT := hT.ext hx
          replace hB1 := hB1.ext hx
          replace hB2 := hB2.ext hx
          have hE := Upd.refl (fun _ => False) W
          obtain ⟨⟨bl, hbl, hBl⟩, _⟩ := he
          have hlit : Rd W 1 (val 0) [(3 : UInt8)].length ([(3 : UInt8)].map byteV) := by rw [hbl]; exact hBl.rd (o := 0) (n := 1) (c := 1) (sz := 1) (by decide) (by decide) rfl (fun j u hj => by rw [Nat.zero_add]; simpa [byteV] using hj)
          refine X_fn (vs := [val 0, b]) en20 rfl (CT.mono (c_putBytes (val 0) b [3] l _ (by decide) hlit hb) ?_)
          rintro v9 w9 ⟨hO9, hu9⟩
          exact ⟨hu9, hO9.rd⟩
        refine ⟨.det (fun val => (.agg (ptC q).toArray)), ⟨fun _ _ hv => rfl, fun _ _ _ _ _ => trivial⟩, fun val h_ W hx he => ⟨trivial, ?_⟩, ?_⟩
        · replace hx := (Upd.drew _ _).trans hx
          replace hb := hb.ext hx
          replace hT := hT.ext hx
          replace hB1 := hB1.ext hx
          replace hB2 := hB2.ext hx
          have hE := Upd.refl (fun _ => False) W
          refine id (X_loadA (p := (ptr b1 (0))) (xs := ptC q) A28 rfl hB1.atAll rfl ?_)
          exact ⟨hE, rfl⟩
        refine ⟨.abs (fun _ x_ W_ => Rd W_ 1 x_ (([3] ++ sizedB l) ++ ptrB q).length ((([3] ++ sizedB l) ++ ptrB q).map byteV)), ⟨fun _ _ _ => rfl, fun _ _ _ _ hu h => (by have h2 := Rd.ext h hu; exact h2)⟩, fun val h_ W hx he => ⟨trivial, ?_⟩, ?_⟩
        · replace hx := (Upd.drew _ _).trans hx
          replace hb := hb.ext hx
          replace hT := hT.ext hx
          replace hB1 := hB1.ext hx
          replace hB2 := hB2.ext hx
          have hE := Upd.refl (fun _ => False) W
          obtain ⟨hR2, _⟩ := he
          refine X_fn (vs := [val 2, .agg (ptC q).toArray]) en19 rfl (CT.mono (c_ptrPut (val 2) ([3] ++ sizedB l) q _ hq (by rw [List.length_append, sizedB_length, List.length_take]; show 1 + _ ≤ _; omega) hR2 hT) ?_)
          rintro v9 w9 ⟨hO9, hu9⟩
          exact ⟨hu9, hO9.rd⟩
        refine ⟨.det (fun _ => (.tuple #[(.agg (((encL l q)).map byteV).toArray), (.int .i64 (0))])), ⟨fun _ _ _ => rfl, fun _ _ _ _ _ => trivial⟩, fun val h_ W hx he => ⟨trivial, ?_⟩, ?_⟩
        · replace hx := (Upd.drew _ _).trans hx
          replace hb := hb.ext hx
          replace hT := hT.ext hx
          replace hB1 := hB1.ext hx
          replace hB2 := hB2.ext hx
          have hE := Upd.refl (fun _ => False) W
          obtain ⟨hR4, _⟩ := he
          refine X_fn (vs := [val 4]) en18 rfl (CT.mono (c_fill (val 4) (([3] ++ sizedB l) ++ ptrB q) _ hR4) ?_)
          rintro v9 w9 ⟨e, rfl, _, he0, hu9⟩
          rw [he0 (enc_big (by omega))]
          exact ⟨hu9, rfl⟩
        refine ⟨.det (fun val => (.agg (((encL l q)).map byteV).toArray)), ⟨fun _ _ hv => rfl, fun _ _ _ _ _ => trivial⟩, fun val h_ W hx he => ⟨trivial, ?_⟩, ?_⟩
        · replace hx := (Upd.drew _ _).trans hx
          replace hb := hb.ext hx
          replace hT := hT.ext hx
          replace hB1 := hB1.ext hx
          replace hB2 := hB2.ext hx
          have hE := Upd.refl (fun _ => False) W
          obtain ⟨hR4, he⟩ := he
          obtain ⟨hR2, he⟩ := he
          obtain ⟨⟨bl, hbl, hBl⟩, he⟩ := he
          refine id (X_extract (l := [(.agg (((encL l q)).map byteV).toArray), (.int .i64 (0))]) (v := (.agg (((encL l q)).map byteV).toArray)) rfl rfl ?_)
          exact ⟨hE, rfl⟩
        refine ⟨.det (fun val => (.int .i64 (0))), ⟨fun _ _ hv => rfl, fun _ _ _ _ _ => trivial⟩, fun val h_ W hx he => ⟨trivial, ?_⟩, ?_⟩
        · replace hx := (Upd.drew _ _).trans hx
          replace hb := hb.ext hx
          replace hT := hT.ext hx
          replace hB1 := hB1.ext hx
          replace hB2 := hB2.ext hx
          have hE := Upd.refl (fun _ => False) W
          obtain ⟨hR4, he⟩ := he
          obtain ⟨hR2, he⟩ := he
          obtain ⟨⟨bl, hbl, hBl⟩, he⟩ := he
          refine id (X_extract (l := [(.agg (((encL l q)).map byteV).toArray), (.int .i64 (0))]) (v := (.int .i64 (0))) rfl rfl ?_)
          exact ⟨hE, rfl⟩
        intro val W8 hx8 he8
        replace hx8 := (Upd.drew _ _).trans hx8
        have hz8 := hx8.size
        replace hb := hb.ext hx8
        replace hU := hU.trans (Ext.upd hx8)
        replace hT := hT.ext hx8
        replace hB1 := hB1.ext hx8
        replace hB2 := hB2.ext hx8
        obtain ⟨hR4, he8⟩ := he8
        obtain ⟨hR2, he8⟩ := he8
        obtain ⟨⟨bl, hbl, hBl⟩, he8⟩ := he8
        refine L_op0 (X_storeW (b := b2) (ys := (((encL l q)).map byteV)) A30 rfl rfl (byteV_one _) (by rw [List.length_map]; exact (encL_len l q)) hB2 (by rw [List.size_toArray]; exact (by rw [List.length_map]; exact List.length_replicate)) ?_)
        intro w9 hu9 hb9
        have hz9 := hu9.size
        replace hb := hb.upd hu9 fun i hi h => by have hi := hb_b _ hi; have h : i = b2 := h; omega
        replace hU := hU.trans (hu9.mono fun i _ h => by have h : i = b2 := h; show n0 ≤ i; omega)
        replace hT := hT.upd hu9 fun i h1 h2 h => by have h : i = b2 := h; omega
        replace hB1 := hB1.upd hu9 fun h => by have h : b1 = b2 := h; omega
        replace hB2 := hb9
        refine L_op rfl (X_assign (v := (.int .i64 (0))) rfl ?_)
        refine L_nil ?_
        refine T_n ?_
        refine W_ret ?_
        have hok : EncOk l q := ⟨by omega, by omega, .inl (eq_of_beq hc3)⟩
        exact BQ_r (End_2 Tryd.results8 (RV_A A30 rfl hB2.atAll (by rw [List.length_map]; exact encL_len l q)) (v2 := .int .i64 0) rfl ⟨by rw [encP_ok hok, encE_ok hok], hU.own hn0⟩)
  · refine L_op rfl (X_eqP (p := q) (q := ptZ) (r := false) Tryd.underlying28 u28 (by kernel_rfl) (by decide) ⟨rfl, rfl, rfl, rfl⟩ Tryd.underlying5 Tryd.underlying24 (by kernel_rfl) Tryd.underlying23 (ie := _) rfl (by kernel_rfl) Tryd.underlying25 Tryd.underlying26 (by kernel_rfl) rfl rfl (.inl ⟨rfl, hc3⟩) ?_)
    refine L_op rfl (X_assign (v := (.bool (false))) rfl ?_)
    refine L_nil ?_
    refine T_n ?_
    refine W_seq ?_
    refine W_seq ?_
    refine W_reg ?_
    refine L_op rfl (X_move (v := b) rfl ?_)
    refine L_op rfl (X_len (v := b) (n := l.length) Tryd.underlying22 rfl hb.sv ?_)
    by_cases hc10 : (((l.length : Nat) : Int) : Int) < (1)
    · refine L_op rfl (X_cmp (k := .i64) (a := ((l.length : Nat) : Int)) (b := 1) (r := true) rfl rfl rfl (decide_eq_true (p := ((((l.length : Nat) : Int)) : Int) < ((1) : Int)) (by omega)) ?_)
      refine L_op rfl (X_move (v := (.bool (true))) rfl ?_)
      refine L_gn (dj := 13) (t := true) rfl rfl rfl rfl ?_
      refine L_gn (dj := 13) (t := true) rfl rfl rfl rfl ?_
      refine L_gn (dj := 13) (t := true) rfl rfl rfl rfl ?_
      refine L_op rfl (X_pick (t := true) (v := (.bool (true))) rfl rfl ?_)
      refine L_op rfl (X_move (v := (.bool (true))) rfl ?_)
      refine L_gn (dj := 18) (t := true) rfl rfl rfl rfl ?_
      refine L_gn (dj := 18) (t := true) rfl rfl rfl rfl ?_
      refine L_gn (dj := 18) (t := true) rfl rfl rfl rfl ?_
      refine L_gu (dj := 21) rfl rfl rfl ?_
      refine L_gu (dj := 21) rfl rfl rfl ?_
      refine L_gu (dj := 21) rfl rfl rfl ?_
      refine L_gu (dj := 21) rfl rfl rfl ?_
      refine L_gu (dj := 25) rfl rfl rfl ?_
      refine L_gu (dj := 25) rfl rfl rfl ?_
      refine L_gu (dj := 25) rfl rfl rfl ?_
      refine L_gu (dj := 21) rfl rfl rfl ?_
      refine L_gn (dj := 18) (t := true) rfl rfl rfl rfl ?_
      refine L_op rfl (X_pick (t := true) (v := (.bool (true))) rfl rfl ?_)
      refine L_nil ?_
      refine T_n ?_
      refine W_ct rfl ?_
      refine W_seq ?_
      refine W_reg ?_
      refine L_op rfl (X_loadA (p := (ptr b2 (0))) (xs := ((List.replicate 256 (0 : UInt8)).map byteV)) A30 rfl hB2.atAll (by rw [List.length_map]; exact List.length_replicate) ?_)
      refine L_op0 (X_storeW (b := b2) (ys := ((List.replicate 256 (0 : UInt8)).map byteV)) A30 rfl rfl (byteV_one _) (by rw [List.length_map]; exact List.length_replicate) hB2 (by rw [List.size_toArray]; exact (by rw [List.length_map]; exact List.length_replicate)) ?_)
      intro w11 hu11 hb11
      have hz11 := hu11.size
      replace hb := hb.upd hu11 fun i hi h => by have hi := hb_b _ hi; have h : i = b2 := h; omega
      replace hU := hU.trans (hu11.mono fun i _ h => by have h : i = b2 := h; show n0 ≤ i; omega)
      replace hT := hT.upd hu11 fun i h1 h2 h => by have h : i = b2 := h; omega
      replace hB1 := hB1.upd hu11 fun h => by have h : b1 = b2 := h; omega
      replace hB2 := hb11
      refine L_op rfl (X_assign (v := (.int .i64 (2))) rfl ?_)
      refine L_nil ?_
      refine T_n ?_
      refine W_ret ?_
      refine T_r ?_
      have hno : ¬ EncOk l q := fun h => by obtain ⟨h1, h2, h3⟩ := h; omega
      exact BQ_r (End_2 Tryd.results8 (RV_A A30 rfl hB2.atAll (by rw [List.length_map]; exact List.length_replicate)) (v2 := .int .i64 2) rfl ⟨by rw [encP_no hno, encE_no hno], hU.own hn0⟩)
    · refine L_op rfl (X_cmp (k := .i64) (a := ((l.length : Nat) : Int)) (b := 1) (r := false) rfl rfl rfl (decide_eq_false (p := ((((l.length : Nat) : Int)) : Int) < ((1) : Int)) (by omega)) ?_)
      refine L_op rfl (X_move (v := (.bool (false))) rfl ?_)
      refine L_gy (dj := 13) rfl rfl rfl (X_move (v := b) rfl ?_)
      refine L_gy (dj := 13) rfl rfl rfl (X_len (v := b) (n := l.length) Tryd.underlying22 rfl hb.sv ?_)
      by_cases hc12 : (((l.length : Nat) : Int) : Int) > (200)
      · refine L_gy (dj := 13) rfl rfl rfl (X_cmp (k := .i64) (a := ((l.length : Nat) : Int)) (b := 200) (r := true) rfl rfl rfl (decide_eq_true (p := ((200) : Int) < ((((l.length : Nat) : Int)) : Int)) (by omega)) ?_)
        refine L_op rfl (X_pick (t := false) (v := (.bool (true))) rfl rfl ?_)
        refine L_op rfl (X_move (v := (.bool (true))) rfl ?_)
        refine L_gn (dj := 18) (t := true) rfl rfl rfl rfl ?_
        refine L_gn (dj := 18) (t := true) rfl rfl rfl rfl ?_
        refine L_gn (dj := 18) (t := true) rfl rfl rfl rfl ?_
        refine L_gu (dj := 21) rfl rfl rfl ?_
        refine L_gu (dj := 21) rfl rfl rfl ?_
        refine L_gu (dj := 21) rfl rfl rfl ?_
        refine L_gu (dj := 21) rfl rfl rfl ?_
        refine L_gu (dj := 25) rfl rfl rfl ?_
        refine L_gu (dj := 25) rfl rfl rfl ?_
        refine L_gu (dj := 25) rfl rfl rfl ?_
        refine L_gu (dj := 21) rfl rfl rfl ?_
        refine L_gn (dj := 18) (t := true) rfl rfl rfl rfl ?_
        refine L_op rfl (X_pick (t := true) (v := (.bool (true))) rfl rfl ?_)
        refine L_nil ?_
        refine T_n ?_
        refine W_ct rfl ?_
        refine W_seq ?_
        refine W_reg ?_
        refine L_op rfl (X_loadA (p := (ptr b2 (0))) (xs := ((List.replicate 256 (0 : UInt8)).map byteV)) A30 rfl hB2.atAll (by rw [List.length_map]; exact List.length_replicate) ?_)
        refine L_op0 (X_storeW (b := b2) (ys := ((List.replicate 256 (0 : UInt8)).map byteV)) A30 rfl rfl (byteV_one _) (by rw [List.length_map]; exact List.length_replicate) hB2 (by rw [List.size_toArray]; exact (by rw [List.length_map]; exact List.length_replicate)) ?_)
        intro w13 hu13 hb13
        have hz13 := hu13.size
        replace hb := hb.upd hu13 fun i hi h => by have hi := hb_b _ hi; have h : i = b2 := h; omega
        replace hU := hU.trans (hu13.mono fun i _ h => by have h : i = b2 := h; show n0 ≤ i; omega)
        replace hT := hT.upd hu13 fun i h1 h2 h => by have h : i = b2 := h; omega
        replace hB1 := hB1.upd hu13 fun h => by have h : b1 = b2 := h; omega
        replace hB2 := hb13
        refine L_op rfl (X_assign (v := (.int .i64 (2))) rfl ?_)
        refine L_nil ?_
        refine T_n ?_
        refine W_ret ?_
        refine T_r ?_
        have hno : ¬ EncOk l q := fun h => by obtain ⟨h1, h2, h3⟩ := h; omega
        exact BQ_r (End_2 Tryd.results8 (RV_A A30 rfl hB2.atAll (by rw [List.length_map]; exact List.length_replicate)) (v2 := .int .i64 2) rfl ⟨by rw [encP_no hno, encE_no hno], hU.own hn0⟩)
      · refine L_gy (dj := 13) rfl rfl rfl (X_cmp (k := .i64) (a := ((l.length : Nat) : Int)) (b := 200) (r := false) rfl rfl rfl (decide_eq_false (p := ((200) : Int) < ((((l.length : Nat) : Int)) : Int)) (by omega)) ?_)
        refine L_op rfl (X_pick (t := false) (v := (.bool (false))) rfl rfl ?_)
        refine L_op rfl (X_move (v := (.bool (false))) rfl ?_)
        refine L_gy (dj := 18) rfl rfl rfl (X_move (v := (.bool (false))) rfl ?_)
        refine L_gy (dj := 18) rfl rfl rfl (X_not (b := false) (r := true) rfl rfl ?_)
        refine L_gy (dj := 18) rfl rfl rfl (X_move (v := (.bool (true))) rfl ?_)
        refine L_gy (dj := 21) rfl rfl rfl (X_fldP (b := b1) (o := 0) (r := 0) Fd28_0 rfl rfl ?_)
        refine L_gy (dj := 21) rfl rfl rfl (X_load (p := (ptr b1 (0))) (v := (.int .u8 (q.1))) T5 rfl (hB1.at1 rfl) ?_)
        by_cases hc14 : (q.1 : Int) ≠ (3)
        · refine L_gy (dj := 21) rfl rfl rfl (X_cmp (k := .u8) (a := q.1) (b := 3) (r := true) rfl rfl rfl (decide_eq_true (p := ((q.1) : Int) ≠ ((3) : Int)) (by omega)) ?_)
          refine L_gy (dj := 21) rfl rfl rfl (X_move (v := (.bool (true))) rfl ?_)
          refine L_gn (dj := 25) (t := true) rfl rfl rfl rfl ?_
          refine L_gn (dj := 25) (t := true) rfl rfl rfl rfl ?_
          refine L_gn (dj := 25) (t := true) rfl rfl rfl rfl ?_
          refine L_gy (dj := 21) rfl rfl rfl (X_pick (t := true) (v := (.bool (true))) rfl rfl ?_)
          refine L_gy (dj := 18) rfl rfl rfl (X_pick (t := true) (v := (.bool (true))) rfl rfl ?_)
          refine L_op rfl (X_pick (t := false) (v := (.bool (true))) rfl rfl ?_)
          refine L_nil ?_
          refine T_n ?_
          refine W_ct rfl ?_
          refine W_seq ?_
          refine W_reg ?_
          refine L_op rfl (X_loadA (p := (ptr b2 (0))) (xs := ((List.replicate 256 (0 : UInt8)).map byteV)) A30 rfl hB2.atAll (by rw [List.length_map]; exact List.length_replicate) ?_)
          refine L_op0 (X_storeW (b := b2) (ys := ((List.replicate 256 (0 : UInt8)).map byteV)) A30 rfl rfl (byteV_one _) (by rw [List.length_map]; exact List.length_replicate) hB2 (by rw [List.size_toArray]; exact (by rw [List.length_map]; exact List.length_replicate)) ?_)
          intro w15 hu15 hb15
          have hz15 := hu15.size
          replace hb := hb.upd hu15 fun i hi h => by have hi := hb_b _ hi; have h : i = b2 := h; omega
          replace hU := hU.trans (hu15.mono fun i _ h => by have h : i = b2 := h; show n0 ≤ i; omega)
          replace hT := hT.upd hu15 fun i h1 h2 h => by have h : i = b2 := h; omega
          replace hB1 := hB1.upd hu15 fun h => by have h : b1 = b2 := h; omega
          replace hB2 := hb15
          refine L_op rfl (X_assign (v := (.int .i64 (2))) rfl ?_)
          refine L_nil ?_
          refine T_n ?_
          refine W_ret ?_
          refine T_r ?_
          have hno : ¬ EncOk l q := fun h => by obtain ⟨h1, h2, h3⟩ := h; rcases h3 with h3 | h3; (· exact ne_of_beq_false hc3 h3); (· omega)
          exact BQ_r (End_2 Tryd.results8 (RV_A A30 rfl hB2.atAll (by rw [List.length_map]; exact List.length_replicate)) (v2 := .int .i64 2) rfl ⟨by rw [encP_no hno, encE_no hno], hU.own hn0⟩)
        · refine L_gy (dj := 21) rfl rfl rfl (X_cmp (k := .u8) (a := q.1) (b := 3) (r := false) rfl rfl rfl (decide_eq_false (p := ((q.1) : Int) ≠ ((3) : Int)) (by omega)) ?_)
          refine L_gy (dj := 21) rfl rfl rfl (X_move (v := (.bool (false))) rfl ?_)
          refine L_gy (dj := 25) rfl rfl rfl (X_loadA (p := (ptr b1 (0))) (xs := ptC q) A28 rfl hB1.atAll rfl ?_)
          refine L_gy (dj := 25) rfl rfl rfl (X_fn (vs := [(.agg (ptC q).toArray), (.int .i64 (256))]) en17 rfl (CT.mono (c_right q 256 _ hq) ?_))
          rintro _ w16 ⟨rfl, hu16⟩
          have hz16 := hu16.size
          replace hb := hb.ext hu16
          replace hU := hU.trans (Ext.upd hu16)
          replace hT := hT.ext hu16
          replace hB1 := hB1.ext hu16
          replace hB2 := hB2.ext hu16
          rcases Bool.eq_false_or_eq_true (decide (RightP q 256)) with hc17 | hc17
          · rw [hc17]
            refine L_gy (dj := 25) rfl rfl rfl (X_not (b := true) (r := false) rfl rfl ?_)
            refine L_gy (dj := 21) rfl rfl rfl (X_pick (t := false) (v := (.bool (false))) rfl rfl ?_)
            refine L_gy (dj := 18) rfl rfl rfl (X_pick (t := true) (v := (.bool (false))) rfl rfl ?_)
            refine L_op rfl (X_pick (t := false) (v := (.bool (false))) rfl rfl ?_)
            refine L_nil ?_
            refine T_n ?_
            refine W_cf rfl ?_
            refine W_skip ?_
            refine T_n ?_
            refine W_seq ?_
            refine W_draw 8 [[], [], [0, 1], [], [0, 1, 2, 3], [0, 1, 2, 3, 4], [0, 1, 2, 3, 4, 5], [0, 1, 2, 3, 4, 5], [0, 1, 2, 3, 4, 5, 6, 7], [0, 1, 2, 3, 4, 5, 6, 7, 8]] mixed (by kernel_rfl) ?_
            refine ⟨.abs (fun _ x_ W_ => ∃ b, x_ = .slice (some ⟨b, 0, none⟩) 1 1 ∧ Blk W_ b #[.int .u8 3] 5), ⟨fun _ _ _ => rfl, fun _ _ _ _ hu h => (by obtain ⟨b, e1, e2⟩ := h; exact ⟨b, e1, e2.ext hu⟩)⟩, fun val h_ W hx he => ⟨trivial, ?_⟩, ?_⟩
            · replace hx := (Upd.drew _ _).trans hx
              replace hb := hb.ext hx
              replace hT := hT.ext hx
              replace hB1 := hB1.ext hx
              replace hB2 := hB2.ext hx
              have hE := Upd.refl (fun _ => False) W
              refine X_buildSlice1 (vs := [.int .u8 3]) S22 (by decide) rfl rfl (List.forall_mem_cons.2 ⟨rfl, fun _ h => by cases h⟩) ?_
              intro b w2 hn
              exact ⟨hn.ext, b, rfl, hn.blk⟩
            refine ⟨.det (fun val => b), ⟨fun _ _ hv => rfl, fun _ _ _ _ _ => trivial⟩, fun val h_ W hx he => ⟨trivial, ?_⟩, ?_⟩
            · replace hx := (Upd.drew _ _).trans hx
              replace hb := hb.ext hx
              replace hT := hT.ext hx
              replace hB1 := hB1.ext hx
              replace hB2 := hB2.ext hx
              have hE := Upd.refl (fun _ => False) W
              refine id (X_move (v := b) rfl ?_)
              exact ⟨hE, rfl⟩
            refine ⟨.abs (fun _ x_ W_ => Rd W_ 1 x_ ([3] ++ sizedB l).length (([3] ++ sizedB l).map byteV)), ⟨fun _ _ _ => rfl, fun _ _ _ _ hu h => (by have h2 := Rd.ext h hu; exact h2)⟩, fun val h_ W hx he => ⟨trivial, ?_⟩, ?_⟩
            · replace hx := (Upd.drew _ _).trans hx
              replace hb := hb.ext hx
              replace hT := hT.ext hx
              replace hB1 := hB1.ext hx
              replace hB2 := hB2.ext hx
              have hE := Upd.refl (fun _ => False) W
              obtain ⟨⟨bl, hbl, hBl⟩, _⟩ := he
              have hlit : Rd W 1 (val 0) [(3 : UInt8)].length ([(3 : UInt8)].map byteV) := by rw [hbl]; exact hBl.rd (o := 0) (n := 1) (c := 1) (sz := 1) (by decide) (by decide) rfl (fun j u hj => by rw [Nat.zero_add]; simpa [byteV] using hj)
              refine X_fn (vs := [val 0, b]) en20 rfl (CT.mono (c_putBytes (val 0) b [3] l _ (by decide) hlit hb) ?_)
              rintro v9 w9 ⟨hO9, hu9⟩
              exact ⟨hu9, hO9.rd⟩
            refine ⟨.det (fun val => (.agg (ptC q).toArray)), ⟨fun _ _ hv => rfl, fun _ _ _ _ _ => trivial⟩, fun val h_ W hx he => ⟨trivial, ?_⟩, ?_⟩
            · replace hx := (Upd.drew _ _).trans hx
              replace hb := hb.ext hx
              replace hT := hT.ext hx
              replace hB1 := hB1.ext hx
              replace hB2 := hB2.ext hx
              have hE := Upd.refl (fun _ => False) W
              refine id (X_loadA (p := (ptr b1 (0))) (xs := ptC q) A28 rfl hB1.atAll rfl ?_)
              exact ⟨hE, rfl⟩
            refine ⟨.abs (fun _ x_ W_ => Rd W_ 1 x_ (([3] ++ sizedB l) ++ ptrB q).length ((([3] ++ sizedB l) ++ ptrB q).map byteV)), ⟨fun _ _ _ => rfl, fun _ _ _ _ hu h => (by have h2 := Rd.ext h hu; exact h2)⟩, fun val h_ W hx he => ⟨trivial, ?_⟩, ?_⟩
            · replace hx := (Upd.drew _ _).trans hx
              replace hb := hb.ext hx
              replace hT := hT.ext hx
              replace hB1 := hB1.ext hx
              replace hB2 := hB2.ext hx
              have hE := Upd.refl (fun _ => False) W
              obtain ⟨hR2, _⟩ := he
              refine X_fn (vs := [val 2, .agg (ptC q).toArray]) en19 rfl (CT.mono (c_ptrPut (val 2) ([3] ++ sizedB l) q _ hq (by rw [List.length_append, sizedB_length, List.length_take]; show 1 + _ ≤ _; omega) hR2 hT) ?_)
              rintro v9 w9 ⟨hO9, hu9⟩
              exact ⟨hu9, hO9.rd⟩
            refine ⟨.det (fun _ => (.tuple #[(.agg (((encL l q)).map byteV).toArray), (.int .i64 (0))])), ⟨fun _ _ _ => rfl, fun _ _ _ _ _ => trivial⟩, fun val h_ W hx he => ⟨trivial, ?_⟩, ?_⟩
            · replace hx := (Upd.drew _ _).trans hx
              replace hb := hb.ext hx
              replace hT := hT.ext hx
              replace hB1 := hB1.ext hx
              replace hB2 := hB2.ext hx
              have hE := Upd.refl (fun _ => False) W
              obtain ⟨hR4, _⟩ := he
              refine X_fn (vs := [val 4]) en18 rfl (CT.mono (c_fill (val 4) (([3] ++ sizedB l) ++ ptrB q) _ hR4) ?_)
              rintro v9 w9 ⟨e, rfl, _, he0, hu9⟩
              rw [he0 (enc_big (by omega))]
              exact ⟨hu9, rfl⟩
            refine ⟨.det (fun val => (.agg (((encL l q)).map byteV).toArray)), ⟨fun _ _ hv => rfl, fun _ _ _ _ _ => trivial⟩, fun val h_ W hx he => ⟨trivial, ?_⟩, ?_⟩
            · replace hx := (Upd.drew _ _).trans hx
              replace hb := hb.ext hx
              replace hT := hT.ext hx
              replace hB1 := hB1.ext hx
              replace hB2 := hB2.ext hx
              have hE := Upd.refl (fun _ => False) W
              obtain ⟨hR4, he⟩ := he
              obtain ⟨hR2, he⟩ := he
              obtain ⟨⟨bl, hbl, hBl⟩, he⟩ := he
              refine id (X_extract (l := [(.agg (((encL l q)).map byteV).toArray), (.int .i64 (0))]) (v := (.agg (((encL l q)).map byteV).toArray)) rfl rfl ?_)
              exact ⟨hE, rfl⟩
            refine ⟨.det (fun val => (.int .i64 (0))), ⟨fun _ _ hv => rfl, fun _ _ _ _ _ => trivial⟩, fun val h_ W hx he => ⟨trivial, ?_⟩, ?_⟩
            · replace hx := (Upd.drew _ _).trans hx
              replace hb := hb.ext hx
              replace hT := hT.ext hx
              replace hB1 := hB1.ext hx
              replace hB2 := hB2.ext hx
              have hE := Upd.refl (fun _ => False) W
              obtain ⟨hR4, he⟩ := he
              obtain ⟨hR2, he⟩ := he
              obtain ⟨⟨bl, hbl, hBl⟩, he⟩ := he
              refine id (X_extract (l := [(.agg (((encL l q)).map byteV).toArray), (.int .i64 (0))]) (v := (.int .i64 (0))) rfl rfl ?_)
              exact ⟨hE, rfl⟩
            intro val W18 hx18 he18
            replace hx18 := (Upd.drew _ _).trans hx18
            have hz18 := hx18.size
            replace hb := hb.ext hx18
            replace hU := hU.trans (Ext.upd hx18)
            replace hT := hT.ext hx18
            replace hB1 := hB1.ext hx18
            replace hB2 := hB2.ext hx18
            obtain ⟨hR4, he18⟩ := he18
            obtain ⟨hR2, he18⟩ := he18
            obtain ⟨⟨bl, hbl, hBl⟩, he18⟩ := he18
            refine L_op0 (X_storeW (b := b2) (ys := (((encL l q)).map byteV)) A30 rfl rfl (byteV_one _) (by rw [List.length_map]; exact (encL_len l q)) hB2 (by rw [List.size_toArray]; exact (by rw [List.length_map]; exact List.length_replicate)) ?_)
            intro w19 hu19 hb19
            have hz19 := hu19.size
            replace hb := hb.upd hu19 fun i hi h => by have hi := hb_b _ hi; have h : i = b2 := h; omega
            replace hU := hU.trans (hu19.mono fun i _ h => by have h : i = b2 := h; show n0 ≤ i; omega)
            replace hT := hT.upd hu19 fun i h1 h2 h => by have h : i = b2 := h; omega
            replace hB1 := hB1.upd hu19 fun h => by have h : b1 = b2 := h; omega
            replace hB2 := hb19
            refine L_op rfl (X_assign (v := (.int .i64 (0))) rfl ?_)
            refine L_nil ?_
            refine T_n ?_
            refine W_ret ?_
            have hok : EncOk l q := ⟨by omega, by omega, .inr ⟨by omega, of_decide_eq_true hc17⟩⟩
            exact BQ_r (End_2 Tryd.results8 (RV_A A30 rfl hB2.atAll (by rw [List.length_map]; exact encL_len l q)) (v2 := .int .i64 0) rfl ⟨by rw [encP_ok hok, encE_ok hok], hU.own hn0⟩)
          · rw [hc17]
            refine L_gy (dj := 25) rfl rfl rfl (X_not (b := false) (r := true) rfl rfl ?_)
            refine L_gy (dj := 21) rfl rfl rfl (X_pick (t := false) (v := (.bool (true))) rfl rfl ?_)
            refine L_gy (dj := 18) rfl rfl rfl (X_pick (t := true) (v := (.bool (true))) rfl rfl ?_)
            refine L_op rfl (X_pick (t := false) (v := (.bool (true))) rfl rfl ?_)
            refine L_nil ?_
            refine T_n ?_
            refine W_ct rfl ?_
            refine W_seq ?_
            refine W_reg ?_
            refine L_op rfl (X_loadA (p := (ptr b2 (0))) (xs := ((List.replicate 256 (0 : UInt8)).map byteV)) A30 rfl hB2.atAll (by rw [List.length_map]; exact List.length_replicate) ?_)
            refine L_op0 (X_storeW (b := b2) (ys := ((List.replicate 256 (0 : UInt8)).map byteV)) A30 rfl rfl (byteV_one _) (by rw [List.length_map]; exact List.length_replicate) hB2 (by rw [List.size_toArray]; exact (by rw [List.length_map]; exact List.length_replicate)) ?_)
            intro w20 hu20 hb20
            have hz20 := hu20.size
            replace hb := hb.upd hu20 fun i hi h => by have hi := hb_b _ hi; have h : i = b2 := h; omega
            replace hU := hU.trans (hu20.mono fun i _ h => by have h : i = b2 := h; show n0 ≤ i; omega)
            replace hT := hT.upd hu20 fun i h1 h2 h => by have h : i = b2 := h; omega
            replace hB1 := hB1.upd hu20 fun h => by have h : b1 = b2 := h; omega
            replace hB2 := hb20
            refine L_op rfl (X_assign (v := (.int .i64 (2))) rfl ?_)
            refine L_nil ?_
            refine T_n ?_
            refine W_ret ?_
            refine T_r ?_
            have hno : ¬ EncOk l q := fun h => by obtain ⟨h1, h2, h3⟩ := h; rcases h3 with h3 | h3; (· exact ne_of_beq_false hc3 h3); (· exact of_decide_eq_false hc17 h3.2)
            exact BQ_r (End_2 Tryd.results8 (RV_A A30 rfl hB2.atAll (by rw [List.length_map]; exact List.length_replicate)) (v2 := .int .i64 2) rfl ⟨by rw [encP_no hno, encE_no hno], hU.own hn0⟩)

def manyN (n : Int) : Int := if n < 1 then 0 else (n - 1) / 200 + 1

theorem c_many (n : Int) (w : World) (hn : n < 9223372036854775808) : CT Tryd.prog 13 #[(.int .i64 (n))] w fun v w' => v = .int .i64 (manyN n) ∧ w = w' := by
  refine CT_of Tryd.func13 rfl rfl rfl ?_
  refine W_seq ?_
  refine W_reg ?_
  refine L_op rfl (X_assign (v := (.int .i64 (0))) rfl ?_)
  refine L_nil ?_
  refine T_n ?_
  refine W_seq ?_
  refine W_seq ?_
  refine W_reg ?_
  refine L_op rfl (X_move (v := (.int .i64 (n))) rfl ?_)
  by_cases hc1 : (n : Int) < (1)
  · refine L_op rfl (X_cmp (k := .i64) (a := n) (b := 1) (r := true) rfl rfl rfl (decide_eq_true (p := ((n) : Int) < ((1) : Int)) (by omega)) ?_)
    refine L_nil ?_
    refine T_n ?_
    refine W_ct rfl ?_
    refine W_seq ?_
    refine W_reg ?_
    refine L_op rfl (X_assign (v := (.int .i64 (0))) rfl ?_)
    refine L_nil ?_
    refine T_n ?_
    refine W_ret ?_
    refine T_r ?_
    exact BQ_r (End_1 Tryd.results13 (v := .int .i64 (0)) rfl ⟨by rw [show manyN n = 0 from if_pos (by omega)], rfl⟩)
  · refine L_op rfl (X_cmp (k := .i64) (a := n) (b := 1) (r := false) rfl rfl rfl (decide_eq_false (p := ((n) : Int) < ((1) : Int)) (by omega)) ?_)
    refine L_nil ?_
    refine T_n ?_
    refine W_cf rfl ?_
    refine W_skip ?_
    refine T_n ?_
    refine W_seq ?_
    refine W_reg ?_
    refine L_op rfl (X_move (v := (.int .i64 (n))) rfl ?_)
    refine L_op rfl (X_arith (k := .i64) (a := n) (b := 1) (r := (n - 1 : Int)) rfl rfl rfl (isub64 rfl (by omega) (by omega)) ?_)
    refine L_op rfl (X_arith (k := .i64) (a := (n - 1 : Int)) (b := 200) (r := ((n - 1 : Int) / 200 : Int)) rfl rfl rfl (iquo64 (by omega) rfl (by omega) (by omega)) ?_)
    refine L_op rfl (X_arith (k := .i64) (a := ((n - 1 : Int) / 200 : Int)) (b := 1) (r := (((n - 1 : Int) / 200 : Int) + 1 : Int)) rfl rfl rfl (iadd64 rfl (by omega) (by omega)) ?_)
    refine L_op rfl (X_assign (v := (.int .i64 ((((n - 1 : Int) / 200 : Int) + 1 : Int)))) rfl ?_)
    refine L_nil ?_
    refine T_n ?_
    refine W_ret ?_
    exact BQ_r (End_1 Tryd.results13 (v := .int .i64 ((((n - 1 : Int) / 200 : Int) + 1 : Int))) rfl ⟨by rw [show manyN n = (n - 1) / 200 + 1 from if_neg (by omega)], rfl⟩)
end Go.Proofs.YtmggaahkfidfaaaDoor
