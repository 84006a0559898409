/-
  The contracts of leaves: Encode. (Printed by wip/gen/t06g.py of this repo.)
-/
import Derived.Test.YtmddmghgkkjbiaaDoorItemsB
import Derived.Test.YtmddmghgkkjbiaaDoorBaseWS
namespace Go.Proofs.YtmddmghgkkjbiaaDoor
open Go Go.SL Go.Proofs
set_option linter.unusedVariables false

/-- an item's bytes -/
def putI (d : ID) : List UInt8 := sizedB d.1 ++ (if d.2.2.1.1 = 0 then 0 :: sizedB d.2.1 else 1 :: (numB d.2.2.2.toNat 2 ++ ptrB d.2.2.1))
def encF (ds : List ID) (i : Nat) : List UInt8 := [1, UInt8.ofNat ds.length] ++ (ds.take i).flatMap putI
theorem encF_val {ds : List ID} {i : Nat} {d : ID} (h : ds[i]? = some d) (h0 : d.2.2.1.1 = 0) : encF ds (i + 1) = ((encF ds i ++ sizedB d.1) ++ [0]) ++ sizedB d.2.1 := by
  unfold encF
  rw [List.take_add_one, h]
  simp [putI, h0, List.append_assoc]
theorem encF_over {ds : List ID} {i : Nat} {d : ID} (h : ds[i]? = some d) (h0 : ¬ d.2.2.1.1 = 0) : encF ds (i + 1) = (((encF ds i ++ sizedB d.1) ++ [1]) ++ numB d.2.2.2.toNat 2) ++ ptrB d.2.2.1 := by
  unfold encF
  rw [List.take_add_one, h]
  simp [putI, h0, List.append_assoc]
theorem putI_len {d : ID} (h : RightT d) : (putI d).length ≤ 29 := by
  obtain ⟨⟨h1, h2⟩, h3⟩ := h
  unfold putI
  rw [List.length_append, sizedB_length, List.length_take]
  split
  · rw [List.length_cons, sizedB_length, List.length_take]; omega
  · rw [List.length_cons, List.length_append, numB_length, ptrB_len]; omega
theorem encF_len {ds : List ID} (h : ∀ d ∈ ds, RightT d) : ∀ i, (encF ds i).length ≤ 2 + 29 * i
  | 0 => by unfold encF; simp
  | i + 1 => by
    have ih := encF_len h i
    cases hd : ds[i]? with
    | none =>
      have e : encF ds (i + 1) = encF ds i := by unfold encF; rw [List.take_add_one, hd]; simp
      rw [e]; omega
    | some d =>
      have e : encF ds (i + 1) = encF ds i ++ putI d := by unfold encF; rw [List.take_add_one, hd]; simp [List.append_assoc]
      rw [e, List.length_append]
      have := putI_len (h d (List.mem_of_getElem? hd))
      omega
theorem right_mem {ds : List ID} (h : RightI ds) : ∀ d ∈ ds, RightT d := by
  intro d hd
  obtain ⟨j, hj, rfl⟩ := List.getElem_of_mem hd
  rw [← dT_get hj]
  exact (h.2 j hj).1
def encI (ds : List ID) : List UInt8 := fillL (encF ds ds.length)
theorem encI_len (ds : List ID) : (encI ds).length = 256 := fillL_length _
def encP (ds : List ID) : List UInt8 := if RightI ds then encI ds else List.replicate 256 0
def encE (ds : List ID) : Int := if RightI ds then 0 else 2
theorem encP_len (ds : List ID) : (encP ds).length = 256 := by unfold encP; split; exact encI_len ds; exact List.length_replicate
theorem ds_at {es : List IE} {i : Nat} {e : IE} (h : es[i]? = some e) : (dsI es)[i]? = some e.2.2 := by unfold dsI; rw [List.getElem?_map, h]; rfl
theorem u64_wrap {a : Int} (h0 : 0 ≤ a) (h1 : a < 65536) : IntKind.u64.wrap a = a := by
  have e : (2 : Int) ^ 64 = 18446744073709551616 := by decide
  simp only [IntKind.wrap, IntKind.signed, IntKind.bits, e, Bool.false_and, Bool.false_eq_true, if_false]
  omega

theorem c_encodeI (l : Value) (es : List IE) (w : World) (lo up : Nat) (hup : up ≤ w.heap.size) (hl : NRd LT w lo up l es) (hpt : ∀ e ∈ es, ItOk e.2.2) (hT : TabR w) : CT Tryd.prog 10 #[l] w fun v w' => v = .tuple #[.agg ((encP (dsI es)).map byteV).toArray, .int .i64 (encE (dsI es))] ∧ Ext w w' := by
  obtain ⟨n0, hn0⟩ : ∃ n, n = w.heap.size := ⟨_, rfl⟩
  have hU : Upd (fun i => n0 ≤ i) w w := Upd.refl _ _
  have hmx := hl.sv.len
  rw [← hn0] at hup
  have hn1 := tab_pos hT
  refine CT_of Tryd.func10 rfl rfl rfl ?_
  refine W_seq ?_
  refine W_reg ?_
  refine L_op rfl (X_alloc (z := zv24) (c := zc24.toArray) Zv24 rfl ?_)
  intro b1 w1 hn1
  have hbn1 := hn1.num; have hbs1 := hn1.size
  replace hl := hl.ext hn1.ext
  replace hU := hU.trans (Ext.upd hn1.ext)
  replace hT := hT.ext hn1.ext
  have hB1 := hn1.blk
  rw [zc24_eq] at hB1
  refine L_op rfl (X_assign (v := (.int .i64 (0))) rfl ?_)
  refine L_nil ?_
  refine T_n ?_
  refine W_seq ?_
  refine W_seq ?_
  refine W_reg ?_
  refine L_op rfl (X_move (v := l) rfl ?_)
  refine L_op rfl (X_fn (vs := [l]) en14 rfl (CT.mono (c_rightI l es _ lo up (by omega) hl hpt) ?_))
  rintro _ w2 ⟨rfl, hu2⟩
  have hz2 := hu2.size
  replace hl := hl.ext hu2
  replace hU := hU.trans (Ext.upd hu2)
  replace hT := hT.ext hu2
  replace hB1 := hB1.ext hu2
  rcases Bool.eq_false_or_eq_true (decide (RightI (dsI es))) with hc3 | hc3
  · rw [hc3]
    refine L_op rfl (X_not (b := true) (r := false) rfl rfl ?_)
    refine L_nil ?_
    refine T_n ?_
    refine W_cf rfl ?_
    refine W_skip ?_
    refine T_n ?_
    refine W_seq ?_
    have hR_ := of_decide_eq_true hc3
    have hlR := right_mem hR_
    have hn6 := hR_.1
    rw [dsI_len] at hn6
    refine W_reg ?_
    refine L_op rfl (X_move (v := l) rfl ?_)
    refine L_op rfl (X_len (v := l) (n := es.length) Tryd.underlying22 rfl hl.sv ?_)
    refine L_op rfl (X_convInt (k := .i64) (a := ((es.length : Nat) : Int)) (r := ((UInt8.ofNat es.length).toNat : Int)) (by rw [Tryd.underlying3]; rfl) Tryd.underlying5 rfl (u8_wrap _) ?_)
    refine L_op rfl (X_buildSlice1 (vs := [(.int .u8 (1)), (.int .u8 (((UInt8.ofNat es.length).toNat : Int)))]) S35 (by decide) rfl rfl (List.forall_mem_cons.2 ⟨rfl, (List.forall_mem_cons.2 ⟨rfl, (fun _ h => by cases h)⟩)⟩) ?_)
    intro b4 w4 hn4
    have hbn4 := hn4.num; have hbs4 := hn4.size
    replace hl := hl.ext hn4.ext
    replace hU := hU.trans (Ext.upd hn4.ext)
    replace hT := hT.ext hn4.ext
    replace hB1 := hB1.ext hn4.ext
    have hB4 := hn4.blk
    have hR0 : Rd w4 1 (.slice (some ⟨b4, 0, none⟩) 2 2) (encF (dsI es) 0).length ((encF (dsI es) 0).map byteV) := hB4.rd (o := 0) (n := 2) (c := 2) (sz := 1) (by decide) (by decide) rfl (fun j u hj => by rw [Nat.zero_add]; simpa [encF, byteV] using hj)
    refine L_op rfl (X_assign (v := (.slice (some ⟨b4, 0, none⟩) 2 2)) rfl ?_)
    refine L_nil ?_
    refine T_n ?_
    refine W_seq ?_
    refine W_seq ?_
    refine W_reg ?_
    refine L_op rfl (X_move (v := l) rfl ?_)
    refine L_op rfl (X_len (v := l) (n := es.length) Tryd.underlying22 rfl hl.sv ?_)
    refine L_op rfl (X_move (v := (.int .i64 (0))) rfl ?_)
    refine L_nil ?_
    refine T_n ?_
    refine W_block ?_
    refine W_loop (α := Nat × Value) [4, 6, 17, 18, 19, 20, 21, 22, 23, 24, 25, 26, 27, 28, 29, 30, 31, 32, 33, 34, 35, 36, 37, 38, 39, 40, 41, 42, 43, 44, 45] (fun ⟨i, u⟩ => [(17, (.int .i64 (((i : Nat) : Int)))), (4, u)]) (fun ⟨i, u⟩ w_ => i ≤ es.length ∧ NRd LT w_ lo up l es ∧ Rd w_ 1 u (encF (dsI es) i).length ((encF (dsI es) i).map byteV) ∧ TabR w_ ∧ Blk w_ b1 ((List.replicate 256 (0 : UInt8)).map byteV).toArray 24 ∧ Upd (fun i => n0 ≤ i) w w_) (fun ⟨i, u⟩ => es.length - i) ⟨rfl, (0, (.slice (some ⟨b4, 0, none⟩) 2 2)), ⟨Nat.zero_le _, hl, hR0, hT, hB1, hU⟩, Out.refl _ _, ⟨rfl, rfl, trivial⟩⟩ ?_
    rintro ⟨i, u⟩ w5 _ ⟨hil, hl, hR, hT, hB1, hU⟩
    have hsz_ := hU.size
    have hb1l := hB1.lt
    have hR_b : ∀ b, rbk u = some b → b < w5.heap.size := fun b hb => hR.bound (by decide) hb
    refine W_seq ?_
    refine W_reg ?_
    by_cases hc6 : (((i : Nat) : Int) : Int) < (((es.length : Nat) : Int))
    · refine L_op rfl (X_cmp (k := .i64) (a := ((i : Nat) : Int)) (b := ((es.length : Nat) : Int)) (r := true) rfl rfl rfl (decide_eq_true (p := ((((i : Nat) : Int)) : Int) < ((((es.length : Nat) : Int)) : Int)) (by omega)) ?_)
      have hi : i < es.length := by omega
      obtain ⟨e, hei⟩ : ∃ e, es[i]? = some e := ⟨_, List.getElem?_eq_getElem hi⟩
      have hkl := (irdk hl hei).len
      have hvl := (irdv hl hei).len
      have hel := encF_len hlR i
      have hrt := hlR _ (List.mem_of_getElem? (ds_at hei))
      have hit := hpt e (List.mem_of_getElem? hei)
      obtain ⟨hk1, hk8⟩ := hrt.1
      refine L_nil ?_
      refine T_n ?_
      refine W_seq ?_
      refine W_ct rfl ?_
      refine W_skip ?_
      refine T_n ?_
      refine W_seq ?_
      refine W_block ?_
      refine W_seq ?_
      refine W_reg ?_
      refine L_op rfl (X_idx (v := l) (n := es.length) (k := .i64) (i := ((i : Nat) : Int)) S22 rfl hl.sv rfl (by omega) (by omega) ?_)
      refine L_op rfl (X_loadA (xs := itC e) A43 rfl (iall hl (Int.toNat_natCast _) hei) rfl ?_)
      refine L_op rfl (X_alloc (z := (.agg #[(.slice none 0 0), (.slice none 0 0), (.int .u8 (0)), (.int .u16 (0)), (.int .u16 (0)), (.int .u32 (0)), (.int .u64 (0)), (.int .u16 (0))])) (c := #[(.slice none 0 0), (.slice none 0 0), (.int .u8 (0)), (.int .u16 (0)), (.int .u16 (0)), (.int .u32 (0)), (.int .u64 (0)), (.int .u16 (0))]) Zv43 rfl ?_)
      intro b7 w7 hn7
      have hbn7 := hn7.num; have hbs7 := hn7.size
      replace hl := hl.ext hn7.ext
      replace hU := hU.trans (Ext.upd hn7.ext)
      replace hT := hT.ext hn7.ext
      replace hR := hR.ext hn7.ext
      replace hB1 := hB1.ext hn7.ext
      have hB7 := hn7.blk
      refine L_op0 (X_storeW (b := b7) (ys := itC e) A43 rfl rfl (ione hl hei) rfl hB7 rfl ?_)
      intro w8 hu8 hb8
      have hz8 := hu8.size
      replace hl := hl.upd hu8 fun i h1 h2 h => by have h : i = b7 := h; omega
      replace hU := hU.trans (hu8.mono fun i _ h => by have h : i = b7 := h; show n0 ≤ i; omega)
      replace hT := hT.upd hu8 fun i h1 h2 h => by have h : i = b7 := h; omega
      replace hR := hR.upd hu8 fun i hi h => by have hi := hR_b _ hi; have h : i = b7 := h; omega
      replace hB1 := hB1.upd hu8 fun h => by have h : b1 = b7 := h; omega
      replace hB7 := hb8
      refine L_nil ?_
      refine T_n ?_
      refine W_seq ?_
      refine W_reg ?_
      refine L_op rfl (X_move (v := u) rfl ?_)
      refine L_op rfl (X_fldP (b := b7) (o := 0) (r := 0) Fd43_0 rfl rfl ?_)
      refine L_op rfl (X_load (p := (ptr b7 (0))) (v := e.1) T35 rfl (hB7.at1 rfl) ?_)
      obtain ⟨s7, hs7⟩ : ∃ n, n = w8.heap.size := ⟨_, rfl⟩
      refine L_op rfl (X_fn (vs := [u, e.1]) en20 rfl (CT.mono (c_putBytes u e.1 (encF (dsI es) i) e.2.2.1 _ (by omega) hR (irdk hl hei)) ?_))
      rintro v7 w7 ⟨hO7, hu7⟩
      have hz7 := hu7.size
      rw [← hs7] at hO7
      replace hl := hl.ext hu7
      replace hU := hU.trans (Ext.upd hu7)
      replace hT := hT.ext hu7
      replace hB1 := hB1.ext hu7
      replace hB7 := hB7.ext hu7
      have hO7_b : ∀ b, obk v7 = some b → s7 ≤ b ∧ b < w7.heap.size := fun b hb => hO7.lt hb
      obtain ⟨N7, hN7⟩ : ∃ n, n = w7.heap.size := ⟨_, rfl⟩
      refine L_op rfl (X_assign (v := v7) rfl ?_)
      refine L_nil ?_
      refine T_n ?_
      refine W_seq ?_
      refine W_reg ?_
      refine L_op rfl (X_fldP (b := b7) (o := 0) (r := 2) Fd43_2 rfl rfl ?_)
      refine L_op rfl (X_fldP (b := b7) (o := 2) (r := 2) Fd41_0 rfl rfl ?_)
      refine L_op rfl (X_load (p := (ptr b7 (2))) (v := (.int .u8 (e.2.2.2.2.1.1))) T5 rfl (hB7.at1 rfl) ?_)
      by_cases hc9 : (e.2.2.2.2.1.1 : Int) = (0)
      · refine L_op rfl (X_cmp (k := .u8) (a := e.2.2.2.2.1.1) (b := 0) (r := true) rfl rfl rfl (decide_eq_true (p := ((e.2.2.2.2.1.1) : Int) = ((0) : Int)) (by omega)) ?_)
        refine L_nil ?_
        refine T_n ?_
        refine W_ct rfl ?_
        refine W_drawS 5 [[], [], [0, 1], [], [3], [0, 1, 2, 3, 4], [0, 1, 2, 3, 4, 5]] (fun j b => (j = 2 ∧ obk v7 = some b)) mixed (by kernel_rfl) ?_
        refine ⟨.det (fun val => v7), ⟨fun _ _ hv => rfl, fun _ _ _ _ _ => trivial⟩, fun val h_ W hx he => ⟨trivial, ?_⟩, ?_⟩
        · replace hx := (Upd.drew _ _).trans hx
          replace hx : Upd (fun b => False) w7 W := hx.mono fun b _ h_ => by obtain ⟨j, _, hne, hm_, hS⟩ := h_; obtain ⟨rfl, hS⟩ := hS; exact absurd hm_ (by decide)
          replace hl := hl.ext hx
          replace hT := hT.ext hx
          replace hB1 := hB1.ext hx
          replace hB7 := hB7.ext hx
          replace hO7 := hO7.ext hx
          have hE := Upd.refl (fun _ => False) W
          refine id (X_move (v := v7) rfl ?_)
          exact ⟨Ext.upd hE, rfl⟩
        refine ⟨.abs (fun _ x_ W_ => ∃ b, x_ = .slice (some ⟨b, 0, none⟩) 1 1 ∧ N7 ≤ b ∧ Blk W_ b #[.int .u8 0] 5), ⟨fun _ _ _ => rfl, fun _ _ _ _ hu0 h => have hu : Upd (fun b => (obk v7 = some b)) _ _ := hu0.mono fun b _ h_ => (by obtain ⟨j, _, hne, hm_, hS⟩ := h_; obtain ⟨rfl, hS⟩ := hS; exact hS)
           (by obtain ⟨b, e1, e2, e3⟩ := h; exact ⟨b, e1, e2, e3.upd hu fun h => by have := hO7_b b h; omega⟩)⟩, fun val h_ W hx he => ⟨trivial, ?_⟩, ?_⟩
        · replace hx := (Upd.drew _ _).trans hx
          replace hx : Upd (fun b => False) w7 W := hx.mono fun b _ h_ => by obtain ⟨j, _, hne, hm_, hS⟩ := h_; obtain ⟨rfl, hS⟩ := hS; exact absurd hm_ (by decide)
          replace hl := hl.ext hx
          replace hT := hT.ext hx
          replace hB1 := hB1.ext hx
          replace hB7 := hB7.ext hx
          replace hO7 := hO7.ext hx
          have hE := Upd.refl (fun _ => False) W
          refine X_buildSlice1 (vs := [.int .u8 0]) S35 (by decide) rfl rfl (List.forall_mem_cons.2 ⟨rfl, fun _ h => by cases h⟩) ?_
          intro b w2 hn
          have hnn := hn.num
          have hxs := hx.size
          exact ⟨Ext.upd hn.ext, b, rfl, by omega, hn.blk⟩
        refine ⟨.abs (fun _ x_ W_ => Rd W_ 1 x_ (((encF (dsI es) i) ++ sizedB e.2.2.1) ++ [0]).length ((((encF (dsI es) i) ++ sizedB e.2.2.1) ++ [0]).map byteV)), ⟨fun _ _ _ => rfl, fun _ _ _ _ hu0 h => have hu : Upd (fun b => False) _ _ := hu0.mono fun b _ h_ => (by obtain ⟨j, _, hne, hm_, hS⟩ := h_; obtain ⟨rfl, hS⟩ := hS; exact absurd rfl hne)
           (by have h2 := Rd.ext h hu; exact h2)⟩, fun val h_ W hx he => ⟨trivial, ?_⟩, ?_⟩
        · replace hx := (Upd.drew _ _).trans hx
          replace hx : Upd (fun b => False) w7 W := hx.mono fun b _ h_ => by obtain ⟨j, _, hne, hm_, hS⟩ := h_; obtain ⟨rfl, hS⟩ := hS; exact absurd rfl hne
          replace hl := hl.ext hx
          replace hT := hT.ext hx
          replace hB1 := hB1.ext hx
          replace hB7 := hB7.ext hx
          replace hO7 := hO7.ext hx
          have hE := Upd.refl (fun _ => False) W
          obtain ⟨⟨bl, hbl, hbN, hBl⟩, _⟩ := he
          refine X_append (B := s7) (n := ((encF (dsI es) i) ++ sizedB e.2.2.1).length) (s := v7) (x := .slice (some ⟨bl, 0, none⟩) 1 1) S35 ⟨_, Tryd.underlying35⟩ rfl hbl hO7 (m := 1) (ys := [byteV 0]) (hBl.rd (o := 0) (n := 1) (c := 1) (sz := 1) (by decide) (by decide) rfl (fun j u hj => by rw [Nat.zero_add]; simpa [byteV] using hj)) (List.forall_mem_cons.2 ⟨rfl, fun _ h => by cases h⟩) (by rw [List.length_append, sizedB_length, List.length_take]; unfold maxLen; omega) (by rw [List.length_append, sizedB_length, List.length_take]; omega) (by have := hx.size; omega) ?_
          intro v5 w5 hO5 hu5 _
          exact ⟨hu5.mono fun b _ h => ⟨rfl, h⟩, (hO5.eq (n' := (((encF (dsI es) i) ++ sizedB e.2.2.1) ++ [0]).length) (xs' := (((encF (dsI es) i) ++ sizedB e.2.2.1) ++ [0]).map byteV) (by rw [List.length_append (bs := [_])]; rfl) (by rw [List.map_append (l₂ := [_])]; rfl)).rd⟩
        refine ⟨.det (fun val => (ptr b7 (1))), ⟨fun _ _ hv => rfl, fun _ _ _ _ _ => trivial⟩, fun val h_ W hx he => ⟨trivial, ?_⟩, ?_⟩
        · replace hx := (Upd.drew _ _).trans hx
          replace hx : Upd (fun b => (obk v7 = some b)) w7 W := hx.mono fun b _ h_ => by obtain ⟨j, _, hne, hm_, hS⟩ := h_; obtain ⟨rfl, hS⟩ := hS; exact hS
          replace hl := hl.upd hx fun i h1 h2 h => by have h1 := hO7_b i h; omega
          replace hT := hT.upd hx fun i h1 h2 h => by have h1 := hO7_b i h; omega
          replace hB1 := hB1.upd hx fun h => by have h1 := hO7_b b1 h; omega
          replace hB7 := hB7.upd hx fun h => by have h1 := hO7_b b7 h; omega
          have hE := Upd.refl (fun _ => False) W
          refine id (X_fldP (b := b7) (o := 0) (r := 1) Fd43_1 rfl rfl ?_)
          exact ⟨Ext.upd hE, rfl⟩
        refine ⟨.det (fun val => e.2.1), ⟨fun _ _ hv => rfl, fun _ _ _ _ _ => trivial⟩, fun val h_ W hx he => ⟨trivial, ?_⟩, ?_⟩
        · replace hx := (Upd.drew _ _).trans hx
          replace hx : Upd (fun b => (obk v7 = some b)) w7 W := hx.mono fun b _ h_ => by obtain ⟨j, _, hne, hm_, hS⟩ := h_; obtain ⟨rfl, hS⟩ := hS; exact hS
          replace hl := hl.upd hx fun i h1 h2 h => by have h1 := hO7_b i h; omega
          replace hT := hT.upd hx fun i h1 h2 h => by have h1 := hO7_b i h; omega
          replace hB1 := hB1.upd hx fun h => by have h1 := hO7_b b1 h; omega
          replace hB7 := hB7.upd hx fun h => by have h1 := hO7_b b7 h; omega
          have hE := Upd.refl (fun _ => False) W
          refine id (X_load (p := (ptr b7 (1))) (v := e.2.1) T35 rfl (hB7.at1 rfl) ?_)
          exact ⟨Ext.upd hE, rfl⟩
        intro val W10 hx10 he10
        replace hx10 := (Upd.drew _ _).trans hx10
        replace hx10 : Upd (fun b => (obk v7 = some b)) w7 W10 := hx10.mono fun b _ h_ => by obtain ⟨j, _, hS⟩ := h_; obtain ⟨rfl, hS⟩ := hS; exact hS
        have hz10 := hx10.size
        replace hl := hl.upd hx10 fun i h1 h2 h => by have h1 := hO7_b i h; omega
        replace hU := hU.trans (hx10.mono fun i _ h => by have h1 := hO7_b i h; show n0 ≤ i; omega)
        replace hT := hT.upd hx10 fun i h1 h2 h => by have h1 := hO7_b i h; omega
        replace hB1 := hB1.upd hx10 fun h => by have h1 := hO7_b b1 h; omega
        replace hB7 := hB7.upd hx10 fun h => by have h1 := hO7_b b7 h; omega
        obtain ⟨hR2, he10⟩ := he10
        obtain ⟨⟨bl, hbl, hbN, hBl⟩, he10⟩ := he10
        refine L_op rfl (X_fn (vs := [(val 2), e.2.1]) en20 rfl (CT.mono (c_putBytes (val 2) e.2.1 (((encF (dsI es) i) ++ sizedB e.2.2.1) ++ [0]) e.2.2.2.1 _ (by rw [List.length_append, List.length_append, sizedB_length, List.length_take]; show _ + 1 ≤ _; omega) hR2 (irdv hl hei)) ?_))
        rintro v11 w11 ⟨hO11, hu11⟩
        have hz11 := hu11.size
        rw [← encF_val (ds_at hei) (by show e.2.2.2.2.1.1 = 0; omega)] at hO11
        replace hl := hl.ext hu11
        replace hU := hU.trans (Ext.upd hu11)
        replace hT := hT.ext hu11
        replace hB1 := hB1.ext hu11
        replace hB7 := hB7.ext hu11
        refine L_op rfl (X_assign (v := v11) rfl ?_)
        refine L_nil ?_
        refine B_n ?_
        refine T_n ?_
        refine W_reg ?_
        refine L_op rfl (X_arith (k := .i64) (a := ((i : Nat) : Int)) (b := 1) (r := ((i + 1 : Nat) : Int)) rfl rfl rfl (iadd64 (by omega) (by omega) (by omega)) ?_)
        refine L_op rfl (X_move (v := (.int .i64 (((i + 1 : Nat) : Int)))) rfl ?_)
        refine L_nil ?_
        refine T_n ?_
        exact ⟨rfl, (i + 1, v11), ⟨⟨hi, hl, hO11.rd, hT, hB1, hU⟩, (by show es.length - (i + 1) < es.length - i; omega)⟩, (Out.mk rfl), ⟨rfl, rfl, trivial⟩⟩
      · refine L_op rfl (X_cmp (k := .u8) (a := e.2.2.2.2.1.1) (b := 0) (r := false) rfl rfl rfl (decide_eq_false (p := ((e.2.2.2.2.1.1) : Int) = ((0) : Int)) (by omega)) ?_)
        refine L_nil ?_
        refine T_n ?_
        refine W_cf rfl ?_
        refine W_drawS 9 [[], [], [0, 1], [], [3], [3, 4], [0, 1, 2, 3, 4, 5], [], [7], [0, 1, 2, 3, 4, 5, 6, 7, 8], [0, 1, 2, 3, 4, 5, 6, 7, 8, 9]] (fun j b => (j = 2 ∧ obk v7 = some b)) mixed (by kernel_rfl) ?_
        refine ⟨.det (fun val => v7), ⟨fun _ _ hv => rfl, fun _ _ _ _ _ => trivial⟩, fun val h_ W hx he => ⟨trivial, ?_⟩, ?_⟩
        · replace hx := (Upd.drew _ _).trans hx
          replace hx : Upd (fun b => False) w7 W := hx.mono fun b _ h_ => by obtain ⟨j, _, hne, hm_, hS⟩ := h_; obtain ⟨rfl, hS⟩ := hS; exact absurd hm_ (by decide)
          replace hl := hl.ext hx
          replace hT := hT.ext hx
          replace hB1 := hB1.ext hx
          replace hB7 := hB7.ext hx
          replace hO7 := hO7.ext hx
          have hE := Upd.refl (fun _ => False) W
          refine id (X_move (v := v7) rfl ?_)
          exact ⟨Ext.upd hE, rfl⟩
        refine ⟨.abs (fun _ x_ W_ => ∃ b, x_ = .slice (some ⟨b, 0, none⟩) 1 1 ∧ N7 ≤ b ∧ Blk W_ b #[.int .u8 1] 5), ⟨fun _ _ _ => rfl, fun _ _ _ _ hu0 h => have hu : Upd (fun b => (obk v7 = some b)) _ _ := hu0.mono fun b _ h_ => (by obtain ⟨j, _, hne, hm_, hS⟩ := h_; obtain ⟨rfl, hS⟩ := hS; exact hS)
           (by obtain ⟨b, e1, e2, e3⟩ := h; exact ⟨b, e1, e2, e3.upd hu fun h => by have := hO7_b b h; omega⟩)⟩, fun val h_ W hx he => ⟨trivial, ?_⟩, ?_⟩
        · replace hx := (Upd.drew _ _).trans hx
          replace hx : Upd (fun b => False) w7 W := hx.mono fun b _ h_ => by obtain ⟨j, _, hne, hm_, hS⟩ := h_; obtain ⟨rfl, hS⟩ := hS; exact absurd hm_ (by decide)
          replace hl := hl.ext hx
          replace hT := hT.ext hx
          replace hB1 := hB1.ext hx
          replace hB7 := hB7.ext hx
          replace hO7 := hO7.ext hx
          have hE := Upd.refl (fun _ => False) W
          refine X_buildSlice1 (vs := [.int .u8 1]) S35 (by decide) rfl rfl (List.forall_mem_cons.2 ⟨rfl, fun _ h => by cases h⟩) ?_
          intro b w2 hn
          have hnn := hn.num
          have hxs := hx.size
          exact ⟨Ext.upd hn.ext, b, rfl, by omega, hn.blk⟩
        refine ⟨.abs (fun _ x_ W_ => Rd W_ 1 x_ (((encF (dsI es) i) ++ sizedB e.2.2.1) ++ [1]).length ((((encF (dsI es) i) ++ sizedB e.2.2.1) ++ [1]).map byteV)), ⟨fun _ _ _ => rfl, fun _ _ _ _ hu0 h => have hu : Upd (fun b => False) _ _ := hu0.mono fun b _ h_ => (by obtain ⟨j, _, hne, hm_, hS⟩ := h_; obtain ⟨rfl, hS⟩ := hS; exact absurd rfl hne)
           (by have h2 := Rd.ext h hu; exact h2)⟩, fun val h_ W hx he => ⟨trivial, ?_⟩, ?_⟩
        · replace hx := (Upd.drew _ _).trans hx
          replace hx : Upd (fun b => False) w7 W := hx.mono fun b _ h_ => by obtain ⟨j, _, hne, hm_, hS⟩ := h_; obtain ⟨rfl, hS⟩ := hS; exact absurd rfl hne
          replace hl := hl.ext hx
          replace hT := hT.ext hx
          replace hB1 := hB1.ext hx
          replace hB7 := hB7.ext hx
          replace hO7 := hO7.ext hx
          have hE := Upd.refl (fun _ => False) W
          obtain ⟨⟨bl, hbl, hbN, hBl⟩, _⟩ := he
          refine X_append (B := s7) (n := ((encF (dsI es) i) ++ sizedB e.2.2.1).length) (s := v7) (x := .slice (some ⟨bl, 0, none⟩) 1 1) S35 ⟨_, Tryd.underlying35⟩ rfl hbl hO7 (m := 1) (ys := [byteV 1]) (hBl.rd (o := 0) (n := 1) (c := 1) (sz := 1) (by decide) (by decide) rfl (fun j u hj => by rw [Nat.zero_add]; simpa [byteV] using hj)) (List.forall_mem_cons.2 ⟨rfl, fun _ h => by cases h⟩) (by rw [List.length_append, sizedB_length, List.length_take]; unfold maxLen; omega) (by rw [List.length_append, sizedB_length, List.length_take]; omega) (by have := hx.size; omega) ?_
          intro v5 w5 hO5 hu5 _
          exact ⟨hu5.mono fun b _ h => ⟨rfl, h⟩, (hO5.eq (n' := (((encF (dsI es) i) ++ sizedB e.2.2.1) ++ [1]).length) (xs' := (((encF (dsI es) i) ++ sizedB e.2.2.1) ++ [1]).map byteV) (by rw [List.length_append (bs := [_])]; rfl) (by rw [List.map_append (l₂ := [_])]; rfl)).rd⟩
        refine ⟨.det (fun val => (ptr b7 (7))), ⟨fun _ _ hv => rfl, fun _ _ _ _ _ => trivial⟩, fun val h_ W hx he => ⟨trivial, ?_⟩, ?_⟩
        · replace hx := (Upd.drew _ _).trans hx
          replace hx : Upd (fun b => (obk v7 = some b)) w7 W := hx.mono fun b _ h_ => by obtain ⟨j, _, hne, hm_, hS⟩ := h_; obtain ⟨rfl, hS⟩ := hS; exact hS
          replace hl := hl.upd hx fun i h1 h2 h => by have h1 := hO7_b i h; omega
          replace hT := hT.upd hx fun i h1 h2 h => by have h1 := hO7_b i h; omega
          replace hB1 := hB1.upd hx fun h => by have h1 := hO7_b b1 h; omega
          replace hB7 := hB7.upd hx fun h => by have h1 := hO7_b b7 h; omega
          have hE := Upd.refl (fun _ => False) W
          refine id (X_fldP (b := b7) (o := 0) (r := 7) Fd43_3 rfl rfl ?_)
          exact ⟨Ext.upd hE, rfl⟩
        refine ⟨.det (fun val => (.int .u16 (e.2.2.2.2.2))), ⟨fun _ _ hv => rfl, fun _ _ _ _ _ => trivial⟩, fun val h_ W hx he => ⟨trivial, ?_⟩, ?_⟩
        · replace hx := (Upd.drew _ _).trans hx
          replace hx : Upd (fun b => (obk v7 = some b)) w7 W := hx.mono fun b _ h_ => by obtain ⟨j, _, hne, hm_, hS⟩ := h_; obtain ⟨rfl, hS⟩ := hS; exact hS
          replace hl := hl.upd hx fun i h1 h2 h => by have h1 := hO7_b i h; omega
          replace hT := hT.upd hx fun i h1 h2 h => by have h1 := hO7_b i h; omega
          replace hB1 := hB1.upd hx fun h => by have h1 := hO7_b b1 h; omega
          replace hB7 := hB7.upd hx fun h => by have h1 := hO7_b b7 h; omega
          have hE := Upd.refl (fun _ => False) W
          refine id (X_load (p := (ptr b7 (7))) (v := (.int .u16 (e.2.2.2.2.2))) T36 rfl (hB7.at1 rfl) ?_)
          exact ⟨Ext.upd hE, rfl⟩
        refine ⟨.det (fun val => (.int .u64 (((e.2.2.2.2.2.toNat : Nat) : Int)))), ⟨fun _ _ hv => rfl, fun _ _ _ _ _ => trivial⟩, fun val h_ W hx he => ⟨trivial, ?_⟩, ?_⟩
        · replace hx := (Upd.drew _ _).trans hx
          replace hx : Upd (fun b => (obk v7 = some b)) w7 W := hx.mono fun b _ h_ => by obtain ⟨j, _, hne, hm_, hS⟩ := h_; obtain ⟨rfl, hS⟩ := hS; exact hS
          replace hl := hl.upd hx fun i h1 h2 h => by have h1 := hO7_b i h; omega
          replace hT := hT.upd hx fun i h1 h2 h => by have h1 := hO7_b i h; omega
          replace hB1 := hB1.upd hx fun h => by have h1 := hO7_b b1 h; omega
          replace hB7 := hB7.upd hx fun h => by have h1 := hO7_b b7 h; omega
          have hE := Upd.refl (fun _ => False) W
          refine id (X_convInt (k := .u16) (a := e.2.2.2.2.2) (r := ((e.2.2.2.2.2.toNat : Nat) : Int)) (by rw [Tryd.underlying36]; rfl) Tryd.underlying39 rfl (by rw [Int.toNat_of_nonneg hit.2.1]; exact u64_wrap hit.2.1 hit.2.2) ?_)
          exact ⟨Ext.upd hE, rfl⟩
        refine ⟨.abs (fun _ x_ W_ => Rd W_ 1 x_ ((((encF (dsI es) i) ++ sizedB e.2.2.1) ++ [1]) ++ numB e.2.2.2.2.2.toNat 2).length (((((encF (dsI es) i) ++ sizedB e.2.2.1) ++ [1]) ++ numB e.2.2.2.2.2.toNat 2).map byteV)), ⟨fun _ _ _ => rfl, fun _ _ _ _ hu0 h => have hu : Upd (fun b => False) _ _ := hu0.mono fun b _ h_ => (by obtain ⟨j, _, hne, hm_, hS⟩ := h_; obtain ⟨rfl, hS⟩ := hS; exact absurd hm_ (by decide))
           (by have h2 := Rd.ext h hu; exact h2)⟩, fun val h_ W hx he => ⟨trivial, ?_⟩, ?_⟩
        · replace hx := (Upd.drew _ _).trans hx
          replace hx : Upd (fun b => (obk v7 = some b)) w7 W := hx.mono fun b _ h_ => by obtain ⟨j, _, hne, hm_, hS⟩ := h_; obtain ⟨rfl, hS⟩ := hS; exact hS
          replace hl := hl.upd hx fun i h1 h2 h => by have h1 := hO7_b i h; omega
          replace hT := hT.upd hx fun i h1 h2 h => by have h1 := hO7_b i h; omega
          replace hB1 := hB1.upd hx fun h => by have h1 := hO7_b b1 h; omega
          replace hB7 := hB7.upd hx fun h => by have h1 := hO7_b b7 h; omega
          have hE := Upd.refl (fun _ => False) W
          obtain ⟨hR2, _, _⟩ := he
          refine X_fn (vs := [val 2, .int .u64 ((e.2.2.2.2.2.toNat : Nat) : Int), .int .i64 2]) en22 rfl (CT.mono (c_put (val 2) (((encF (dsI es) i) ++ sizedB e.2.2.1) ++ [1]) e.2.2.2.2.2.toNat 2 _ (by rw [List.length_append, List.length_append, sizedB_length, List.length_take]; show _ + 1 ≤ _; omega) hR2) ?_)
          rintro v9 w9 ⟨hO9, hu9⟩
          exact ⟨Ext.upd hu9, (hO9.eq (n' := ((((encF (dsI es) i) ++ sizedB e.2.2.1) ++ [1]) ++ numB e.2.2.2.2.2.toNat 2).length) (xs' := ((((encF (dsI es) i) ++ sizedB e.2.2.1) ++ [1]) ++ numB e.2.2.2.2.2.toNat 2).map byteV) (by rw [List.length_append (bs := numB _ _), numB_length]; rfl) rfl).rd⟩
        refine ⟨.det (fun val => (ptr b7 (2))), ⟨fun _ _ hv => rfl, fun _ _ _ _ _ => trivial⟩, fun val h_ W hx he => ⟨trivial, ?_⟩, ?_⟩
        · replace hx := (Upd.drew _ _).trans hx
          replace hx : Upd (fun b => (obk v7 = some b)) w7 W := hx.mono fun b _ h_ => by obtain ⟨j, _, hne, hm_, hS⟩ := h_; obtain ⟨rfl, hS⟩ := hS; exact hS
          replace hl := hl.upd hx fun i h1 h2 h => by have h1 := hO7_b i h; omega
          replace hT := hT.upd hx fun i h1 h2 h => by have h1 := hO7_b i h; omega
          replace hB1 := hB1.upd hx fun h => by have h1 := hO7_b b1 h; omega
          replace hB7 := hB7.upd hx fun h => by have h1 := hO7_b b7 h; omega
          have hE := Upd.refl (fun _ => False) W
          refine id (X_fldP (b := b7) (o := 0) (r := 2) Fd43_2 rfl rfl ?_)
          exact ⟨Ext.upd hE, rfl⟩
        refine ⟨.det (fun val => (.agg (ptC e.2.2.2.2.1).toArray)), ⟨fun _ _ hv => rfl, fun _ _ _ _ _ => trivial⟩, fun val h_ W hx he => ⟨trivial, ?_⟩, ?_⟩
        · replace hx := (Upd.drew _ _).trans hx
          replace hx : Upd (fun b => (obk v7 = some b)) w7 W := hx.mono fun b _ h_ => by obtain ⟨j, _, hne, hm_, hS⟩ := h_; obtain ⟨rfl, hS⟩ := hS; exact hS
          replace hl := hl.upd hx fun i h1 h2 h => by have h1 := hO7_b i h; omega
          replace hT := hT.upd hx fun i h1 h2 h => by have h1 := hO7_b i h; omega
          replace hB1 := hB1.upd hx fun h => by have h1 := hO7_b b1 h; omega
          replace hB7 := hB7.upd hx fun h => by have h1 := hO7_b b7 h; omega
          have hE := Upd.refl (fun _ => False) W
          refine id (X_loadA (p := (ptr b7 (2))) (xs := ptC e.2.2.2.2.1) A41 rfl (it_over hB7) rfl ?_)
          exact ⟨Ext.upd hE, rfl⟩
        intro val W12 hx12 he12
        replace hx12 := (Upd.drew _ _).trans hx12
        replace hx12 : Upd (fun b => (obk v7 = some b)) w7 W12 := hx12.mono fun b _ h_ => by obtain ⟨j, _, hS⟩ := h_; obtain ⟨rfl, hS⟩ := hS; exact hS
        have hz12 := hx12.size
        replace hl := hl.upd hx12 fun i h1 h2 h => by have h1 := hO7_b i h; omega
        replace hU := hU.trans (hx12.mono fun i _ h => by have h1 := hO7_b i h; show n0 ≤ i; omega)
        replace hT := hT.upd hx12 fun i h1 h2 h => by have h1 := hO7_b i h; omega
        replace hB1 := hB1.upd hx12 fun h => by have h1 := hO7_b b1 h; omega
        replace hB7 := hB7.upd hx12 fun h => by have h1 := hO7_b b7 h; omega
        obtain ⟨hR6, he12⟩ := he12
        obtain ⟨hR2, he12⟩ := he12
        obtain ⟨⟨bl, hbl, hbN, hBl⟩, he12⟩ := he12
        refine L_op rfl (X_fn (vs := [(val 6), (.agg (ptC e.2.2.2.2.1).toArray)]) en21 rfl (CT.mono (c_ptrPut (val 6) ((((encF (dsI es) i) ++ sizedB e.2.2.1) ++ [1]) ++ numB e.2.2.2.2.2.toNat 2) e.2.2.2.2.1 _ hit.1 (by rw [List.length_append, List.length_append, List.length_append, sizedB_length, List.length_take, numB_length]; show _ + 1 + _ ≤ _; omega) hR6 hT) ?_))
        rintro v13 w13 ⟨hO13, hu13⟩
        have hz13 := hu13.size
        rw [← encF_over (ds_at hei) (by show ¬ e.2.2.2.2.1.1 = 0; omega)] at hO13
        replace hl := hl.ext hu13
        replace hU := hU.trans (Ext.upd hu13)
        replace hT := hT.ext hu13
        replace hB1 := hB1.ext hu13
        replace hB7 := hB7.ext hu13
        refine L_op rfl (X_assign (v := v13) rfl ?_)
        refine L_nil ?_
        refine B_n ?_
        refine T_n ?_
        refine W_reg ?_
        refine L_op rfl (X_arith (k := .i64) (a := ((i : Nat) : Int)) (b := 1) (r := ((i + 1 : Nat) : Int)) rfl rfl rfl (iadd64 (by omega) (by omega) (by omega)) ?_)
        refine L_op rfl (X_move (v := (.int .i64 (((i + 1 : Nat) : Int)))) rfl ?_)
        refine L_nil ?_
        refine T_n ?_
        exact ⟨rfl, (i + 1, v13), ⟨⟨hi, hl, hO13.rd, hT, hB1, hU⟩, (by show es.length - (i + 1) < es.length - i; omega)⟩, (Out.mk rfl), ⟨rfl, rfl, trivial⟩⟩
    · refine L_op rfl (X_cmp (k := .i64) (a := ((i : Nat) : Int)) (b := ((es.length : Nat) : Int)) (r := false) rfl rfl rfl (decide_eq_false (p := ((((i : Nat) : Int)) : Int) < ((((es.length : Nat) : Int)) : Int)) (by omega)) ?_)
      have hie : i = es.length := by omega
      refine L_nil ?_
      refine T_n ?_
      refine W_seq ?_
      refine W_cf rfl ?_
      refine W_exit ?_
      refine T_e ?_
      refine T_e ?_
      refine B_x ?_
      refine T_n ?_
      refine W_seq ?_
      refine W_seq ?_
      refine W_reg ?_
      refine L_op rfl (X_move (v := u) rfl ?_)
      have hel := encF_len hlR i
      refine L_op rfl (X_fn (vs := [u]) en23 rfl (CT.mono (c_fill u (encF (dsI es) i) _ hR) ?_))
      rintro _ w14 ⟨ee, rfl, _, hf, hu14⟩
      have hz14 := hu14.size
      rw [hf (by omega)]
      rw [show fillL (encF (dsI es) i) = encI (dsI es) by unfold encI; rw [dsI_len, ← hie]]
      replace hl := hl.ext hu14
      replace hU := hU.trans (Ext.upd hu14)
      replace hT := hT.ext hu14
      replace hB1 := hB1.ext hu14
      refine L_op rfl (X_move (v := (.tuple #[(.agg (((encI (dsI es))).map byteV).toArray), (.int .i64 (0))])) rfl ?_)
      refine L_op rfl (X_extract (l := [(.agg (((encI (dsI es))).map byteV).toArray), (.int .i64 (0))]) (v := (.agg (((encI (dsI es))).map byteV).toArray)) rfl rfl ?_)
      refine L_op rfl (X_extract (l := [(.agg (((encI (dsI es))).map byteV).toArray), (.int .i64 (0))]) (v := (.int .i64 (0))) rfl rfl ?_)
      refine L_op0 (X_storeW (b := b1) (ys := (((encI (dsI es))).map byteV)) A24 rfl rfl (byteV_one _) (by rw [List.length_map]; exact (encI_len _)) hB1 (by rw [List.size_toArray]; exact (by rw [List.length_map]; exact List.length_replicate)) ?_)
      intro w15 hu15 hb15
      have hz15 := hu15.size
      replace hl := hl.upd hu15 fun i h1 h2 h => by have h : i = b1 := h; omega
      replace hU := hU.trans (hu15.mono fun i _ h => by have h : i = b1 := h; show n0 ≤ i; omega)
      replace hT := hT.upd hu15 fun i h1 h2 h => by have h : i = b1 := h; omega
      replace hB1 := hb15
      refine L_op rfl (X_assign (v := (.int .i64 (0))) rfl ?_)
      refine L_nil ?_
      refine T_n ?_
      refine W_seq ?_
      refine W_reg ?_
      refine L_op rfl (X_move (v := (.int .i64 (0))) rfl ?_)
      refine L_op rfl (X_cmp (k := .i64) (a := 0) (b := 0) (r := false) rfl rfl rfl rfl ?_)
      refine L_nil ?_
      refine T_n ?_
      refine W_cf rfl ?_
      refine W_skip ?_
      refine T_n ?_
      refine W_seq ?_
      refine W_reg ?_
      refine L_op rfl (X_loadA (p := (ptr b1 (0))) (xs := (((encI (dsI es))).map byteV)) A24 rfl hB1.atAll (by rw [List.length_map]; exact (encI_len _)) ?_)
      refine L_op0 (X_storeW (b := b1) (ys := (((encI (dsI es))).map byteV)) A24 rfl rfl (byteV_one _) (by rw [List.length_map]; exact (encI_len _)) hB1 (by rw [List.size_toArray]; exact (by rw [List.length_map]; exact (encI_len _))) ?_)
      intro w16 hu16 hb16
      have hz16 := hu16.size
      replace hl := hl.upd hu16 fun i h1 h2 h => by have h : i = b1 := h; omega
      replace hU := hU.trans (hu16.mono fun i _ h => by have h : i = b1 := h; show n0 ≤ i; omega)
      replace hT := hT.upd hu16 fun i h1 h2 h => by have h : i = b1 := h; omega
      replace hB1 := hb16
      refine L_op rfl (X_assign (v := (.int .i64 (0))) rfl ?_)
      refine L_nil ?_
      refine T_n ?_
      refine W_ret ?_
      exact BQ_r (End_2 Tryd.results10 (RV_A A24 rfl hB1.atAll (by rw [List.length_map]; exact encI_len _)) (v2 := .int .i64 0) rfl ⟨by rw [show encP (dsI es) = _ from if_pos hR_, show encE (dsI es) = 0 from if_pos hR_], hU.own hn0⟩)
  · rw [hc3]
    refine L_op rfl (X_not (b := false) (r := true) rfl rfl ?_)
    refine L_nil ?_
    refine T_n ?_
    refine W_ct rfl ?_
    refine W_seq ?_
    refine W_reg ?_
    refine L_op rfl (X_loadA (p := (ptr b1 (0))) (xs := ((List.replicate 256 (0 : UInt8)).map byteV)) A24 rfl hB1.atAll (by rw [List.length_map]; exact List.length_replicate) ?_)
    refine L_op0 (X_storeW (b := b1) (ys := ((List.replicate 256 (0 : UInt8)).map byteV)) A24 rfl rfl (byteV_one _) (by rw [List.length_map]; exact List.length_replicate) hB1 (by rw [List.size_toArray]; exact (by rw [List.length_map]; exact List.length_replicate)) ?_)
    intro w17 hu17 hb17
    have hz17 := hu17.size
    replace hl := hl.upd hu17 fun i h1 h2 h => by have h : i = b1 := h; omega
    replace hU := hU.trans (hu17.mono fun i _ h => by have h : i = b1 := h; show n0 ≤ i; omega)
    replace hT := hT.upd hu17 fun i h1 h2 h => by have h : i = b1 := h; omega
    replace hB1 := hb17
    refine L_op rfl (X_assign (v := (.int .i64 (2))) rfl ?_)
    refine L_nil ?_
    refine T_n ?_
    refine W_ret ?_
    refine T_r ?_
    exact BQ_r (End_2 Tryd.results10 (RV_A A24 rfl hB1.atAll (by rw [List.length_map]; exact List.length_replicate)) (v2 := .int .i64 2) rfl ⟨by rw [show encP (dsI es) = _ from if_neg (of_decide_eq_false hc3), show encE (dsI es) = 2 from if_neg (of_decide_eq_false hc3)], hU.own hn0⟩)
end Go.Proofs.YtmddmghgkkjbiaaDoor
