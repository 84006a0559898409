/-
  The contracts of leaves: copies. (Printed by wip/gen/t06v.py of this repo.)
-/
import Derived.Test.YtmddmghgkkjbiaaDoorRefsE
import Derived.Test.YtmddmghgkkjbiaaDoorBaseX
import Derived.Test.YtmddmghgkkjbiaaDoorBaseQ
import Derived.Test.YtmddmghgkkjbiaaDoorBaseWS
namespace Go.Proofs.YtmddmghgkkjbiaaDoor
open Go Go.SL Go.Proofs
set_option linter.unusedVariables false

theorem c_bclone (b : Value) (l : List UInt8) (w : World) (hl : l.length ≤ 140737488355328) (hb : Rd w 1 b l.length (l.map byteV)) : CT Tryd.prog 38 #[b] w fun v w' => Own w' w.heap.size 5 1 v l.length (l.map byteV) ∧ Ext w w' := by
  obtain ⟨a, c, rfl, hnil⟩ := hb.parts
  obtain ⟨n0, hn0⟩ : ∃ n, n = w.heap.size := ⟨_, rfl⟩
  have hU : Upd (fun i => n0 ≤ i) w w := Upd.refl _ _
  have hb_b : ∀ i, rbk (.slice a l.length c) = some i → i < n0 := by rw [hn0]; exact fun i hi => hb.bound (by decide) hi
  refine CT_of Tryd.func38 rfl rfl rfl ?_
  refine W_seq ?_
  refine W_reg ?_
  refine L_op rfl (X_assign (v := (.slice none 0 0)) rfl ?_)
  refine L_nil ?_
  refine T_n ?_
  refine W_seq ?_
  refine W_seq ?_
  refine W_reg ?_
  refine L_op rfl (X_move (v := (.slice a l.length c)) rfl ?_)
  rcases Bool.eq_false_or_eq_true a.isNone with ha | ha
  · refine L_op rfl (X_nilS (a := a) (r := true) Tryd.underlying35 rfl (.inl ⟨rfl, ha⟩) ?_)
    refine L_nil ?_
    refine T_n ?_
    refine W_ct rfl ?_
    refine W_seq ?_
    refine W_reg ?_
    refine L_op rfl (X_assign (v := (.slice none 0 0)) rfl ?_)
    refine L_nil ?_
    refine T_n ?_
    refine W_ret ?_
    refine T_r ?_
    exact BQ_r (End_1 Tryd.results38 (v := .slice none 0 0) rfl ⟨(Own.nil _ _ _ _).emp (hnil ha) (by rw [List.eq_nil_of_length_eq_zero (hnil ha)]; rfl), hU.own hn0⟩)
  · refine L_op rfl (X_nilS (a := a) (r := false) Tryd.underlying35 rfl (.inl ⟨rfl, ha⟩) ?_)
    refine L_nil ?_
    refine T_n ?_
    refine W_cf rfl ?_
    refine W_skip ?_
    refine T_n ?_
    refine W_seq ?_
    refine W_reg ?_
    refine L_op rfl (X_buildSlice1 (vs := []) S35 (by decide) rfl rfl (fun _ h => by cases h) ?_)
    intro b1 w1 hn1
    have hbn1 := hn1.num; have hbs1 := hn1.size
    replace hb := hb.ext hn1.ext
    replace hU := hU.trans (Ext.upd hn1.ext)
    have hB1 := hn1.blk
    refine L_op rfl (X_move (v := (.slice a l.length c)) rfl ?_)
    refine L_op rfl (X_append (B := n0) (s := (.slice (some ⟨b1, 0, none⟩) 0 0)) (x := .slice a l.length c) S35 ⟨_, Tryd.underlying35⟩ rfl rfl (Own.zero _ _ _ _ _) hb (byteV_one _) (by unfold maxLen; omega) (by omega) (by omega) ?_)
    intro v2 w2 hO hu2 ho2
    replace hO := hO.eq (Nat.zero_add _) (List.nil_append _)
    replace hb := hb.ext hu2.nobk
    replace hU := hU.trans (Ext.upd hu2.nobk)
    replace hB1 := hB1.ext hu2.nobk
    refine L_op rfl (X_assign (v := v2) rfl ?_)
    refine L_nil ?_
    refine T_n ?_
    refine W_ret ?_
    exact BQ_r (End_1 Tryd.results38 (v := v2) rfl ⟨hO.more (by omega), hU.own hn0⟩)

theorem c_cloneI (l : Value) (es : List IE) (w : World) (lo up : Nat) (hup : up ≤ w.heap.size) (hl : NRd LT w lo up l es) (hlen : es.length ≤ 1099511627776) : CT Tryd.prog 37 #[l] w fun v w' => Own w' w.heap.size 43 8 v es.length (es.flatMap LT.cel) ∧ Ext w w' := by
  obtain ⟨a, c, rfl, hnil⟩ := hl.1.parts
  obtain ⟨n0, hn0⟩ : ∃ n, n = w.heap.size := ⟨_, rfl⟩
  have hU : Upd (fun i => n0 ≤ i) w w := Upd.refl _ _
  rw [← hn0] at hup
  refine CT_of Tryd.func37 rfl rfl rfl ?_
  refine W_seq ?_
  refine W_reg ?_
  refine L_op rfl (X_assign (v := (.slice none 0 0)) rfl ?_)
  refine L_nil ?_
  refine T_n ?_
  refine W_seq ?_
  refine W_seq ?_
  refine W_reg ?_
  refine L_op rfl (X_move (v := (.slice a es.length c)) rfl ?_)
  rcases Bool.eq_false_or_eq_true a.isNone with ha | ha
  · refine L_op rfl (X_nilS (a := a) (r := true) Tryd.underlying22 rfl (.inl ⟨rfl, ha⟩) ?_)
    refine L_nil ?_
    refine T_n ?_
    refine W_ct rfl ?_
    refine W_seq ?_
    refine W_reg ?_
    refine L_op rfl (X_assign (v := (.slice none 0 0)) rfl ?_)
    refine L_nil ?_
    refine T_n ?_
    refine W_ret ?_
    refine T_r ?_
    exact BQ_r (End_1 Tryd.results37 (v := .slice none 0 0) rfl ⟨(Own.nil _ _ _ _).emp (hnil ha) (by rw [List.eq_nil_of_length_eq_zero (hnil ha)]; rfl), hU.own hn0⟩)
  · refine L_op rfl (X_nilS (a := a) (r := false) Tryd.underlying22 rfl (.inl ⟨rfl, ha⟩) ?_)
    refine L_nil ?_
    refine T_n ?_
    refine W_cf rfl ?_
    refine W_skip ?_
    refine T_n ?_
    refine W_seq ?_
    refine W_reg ?_
    refine L_op rfl (X_buildSliceL (vs := []) (c := []) S22 (by decide) rfl rfl (fun _ h => by cases h) rfl ?_)
    intro b1 w1 hn1
    have hbn1 := hn1.num; have hbs1 := hn1.size
    replace hl := hl.ext hn1.ext
    replace hU := hU.trans (Ext.upd hn1.ext)
    have hB1 := hn1.blk
    refine L_op rfl (X_move (v := (.slice a es.length c)) rfl ?_)
    refine L_op rfl (X_append (B := n0) (s := (.slice (some ⟨b1, 0, none⟩) 0 0)) (x := .slice a es.length c) S22 ⟨_, Tryd.underlying22⟩ rfl rfl (Own.zero _ _ _ _ _) hl.1 hl.sub_one (by unfold maxLen; omega) (by omega) (by omega) ?_)
    intro v2 w2 hO hu2 ho2
    replace hO := hO.eq (Nat.zero_add _) (List.nil_append _)
    replace hl := hl.ext hu2.nobk
    replace hU := hU.trans (Ext.upd hu2.nobk)
    replace hB1 := hB1.ext hu2.nobk
    refine L_op rfl (X_assign (v := v2) rfl ?_)
    refine L_nil ?_
    refine T_n ?_
    refine W_ret ?_
    exact BQ_r (End_1 Tryd.results37 (v := v2) rfl ⟨hO.more (by omega), hU.own hn0⟩)

abbrev SubT (es : List IE) : List BE := es.flatMap fun (e : IE) => ([(e.1, e.2.2.1), (e.2.1, e.2.2.2.1)] : List BE)
def ItK (es : List IE) : Prop := ∀ (j : Nat) (e : IE), es[j]? = some e → e.2.2.1.length ≤ 140737488355328 ∧ e.2.2.2.1.length ≤ 140737488355328
theorem distB_push2 {es : List BE} {a b : BE} {m : Nat} (h : DistB es) (h1 : ∀ x ∈ es, ∀ k, obk x.1 = some k → k < m) (ha : ∀ k, obk a.1 = some k → m ≤ k) (hb : ∀ k, obk b.1 = some k → m ≤ k) (hab : ∀ k, obk a.1 = some k → obk b.1 ≠ some k) : DistB (es ++ [a, b]) := by
  refine List.pairwise_append.2 ⟨h, List.pairwise_cons.2 ⟨fun x hx k hk => ?_, List.pairwise_singleton _ _⟩, fun x hx y hy k hk hk' => ?_⟩
  · have : x = b := by simpa using hx
    subst this
    exact hab k hk
  · have h2 := h1 x hx k hk
    have hy : y = a ∨ y = b := by simpa using hy
    rcases hy with rfl | rfl
    · have := ha k hk'; omega
    · have := hb k hk'; omega
theorem rd_all {w : World} {v : Value} {n k : Nat} {gs : List IE} {e : IE} (h : Rd w 8 v n (gs.flatMap LT.cel)) (hn : 0 < n) (he : gs[k]? = some e) : At w (pof v (k * 8)) (itC e) := h.at_ hn _ _ fun j u hj => flat_at (L := LT) he hj
theorem row_set2 {gs : List IE} {i : Nat} {e : IE} (he : gs[i]? = some e) (k v : Value) : ((gs.flatMap LT.cel).set (i * 8) k).set (i * 8 + 1) v = (gs.set i (k, v, e.2.2)).flatMap LT.cel := by
  have h1 := flat_setC (L := LT) (e' := (k, e.2.1, e.2.2)) (u := k) he (j := 0) (by decide) rfl
  have hi := (List.getElem?_eq_some_iff.1 he).1
  have h2 := flat_setC (L := LT) (es := gs.set i (k, e.2.1, e.2.2)) (e := (k, e.2.1, e.2.2)) (e' := (k, v, e.2.2)) (u := v) (List.getElem?_set_self hi) (j := 1) (by decide) rfl
  rw [List.set_set] at h2
  have h3 : (gs.flatMap LT.cel).set (i * 8) k = (gs.set i (k, e.2.1, e.2.2)).flatMap LT.cel := h1
  rw [h3]
  exact h2
theorem gs_at {es gs : List IE} {i : Nat} (h : gs.drop i = es.drop i) {e : IE} (he : es[i]? = some e) : gs[i]? = some e := by
  have h1 : (gs.drop i)[0]? = (es.drop i)[0]? := by rw [h]
  rwa [List.getElem?_drop, List.getElem?_drop, Nat.add_zero, he] at h1
theorem gs_step {es gs : List IE} {i : Nat} (h : gs.drop i = es.drop i) (x : IE) : (gs.set i x).drop (i + 1) = es.drop (i + 1) := by
  apply List.ext_getElem?
  intro j
  rw [List.getElem?_drop, List.getElem?_drop, List.getElem?_set_ne (by omega)]
  have h1 : (gs.drop i)[1 + j]? = (es.drop i)[1 + j]? := by rw [h]
  rw [List.getElem?_drop, List.getElem?_drop] at h1
  rwa [← Nat.add_assoc] at h1
theorem ds_set {gs : List IE} {i : Nat} {e : IE} (he : gs[i]? = some e) (k v : Value) : dsI (gs.set i (k, v, e.2.2)) = dsI gs := by
  unfold dsI
  rw [List.map_set]
  apply List.ext_getElem?
  intro j
  rw [List.getElem?_set]
  split
  · next h =>
    subst h
    have hi := (List.getElem?_eq_some_iff.1 he).1
    rw [if_pos (by rw [List.length_map]; exact hi), List.getElem?_map, he]; rfl
  · rfl
theorem sub_step {gs : List IE} {i : Nat} {e : IE} (he : gs[i]? = some e) (k v : Value) : SubT ((gs.set i (k, v, e.2.2)).take (i + 1)) = SubT (gs.take i) ++ ([(k, e.2.2.1), (v, e.2.2.2.1)] : List BE) := by
  have hi := (List.getElem?_eq_some_iff.1 he).1
  have h1 : (gs.set i (k, v, e.2.2)).take i = gs.take i := by
    apply List.ext_getElem?
    intro j
    rw [List.getElem?_take, List.getElem?_take]
    split
    · rw [List.getElem?_set_ne (by omega)]
    · rfl
  unfold SubT
  rw [List.take_add_one, List.getElem?_set_self hi, h1, List.flatMap_append]
  rfl

theorem c_ownI (l : Value) (es : List IE) (w : World) (lo up : Nat) (hup : up ≤ w.heap.size) (hl : NRd LT w lo up l es) (hik : ItK es) (hlen : es.length ≤ 1099511627776) : CT Tryd.prog 18 #[l] w fun v w' => ∃ gs, NOwn LT w' 43 5 w.heap.size w'.heap.size v gs ∧ DistB (SubT gs) ∧ dsI gs = dsI es ∧ Ext w w' := by
  obtain ⟨n0, hn0⟩ : ∃ n, n = w.heap.size := ⟨_, rfl⟩
  have hU : Upd (fun i => n0 ≤ i) w w := Upd.refl _ _
  have hmx := hl.sv.len
  rw [← hn0] at hup
  refine CT_of Tryd.func18 rfl rfl rfl ?_
  refine W_seq ?_
  refine W_reg ?_
  refine L_op rfl (X_assign (v := (.slice none 0 0)) rfl ?_)
  refine L_nil ?_
  refine T_n ?_
  refine W_seq ?_
  refine W_reg ?_
  refine L_op rfl (X_move (v := l) rfl ?_)
  refine L_op rfl (X_fn (vs := [l]) en37 rfl (CT.mono (c_cloneI l es _ lo up (by omega) hl hlen) ?_))
  rintro u w1 ⟨hO, hu1⟩
  have hz1 := hu1.size
  rw [← hn0] at hO
  replace hl := hl.ext hu1
  replace hU := hU.trans (Ext.upd hu1)
  refine L_op rfl (X_assign (v := u) rfl ?_)
  refine L_nil ?_
  refine T_n ?_
  refine W_seq ?_
  refine W_seq ?_
  refine W_reg ?_
  refine L_op rfl (X_move (v := u) rfl ?_)
  refine L_op rfl (X_len (v := u) (n := es.length) Tryd.underlying22 rfl hO.sv ?_)
  refine L_op rfl (X_move (v := (.int .i64 (0))) rfl ?_)
  refine L_nil ?_
  refine T_n ?_
  refine W_block ?_
  refine W_loop (α := Nat × List IE) [3, 4, 9, 10, 11, 12, 13, 14, 15, 16, 17, 18, 19, 20, 21, 22, 23, 24, 25, 26, 27, 28] (fun ⟨i, gs⟩ => [(9, (.int .i64 (((i : Nat) : Int))))]) (fun ⟨i, gs⟩ w_ => i ≤ es.length ∧ gs.length = es.length ∧ gs.drop i = es.drop i ∧ dsI gs = dsI es ∧ Own w_ n0 43 8 u es.length (gs.flatMap LT.cel) ∧ (∀ s ∈ SubT (gs.take i), BOwn w_ 5 n0 w_.heap.size s) ∧ DistB (SubT (gs.take i)) ∧ NRd LT w_ lo up l es ∧ Upd (fun i => n0 ≤ i) w w_) (fun ⟨i, gs⟩ => es.length - i) ⟨rfl, (0, es), ⟨Nat.zero_le _, rfl, rfl, rfl, hO, fun s hs => (by cases hs), List.Pairwise.nil, hl, hU⟩, Out.refl _ _, ⟨rfl, trivial⟩⟩ ?_
  rintro ⟨i, gs⟩ w2 _ ⟨hil, hgl, hgd, hgs, hO, hSub, hdi, hl, hU⟩
  have hsz_ := hU.size
  obtain ⟨s9, hs9⟩ : ∃ n, n = w2.heap.size := ⟨_, rfl⟩
  rw [← hs9] at hSub
  have hO_b : ∀ b, obk u = some b → b < s9 := fun b hb => by rw [hs9]; exact (hO.lt hb).2
  refine W_seq ?_
  refine W_reg ?_
  by_cases hc3 : (((i : Nat) : Int) : Int) < (((es.length : Nat) : Int))
  · refine L_op rfl (X_cmp (k := .i64) (a := ((i : Nat) : Int)) (b := ((es.length : Nat) : Int)) (r := true) rfl rfl rfl (decide_eq_true (p := ((((i : Nat) : Int)) : Int) < ((((es.length : Nat) : Int)) : Int)) (by omega)) ?_)
    have hi : i < es.length := by omega
    obtain ⟨e, hei⟩ : ∃ e, es[i]? = some e := ⟨_, List.getElem?_eq_getElem hi⟩
    have hkl := (irdk hl hei).len
    have hvl := (irdv hl hei).len
    have hgi := gs_at hgd hei
    obtain ⟨hk_, hv_⟩ := hik i e hei
    refine L_nil ?_
    refine T_n ?_
    refine W_seq ?_
    refine W_ct rfl ?_
    refine W_skip ?_
    refine T_n ?_
    refine W_seq ?_
    refine W_block ?_
    refine W_seq ?_
    refine W_reg ?_
    refine L_op rfl (X_move (v := (.int .i64 (((i : Nat) : Int)))) rfl ?_)
    refine L_op rfl (X_idx (v := u) (n := es.length) (k := .i64) (i := ((i : Nat) : Int)) S22 rfl hO.sv rfl (by omega) (by omega) ?_)
    refine L_op rfl (X_loadA (xs := itC e) A43 rfl (by have h := rd_all hO.rd (by omega) hgi; rw [show i = ((i : Nat) : Int).toNat from (Int.toNat_natCast _).symm] at h; exact h) rfl ?_)
    refine L_op rfl (X_alloc (z := (.agg #[(.slice none 0 0), (.slice none 0 0), (.int .u8 (0)), (.int .u16 (0)), (.int .u16 (0)), (.int .u32 (0)), (.int .u64 (0)), (.int .u16 (0))])) (c := #[(.slice none 0 0), (.slice none 0 0), (.int .u8 (0)), (.int .u16 (0)), (.int .u16 (0)), (.int .u32 (0)), (.int .u64 (0)), (.int .u16 (0))]) Zv43 rfl ?_)
    intro b4 w4 hn4
    have hbn4 := hn4.num; have hbs4 := hn4.size
    replace hSub : ∀ s ∈ SubT (gs.take i), BOwn _ 5 n0 s9 s := fun s hs => (hSub s hs).ext hn4.ext
    replace hO := hO.ext hn4.ext
    replace hl := hl.ext hn4.ext
    replace hU := hU.trans (Ext.upd hn4.ext)
    have hB4 := hn4.blk
    refine L_op rfl (X_assign (v := (.int .i64 (((i : Nat) : Int)))) rfl ?_)
    refine L_op0 (X_storeW (b := b4) (ys := itC e) A43 rfl rfl (ione hl hei) rfl hB4 rfl ?_)
    intro w5 hu5 hb5
    have hz5 := hu5.size
    replace hSub : ∀ s ∈ SubT (gs.take i), BOwn _ 5 n0 s9 s := fun s hs => (hSub s hs).upd hu5 fun i h1 h2 h => by have h : i = b4 := h; omega
    replace hO := hO.upd hu5 fun i hi h => by have hi := hO_b _ hi; have h : i = b4 := h; omega
    replace hl := hl.upd hu5 fun i h1 h2 h => by have h : i = b4 := h; omega
    replace hU := hU.trans (hu5.mono fun i _ h => by have h : i = b4 := h; show n0 ≤ i; omega)
    replace hB4 := hb5
    refine L_nil ?_
    refine T_n ?_
    obtain ⟨N5, hN5⟩ : ∃ n, n = w5.heap.size := ⟨_, rfl⟩
    have hu_b : ∀ b, obk u = some b → n0 ≤ b ∧ b < s9 := fun b hb => ⟨(hO.lt hb).1, hO_b b hb⟩
    refine W_drawS 13 [[], [], [], [], [], [4], [4, 5], [], [7], [4, 5, 6, 7, 8], [0, 1, 4, 5, 6, 7, 8, 9], [0, 1, 4, 5, 6, 7, 8, 9, 10], [0, 1, 4, 5, 6, 7, 8, 9, 10, 11], [0, 1, 2, 3, 4, 5, 6, 7, 8, 9, 10, 11, 12], [0, 1, 2, 3, 4, 5, 6, 7, 8, 9, 10, 11, 12, 13], [0, 1, 2, 3, 4, 5, 6, 7, 8, 9, 10, 11, 12, 13, 14]] (fun j b => (j = 12 ∧ obk u = some b)) mixed (by kernel_rfl) ?_
    refine ⟨.det (fun val => u), ⟨fun _ _ hv => rfl, fun _ _ _ _ _ => trivial⟩, fun val h_ W hx he => ⟨trivial, ?_⟩, ?_⟩
    · replace hx := (Upd.drew _ _).trans hx
      replace hx : Upd (fun b => False) w5 W := hx.mono fun b _ h_ => by obtain ⟨j, _, hne, hm_, hS⟩ := h_; obtain ⟨rfl, hS⟩ := hS; exact absurd hm_ (by decide)
      replace hO := hO.ext hx
      replace hl := hl.ext hx
      replace hB4 := hB4.ext hx
      have hE := Upd.refl (fun _ => False) W
      refine id (X_move (v := u) rfl ?_)
      exact ⟨Ext.upd hE, rfl⟩
    refine ⟨.det (fun val => (.int .i64 (((i : Nat) : Int)))), ⟨fun _ _ hv => rfl, fun _ _ _ _ _ => trivial⟩, fun val h_ W hx he => ⟨trivial, ?_⟩, ?_⟩
    · replace hx := (Upd.drew _ _).trans hx
      replace hx : Upd (fun b => False) w5 W := hx.mono fun b _ h_ => by obtain ⟨j, _, hne, hm_, hS⟩ := h_; obtain ⟨rfl, hS⟩ := hS; exact absurd hm_ (by decide)
      replace hO := hO.ext hx
      replace hl := hl.ext hx
      replace hB4 := hB4.ext hx
      have hE := Upd.refl (fun _ => False) W
      refine id (X_move (v := (.int .i64 (((i : Nat) : Int)))) rfl ?_)
      exact ⟨Ext.upd hE, rfl⟩
    refine ⟨.det (fun val => u), ⟨fun _ _ hv => rfl, fun _ _ _ _ _ => trivial⟩, fun val h_ W hx he => ⟨trivial, ?_⟩, ?_⟩
    · replace hx := (Upd.drew _ _).trans hx
      replace hx : Upd (fun b => (obk u = some b)) w5 W := hx.mono fun b _ h_ => by obtain ⟨j, _, hne, hm_, hS⟩ := h_; obtain ⟨rfl, hS⟩ := hS; exact hS
      replace hl := hl.upd hx fun i h1 h2 h => by have h1 := hu_b i h; omega
      replace hB4 := hB4.upd hx fun h => by have h1 := hu_b b4 h; omega
      have hE := Upd.refl (fun _ => False) W
      refine id (X_move (v := u) rfl ?_)
      exact ⟨Ext.upd hE, rfl⟩
    refine ⟨.det (fun val => (.int .i64 (((i : Nat) : Int)))), ⟨fun _ _ hv => rfl, fun _ _ _ _ _ => trivial⟩, fun val h_ W hx he => ⟨trivial, ?_⟩, ?_⟩
    · replace hx := (Upd.drew _ _).trans hx
      replace hx : Upd (fun b => (obk u = some b)) w5 W := hx.mono fun b _ h_ => by obtain ⟨j, _, hne, hm_, hS⟩ := h_; obtain ⟨rfl, hS⟩ := hS; exact hS
      replace hl := hl.upd hx fun i h1 h2 h => by have h1 := hu_b i h; omega
      replace hB4 := hB4.upd hx fun h => by have h1 := hu_b b4 h; omega
      have hE := Upd.refl (fun _ => False) W
      refine id (X_move (v := (.int .i64 (((i : Nat) : Int)))) rfl ?_)
      exact ⟨Ext.upd hE, rfl⟩
    refine ⟨.det (fun val => (ptr b4 (0))), ⟨fun _ _ hv => rfl, fun _ _ _ _ _ => trivial⟩, fun val h_ W hx he => ⟨trivial, ?_⟩, ?_⟩
    · replace hx := (Upd.drew _ _).trans hx
      replace hx : Upd (fun b => False) w5 W := hx.mono fun b _ h_ => by obtain ⟨j, _, hne, hm_, hS⟩ := h_; obtain ⟨rfl, hS⟩ := hS; exact absurd hm_ (by decide)
      replace hO := hO.ext hx
      replace hl := hl.ext hx
      replace hB4 := hB4.ext hx
      have hE := Upd.refl (fun _ => False) W
      refine id (X_fldP (b := b4) (o := 0) (r := 0) Fd43_0 rfl rfl ?_)
      exact ⟨Ext.upd hE, rfl⟩
    refine ⟨.det (fun val => e.1), ⟨fun _ _ hv => rfl, fun _ _ _ _ _ => trivial⟩, fun val h_ W hx he => ⟨trivial, ?_⟩, ?_⟩
    · replace hx := (Upd.drew _ _).trans hx
      replace hx : Upd (fun b => False) w5 W := hx.mono fun b _ h_ => by obtain ⟨j, _, hne, hm_, hS⟩ := h_; obtain ⟨rfl, hS⟩ := hS; exact absurd hm_ (by decide)
      replace hO := hO.ext hx
      replace hl := hl.ext hx
      replace hB4 := hB4.ext hx
      have hE := Upd.refl (fun _ => False) W
      refine id (X_load (p := (ptr b4 (0))) (v := e.1) T35 rfl (hB4.at1 rfl) ?_)
      exact ⟨Ext.upd hE, rfl⟩
    refine ⟨.abs (fun _ x_ W_ => Own W_ N5 5 1 x_ e.2.2.1.length (e.2.2.1.map byteV)), ⟨fun _ _ _ => rfl, fun _ _ _ _ hu0 h => have hu : Upd (fun b => (obk u = some b)) _ _ := hu0.mono fun b _ h_ => (by obtain ⟨j, _, hne, hm_, hS⟩ := h_; obtain ⟨rfl, hS⟩ := hS; exact hS)
       (Own.upd h hu fun b hb h9 => by have h1 := (Own.lt h hb).1; have h2 := hu_b b h9; omega)⟩, fun val h_ W hx he => ⟨trivial, ?_⟩, ?_⟩
    · replace hx := (Upd.drew _ _).trans hx
      replace hx : Upd (fun b => False) w5 W := hx.mono fun b _ h_ => by obtain ⟨j, _, hne, hm_, hS⟩ := h_; obtain ⟨rfl, hS⟩ := hS; exact absurd hm_ (by decide)
      replace hO := hO.ext hx
      replace hl := hl.ext hx
      replace hB4 := hB4.ext hx
      have hE := Upd.refl (fun _ => False) W
      have hxs := hx.size
      refine X_fn (vs := [e.1]) en38 rfl (CT.mono (c_bclone e.1 e.2.2.1 _ hk_ (irdk hl hei)) ?_)
      rintro v9 w9 ⟨hO9, hu9⟩
      exact ⟨Ext.upd hu9, hO9.more (by omega)⟩
    refine ⟨.det (fun val => (ptr b4 (1))), ⟨fun _ _ hv => rfl, fun _ _ _ _ _ => trivial⟩, fun val h_ W hx he => ⟨trivial, ?_⟩, ?_⟩
    · replace hx := (Upd.drew _ _).trans hx
      replace hx : Upd (fun b => False) w5 W := hx.mono fun b _ h_ => by obtain ⟨j, _, hne, hm_, hS⟩ := h_; obtain ⟨rfl, hS⟩ := hS; exact absurd hm_ (by decide)
      replace hO := hO.ext hx
      replace hl := hl.ext hx
      replace hB4 := hB4.ext hx
      have hE := Upd.refl (fun _ => False) W
      refine id (X_fldP (b := b4) (o := 0) (r := 1) Fd43_1 rfl rfl ?_)
      exact ⟨Ext.upd hE, rfl⟩
    refine ⟨.det (fun val => e.2.1), ⟨fun _ _ hv => rfl, fun _ _ _ _ _ => trivial⟩, fun val h_ W hx he => ⟨trivial, ?_⟩, ?_⟩
    · replace hx := (Upd.drew _ _).trans hx
      replace hx : Upd (fun b => False) w5 W := hx.mono fun b _ h_ => by obtain ⟨j, _, hne, hm_, hS⟩ := h_; obtain ⟨rfl, hS⟩ := hS; exact absurd hm_ (by decide)
      replace hO := hO.ext hx
      replace hl := hl.ext hx
      replace hB4 := hB4.ext hx
      have hE := Upd.refl (fun _ => False) W
      refine id (X_load (p := (ptr b4 (1))) (v := e.2.1) T35 rfl (hB4.at1 rfl) ?_)
      exact ⟨Ext.upd hE, rfl⟩
    refine ⟨.abs (fun val x_ W_ => Own W_ N5 5 1 x_ e.2.2.2.1.length (e.2.2.2.1.map byteV) ∧ ∀ b, obk (val 6) = some b → obk x_ ≠ some b), ⟨fun _ _ hv => (by simp only [hv 6 rfl]), fun _ _ _ _ hu0 h => have hu : Upd (fun b => (obk u = some b)) _ _ := hu0.mono fun b _ h_ => (by obtain ⟨j, _, hne, hm_, hS⟩ := h_; obtain ⟨rfl, hS⟩ := hS; exact hS)
       ⟨Own.upd h.1 hu fun b hb h9 => by have h1 := (Own.lt h.1 hb).1; have h2 := hu_b b h9; omega, h.2⟩⟩, fun val h_ W hx he => ⟨trivial, ?_⟩, ?_⟩
    · replace hx := (Upd.drew _ _).trans hx
      replace hx : Upd (fun b => False) w5 W := hx.mono fun b _ h_ => by obtain ⟨j, _, hne, hm_, hS⟩ := h_; obtain ⟨rfl, hS⟩ := hS; exact absurd hm_ (by decide)
      replace hO := hO.ext hx
      replace hl := hl.ext hx
      replace hB4 := hB4.ext hx
      have hE := Upd.refl (fun _ => False) W
      obtain ⟨hO6, _⟩ := he
      have hxs := hx.size
      refine X_fn (vs := [e.2.1]) en38 rfl (CT.mono (c_bclone e.2.1 e.2.2.2.1 _ hv_ (irdv hl hei)) ?_)
      rintro v9 w9 ⟨hO9, hu9⟩
      exact ⟨Ext.upd hu9, hO9.more (by omega), fun b hb hb2 => by have h1 := (hO6.lt hb).2; have h2 := (hO9.lt hb2).1; omega⟩
    refine ⟨.det (fun val => (pof u ((((i : Nat) : Int) : Int).toNat * 8))), ⟨fun _ _ hv => rfl, fun _ _ _ _ _ => trivial⟩, fun val h_ W hx he => ⟨trivial, ?_⟩, ?_⟩
    · replace hx := (Upd.drew _ _).trans hx
      replace hx : Upd (fun b => False) w5 W := hx.mono fun b _ h_ => by obtain ⟨j, _, hne, hm_, hS⟩ := h_; obtain ⟨rfl, hS⟩ := hS; exact absurd hm_ (by decide)
      replace hO := hO.ext hx
      replace hl := hl.ext hx
      replace hB4 := hB4.ext hx
      have hE := Upd.refl (fun _ => False) W
      obtain ⟨⟨hO9, hne9⟩, he⟩ := he
      obtain ⟨hO6, he⟩ := he
      refine id (X_idx (v := u) (n := es.length) (k := .i64) (i := ((i : Nat) : Int)) S22 rfl hO.sv rfl (by omega) (by omega) ?_)
      exact ⟨Ext.upd hE, rfl⟩
    refine ⟨.det (fun val => (pof u ((((i : Nat) : Int) : Int).toNat * 8 + 0))), ⟨fun _ _ hv => rfl, fun _ _ _ _ _ => trivial⟩, fun val h_ W hx he => ⟨trivial, ?_⟩, ?_⟩
    · replace hx := (Upd.drew _ _).trans hx
      replace hx : Upd (fun b => False) w5 W := hx.mono fun b _ h_ => by obtain ⟨j, _, hne, hm_, hS⟩ := h_; obtain ⟨rfl, hS⟩ := hS; exact absurd hm_ (by decide)
      replace hO := hO.ext hx
      replace hl := hl.ext hx
      replace hB4 := hB4.ext hx
      have hE := Upd.refl (fun _ => False) W
      obtain ⟨⟨hO9, hne9⟩, he⟩ := he
      obtain ⟨hO6, he⟩ := he
      refine id (X_fldS (v := u) (o := (((i : Nat) : Int) : Int).toNat * 8) Fd43_0 rfl hO.sv (by omega) ?_)
      exact ⟨Ext.upd hE, rfl⟩
    refine ⟨.abs (fun val _ W_ => Own W_ n0 43 8 u es.length ((gs.flatMap LT.cel).set (i * 8) (val 6))), ⟨fun _ _ hv => (by simp only [hv 6 rfl]), fun _ _ _ _ hu0 h => have hu : Upd (fun b => False) _ _ := hu0.mono fun b _ h_ => (by obtain ⟨j, _, hne, hm_, hS⟩ := h_; obtain ⟨rfl, hS⟩ := hS; exact absurd rfl hne)
       (by have h2 := Own.ext h hu; exact h2)⟩, fun val h_ W hx he => ⟨trivial, ?_⟩, ?_⟩
    · replace hx := (Upd.drew _ _).trans hx
      replace hx : Upd (fun b => False) w5 W := hx.mono fun b _ h_ => by obtain ⟨j, _, hne, hm_, hS⟩ := h_; obtain ⟨rfl, hS⟩ := hS; exact absurd rfl hne
      replace hO := hO.ext hx
      replace hl := hl.ext hx
      replace hB4 := hB4.ext hx
      have hE := Upd.refl (fun _ => False) W
      obtain ⟨_, hO6, _⟩ := he
      refine X_storeOwnC (i := ((i : Nat) : Int).toNat * 8) (u := val 6) T35 hO (by omega) rfl rfl hO6.sv.one ?_
      intro w7 hO7 hu7
      rw [Int.toNat_natCast] at hO7
      exact ⟨hu7.mono fun b _ h => ⟨rfl, h⟩, hO7⟩
    intro val W6 hx6 he6
    replace hx6 := (Upd.drew _ _).trans hx6
    replace hx6 : Upd (fun b => (obk u = some b)) w5 W6 := hx6.mono fun b _ h_ => by obtain ⟨j, _, hS⟩ := h_; obtain ⟨rfl, hS⟩ := hS; exact hS
    have hz6 := hx6.size
    replace hSub : ∀ s ∈ SubT (gs.take i), BOwn _ 5 n0 s9 s := fun s hs => ⟨(hSub s hs).1.upd hx6 fun b hb h => absurd (hO.types (hSub s hs).1 h hb) (by decide), (hSub s hs).2⟩
    replace hl := hl.upd hx6 fun i h1 h2 h => by have h1 := hu_b i h; omega
    replace hU := hU.trans (hx6.mono fun i _ h => by have h1 := hu_b i h; show n0 ≤ i; omega)
    replace hB4 := hB4.upd hx6 fun h => by have h1 := hu_b b4 h; omega
    obtain ⟨hO12, he6⟩ := he6
    obtain ⟨⟨hO9, hne9⟩, he6⟩ := he6
    obtain ⟨hO6, he6⟩ := he6
    refine L_op rfl (X_idx (v := u) (n := es.length) (k := .i64) (i := ((i : Nat) : Int)) S22 rfl hO.sv rfl (by omega) (by omega) ?_)
    refine L_op rfl (X_fldS (v := u) (o := (((i : Nat) : Int) : Int).toNat * 8) Fd43_1 rfl hO.sv (by omega) ?_)
    refine L_op0 (X_storeOwnC (i := ((i : Nat) : Int).toNat * 8 + 1) (u := val 9) T35 hO12 (by omega) rfl rfl hO9.sv.one ?_)
    intro w8 hO8 hu8
    have hz8 := hu8.size
    rw [Int.toNat_natCast, row_set2 hgi] at hO8
    have hO6_lt := fun b hb => hO6.lt (b := b) hb
    replace hO6 := hO6.upd hu8 fun b hb h => by have h1 := (hO6_lt b hb).1; have h2 := hu_b b h; omega
    have hO9_lt := fun b hb => hO9.lt (b := b) hb
    replace hO9 := hO9.upd hu8 fun b hb h => by have h1 := (hO9_lt b hb).1; have h2 := hu_b b h; omega
    replace hSub : ∀ s ∈ SubT (gs.take i), BOwn w8 5 n0 s9 s := fun s hs => ⟨(hSub s hs).1.upd hu8 fun b hb h => absurd (hO12.types (hSub s hs).1 h hb) (by decide), (hSub s hs).2⟩
    replace hl := hl.upd hu8 fun i h1 h2 h => by have h3 := hu_b i h; omega
    replace hU := hU.trans (hu8.mono fun i _ h => by have h3 := hu_b i h; show n0 ≤ i; omega)
    have hdi8 : DistB (SubT (gs.take i) ++ ([(val 6, e.2.2.1), (val 9, e.2.2.2.1)] : List BE)) := distB_push2 hdi (m := N5) (fun x hx k hk => by have := (hSub x hx).2 k hk; omega) (fun k hk => (hO6.lt hk).1) (fun k hk => (hO9.lt hk).1) hne9
    have hSub8 : ∀ s ∈ SubT (gs.take i) ++ ([(val 6, e.2.2.1), (val 9, e.2.2.2.1)] : List BE), BOwn w8 5 n0 w8.heap.size s := fun s hs => by rcases List.mem_append.1 hs with h | h; (· exact (hSub s h).mono (Nat.le_refl _) (by omega)); (· have h1 : s = ((val 6, e.2.2.1) : BE) ∨ s = ((val 9, e.2.2.2.1) : BE) := (by simpa using h); rcases h1 with rfl | rfl; (· exact ⟨hO6.more (by omega), fun b hb => (hO6.lt hb).2⟩); (· exact ⟨hO9.more (by omega), fun b hb => (hO9.lt hb).2⟩))
    rw [← sub_step hgi] at hdi8 hSub8
    refine L_nil ?_
    refine B_n ?_
    refine T_n ?_
    refine W_reg ?_
    refine L_op rfl (X_arith (k := .i64) (a := ((i : Nat) : Int)) (b := 1) (r := ((i + 1 : Nat) : Int)) rfl rfl rfl (iadd64 (by omega) (by omega) (by omega)) ?_)
    refine L_op rfl (X_move (v := (.int .i64 (((i + 1 : Nat) : Int)))) rfl ?_)
    refine L_nil ?_
    refine T_n ?_
    exact ⟨rfl, (i + 1, gs.set i (val 6, val 9, e.2.2)), ⟨⟨hi, by rw [List.length_set]; exact hgl, gs_step hgd _, by rw [ds_set hgi]; exact hgs, hO8, hSub8, hdi8, hl, hU⟩, (by show es.length - (i + 1) < es.length - i; omega)⟩, (Out.mk rfl), ⟨rfl, trivial⟩⟩
  · refine L_op rfl (X_cmp (k := .i64) (a := ((i : Nat) : Int)) (b := ((es.length : Nat) : Int)) (r := false) rfl rfl rfl (decide_eq_false (p := ((((i : Nat) : Int)) : Int) < ((((es.length : Nat) : Int)) : Int)) (by omega)) ?_)
    have hie : i = es.length := by omega
    refine L_nil ?_
    refine T_n ?_
    refine W_seq ?_
    refine W_cf rfl ?_
    refine W_exit ?_
    refine T_e ?_
    refine T_e ?_
    refine B_x ?_
    refine T_n ?_
    refine W_seq ?_
    refine W_reg ?_
    refine L_op rfl (X_move (v := u) rfl ?_)
    refine L_op rfl (X_assign (v := u) rfl ?_)
    refine L_nil ?_
    refine T_n ?_
    refine W_ret ?_
    exact BQ_r (End_1 Tryd.results18 (v := u) rfl ⟨gs, ⟨(hO.more (by omega)).eq hgl.symm rfl, fun b hb => by rw [← hs9]; have := (hO.lt hb).2; omega, fun e he s hs => by rw [hie, List.take_of_length_le (by omega)] at hSub; rw [← hs9, ← hn0]; exact hSub s (List.mem_flatMap.2 ⟨e, he, hs⟩)⟩, by rw [hie, List.take_of_length_le (by omega)] at hdi; exact hdi, hgs, hU.own hn0⟩)
end Go.Proofs.YtmddmghgkkjbiaaDoor
