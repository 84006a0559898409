/-
  The contracts of branches: Decode. (Printed by wip/gen/t07i.py of this repo.)
-/
import Derived.Test.YtbgpegccnalkeaaDoorKidsD
namespace Go.Proofs.YtbgpegccnalkeaaDoor
open Go Go.SL Go.Proofs
set_option linter.unusedVariables false

def psP (p : List UInt8) : List (KD × List UInt8) := parseK (p.drop 2) (p.getD 1 0).toNat
def ksP (p : List UInt8) : List KD := (psP p).map (fun x => x.1)
def restK (b : List UInt8) (ps : List (KD × List UInt8)) (k : Nat) : List UInt8 := match (ps.take k).getLast? with
  | none => b
  | some x => x.2
theorem restK_step {b : List UInt8} {ps : List (KD × List UInt8)} {k : Nat} {d : KD} {t : List UInt8} (h : ps[k]? = some (d, t)) : restK b ps (k + 1) = t := by
  unfold restK
  rw [List.take_add_one, h]
  simp
abbrev restP (p : List UInt8) : List UInt8 := restK (p.drop 2) (psP p) (psP p).length
abbrev DecOk (p : List UInt8) : Prop := (p.getD 0 0).toNat = 2 ∧ (p.getD 1 0).toNat ≤ 6 ∧ (psP p).length = (p.getD 1 0).toNat ∧ RightK (ksP p) ∧ (restP p).all (· == 0) = true
def decL (p : List UInt8) : List KD := if DecOk p then ksP p else []
def decE (p : List UInt8) : Int := if DecOk p then 0 else 50
theorem page_at {p : List UInt8} (hp : p.length = 256) {i : Nat} (hi : i < 256) : (p.map byteV).toArray[i]? = some (byteV (p.getD i 0)) := by
  rw [List.getElem?_toArray, List.getElem?_map, List.getD_eq_getElem?_getD, List.getElem?_eq_getElem (by omega)]; rfl
theorem page_rest {p : List UInt8} (hp : p.length = 256) : (p.drop 2).take (256 - 2) = p.drop 2 := List.take_of_length_le (by rw [List.length_drop]; omega)
theorem pts_of {es : List KE} {ps : List (KD × List UInt8)} (h : es.map (fun (x : KE) => x.2) = ps.map (fun x => x.1)) (hp : ∀ x ∈ ps, PtOk x.1.2) : ∀ e ∈ es, PtOk e.2.2 := by
  intro e he
  have h1 : e.2 ∈ es.map (fun (x : KE) => x.2) := List.mem_map_of_mem he
  rw [h] at h1
  obtain ⟨x, hx, hxe⟩ := List.mem_map.1 h1
  rw [← hxe]
  exact hp x hx

theorem c_decodeK (p : List UInt8) (w : World) (hp : p.length = 256) (hT : TabR w) : CT Tryd.prog 12 #[(.agg ((p).map byteV).toArray)] w fun v w' => ∃ s, v = .tuple #[s, .int .i64 (decE p)] ∧ ∃ es, NOwn LK w' 44 5 w.heap.size w'.heap.size s es ∧ Dist es ∧ es.map (fun (x : KE) => x.2) = decL p ∧ Ext w w' := by
  obtain ⟨n0, hn0⟩ : ∃ n, n = w.heap.size := ⟨_, rfl⟩
  have hU : Upd (fun i => n0 ≤ i) w w := Upd.refl _ _
  have hn1 := tab_pos hT
  refine CT_of Tryd.func12 rfl rfl rfl ?_
  refine W_seq ?_
  refine W_reg ?_
  refine L_op rfl (X_box (v := (.agg ((p).map byteV).toArray)) (c := ((p).map byteV).toArray) rfl rfl ?_)
  intro b1 w1 hn1
  have hbn1 := hn1.num; have hbs1 := hn1.size
  replace hU := hU.trans (Ext.upd hn1.ext)
  replace hT := hT.ext hn1.ext
  have hB1 := hn1.blk
  refine L_op rfl (X_assign (v := (.slice none 0 0)) rfl ?_)
  refine L_op rfl (X_assign (v := (.int .i64 (0))) rfl ?_)
  refine L_nil ?_
  refine T_n ?_
  refine W_seq ?_
  refine W_reg ?_
  refine L_op rfl (X_alloc (z := (.slice none 0 0)) (c := #[(.slice none 0 0)]) Zv22 rfl ?_)
  intro b2 w2 hn2
  have hbn2 := hn2.num; have hbs2 := hn2.size
  replace hU := hU.trans (Ext.upd hn2.ext)
  replace hT := hT.ext hn2.ext
  replace hB1 := hB1.ext hn2.ext
  have hB2 := hn2.blk
  obtain ⟨b4, hb4⟩ : ∃ n, n = b2 := ⟨_, rfl⟩
  rw [← hb4] at hB2 ⊢
  have hB4 := hB2
  refine L_nil ?_
  refine T_n ?_
  refine W_seq ?_
  refine W_seq ?_
  refine W_reg ?_
  refine L_op rfl (X_idxAP (len := 256) (sz := 1) (b := b1) (o := 0) (k := .i64) (i := 0) (r := 0) Tryd.underlying26 Z5 rfl rfl (by omega) (by omega) rfl ?_)
  refine L_op rfl (X_load (p := (ptr b1 (0))) (v := byteV (p.getD 0 0)) T5 rfl (hB1.at1 (page_at hp (by decide))) ?_)
  by_cases hc3 : ((((p.getD 0 0).toNat : Nat) : Int) : Int) ≠ (2)
  · refine L_op rfl (X_cmp (k := .u8) (a := (((p.getD 0 0).toNat : Nat) : Int)) (b := 2) (r := true) rfl rfl rfl (decide_eq_true (p := (((((p.getD 0 0).toNat : Nat) : Int)) : Int) ≠ ((2) : Int)) (by omega)) ?_)
    refine L_op rfl (X_move (v := (.bool (true))) rfl ?_)
    refine L_gn (dj := 11) (t := true) rfl rfl rfl rfl ?_
    refine L_gn (dj := 11) (t := true) rfl rfl rfl rfl ?_
    refine L_gn (dj := 11) (t := true) rfl rfl rfl rfl ?_
    refine L_op rfl (X_pick (t := true) (v := (.bool (true))) rfl rfl ?_)
    refine L_nil ?_
    refine T_n ?_
    refine W_ct rfl ?_
    refine W_seq ?_
    refine W_reg ?_
    refine L_op rfl (X_assign (v := (.slice none 0 0)) rfl ?_)
    refine L_op rfl (X_assign (v := (.int .i64 (50))) rfl ?_)
    refine L_nil ?_
    refine T_n ?_
    refine W_ret ?_
    refine T_r ?_
    have hno : ¬ DecOk p := fun h => by obtain ⟨h1, h2, h3, h4, h5⟩ := h; omega
    exact BQ_r (End_2 Tryd.results12 (v1 := .slice none 0 0) (v2 := .int .i64 50) rfl rfl ⟨_, by rw [show decE p = 50 from if_neg hno], [], NOwn.nil _ _ _ _ _, List.Pairwise.nil, by rw [show decL p = [] from if_neg hno]; rfl, hU.own hn0⟩)
  · refine L_op rfl (X_cmp (k := .u8) (a := (((p.getD 0 0).toNat : Nat) : Int)) (b := 2) (r := false) rfl rfl rfl (decide_eq_false (p := (((((p.getD 0 0).toNat : Nat) : Int)) : Int) ≠ ((2) : Int)) (by omega)) ?_)
    refine L_op rfl (X_move (v := (.bool (false))) rfl ?_)
    refine L_gy (dj := 11) rfl rfl rfl (X_idxAP (len := 256) (sz := 1) (b := b1) (o := 0) (k := .i64) (i := 1) (r := 1) Tryd.underlying26 Z5 rfl rfl (by omega) (by omega) rfl ?_)
    refine L_gy (dj := 11) rfl rfl rfl (X_load (p := (ptr b1 (1))) (v := byteV (p.getD 1 0)) T5 rfl (hB1.at1 (page_at hp (by decide))) ?_)
    by_cases hc4 : ((((p.getD 1 0).toNat : Nat) : Int) : Int) > (6)
    · refine L_gy (dj := 11) rfl rfl rfl (X_cmp (k := .u8) (a := (((p.getD 1 0).toNat : Nat) : Int)) (b := 6) (r := true) rfl rfl rfl (decide_eq_true (p := ((6) : Int) < (((((p.getD 1 0).toNat : Nat) : Int)) : Int)) (by omega)) ?_)
      refine L_op rfl (X_pick (t := false) (v := (.bool (true))) rfl rfl ?_)
      refine L_nil ?_
      refine T_n ?_
      refine W_ct rfl ?_
      refine W_seq ?_
      refine W_reg ?_
      refine L_op rfl (X_assign (v := (.slice none 0 0)) rfl ?_)
      refine L_op rfl (X_assign (v := (.int .i64 (50))) rfl ?_)
      refine L_nil ?_
      refine T_n ?_
      refine W_ret ?_
      refine T_r ?_
      have hno : ¬ DecOk p := fun h => by obtain ⟨h1, h2, h3, h4, h5⟩ := h; omega
      exact BQ_r (End_2 Tryd.results12 (v1 := .slice none 0 0) (v2 := .int .i64 50) rfl rfl ⟨_, by rw [show decE p = 50 from if_neg hno], [], NOwn.nil _ _ _ _ _, List.Pairwise.nil, by rw [show decL p = [] from if_neg hno]; rfl, hU.own hn0⟩)
    · refine L_gy (dj := 11) rfl rfl rfl (X_cmp (k := .u8) (a := (((p.getD 1 0).toNat : Nat) : Int)) (b := 6) (r := false) rfl rfl rfl (decide_eq_false (p := ((6) : Int) < (((((p.getD 1 0).toNat : Nat) : Int)) : Int)) (by omega)) ?_)
      refine L_op rfl (X_pick (t := false) (v := (.bool (false))) rfl rfl ?_)
      refine L_nil ?_
      refine T_n ?_
      refine W_cf rfl ?_
      refine W_skip ?_
      refine T_n ?_
      refine W_seq ?_
      refine W_reg ?_
      refine L_op rfl (X_sliceAL (len := 256) (sz := 1) (b := b1) (l := 2) (h' := 256) (kl := .i64) (kh := .i64) Tryd.underlying26 Z5 rfl rfl rfl (by omega) (by omega) ?_)
      refine L_op rfl (X_alloc (z := (.slice none 0 0)) (c := #[(.slice none 0 0)]) Zv42 rfl ?_)
      intro b6 w6 hn6
      have hbn6 := hn6.num; have hbs6 := hn6.size
      replace hU := hU.trans (Ext.upd hn6.ext)
      replace hT := hT.ext hn6.ext
      replace hB1 := hB1.ext hn6.ext
      replace hB4 := hB4.ext hn6.ext
      have hB6 := hn6.blk
      obtain ⟨b5, hb5⟩ : ∃ n, n = b6 := ⟨_, rfl⟩
      rw [← hb5] at hB6 ⊢
      have hB5 := hB6
      refine L_op0 (X_store (b := b5) (o := 0) T42 rfl rfl ((hB1.rdL (n := 256) (hp) (by decide) (lo := 2) (hi := 256) (by omega) (by omega) (m := (p.drop 2)) (page_rest hp)).sv.one) hB5 (by show (0 : Nat) < 1; decide) ?_)
      intro w7 hu7 hb7
      have hz7 := hu7.size
      replace hU := hU.trans (hu7.mono fun i _ h => by have h : i = b5 := h; show n0 ≤ i; omega)
      replace hT := hT.upd hu7 fun i h1 h2 h => by have h : i = b5 := h; omega
      replace hB1 := hB1.upd hu7 fun h => by have h : b1 = b5 := h; omega
      replace hB4 := hB4.upd hu7 fun h => by have h : b4 = b5 := h; omega
      replace hB5 : Blk w7 b5 #[(cutv (.slice (some ⟨b1, 0, none⟩) 256 256) 1 (2) (256))] 42 := hb7
      refine L_nil ?_
      refine T_n ?_
      refine W_seq ?_
      refine W_seq ?_
      refine W_reg ?_
      refine L_op rfl (X_load (p := (ptr b5 (0))) (v := (cutv (.slice (some ⟨b1, 0, none⟩) 256 256) 1 (2) (256))) T42 rfl (hB5.at1 rfl) ?_)
      refine L_op rfl (X_idxAP (len := 256) (sz := 1) (b := b1) (o := 0) (k := .i64) (i := 1) (r := 1) Tryd.underlying26 Z5 rfl rfl (by omega) (by omega) rfl ?_)
      refine L_op rfl (X_load (p := (ptr b1 (1))) (v := byteV (p.getD 1 0)) T5 rfl (hB1.at1 (page_at hp (by decide))) ?_)
      refine L_op rfl (X_convInt (k := .u8) (a := (((p.getD 1 0).toNat : Nat) : Int)) (r := (((p.getD 1 0).toNat : Nat) : Int)) (by rw [Tryd.underlying5]; rfl) Tryd.underlying3 rfl (i64_wrap (by omega) (by have := (p.getD 1 0).toNat_lt; omega)) ?_)
      obtain ⟨xb, hxb⟩ : ∃ n, n = w7.heap.size := ⟨_, rfl⟩
      have hRs : Rd w7 1 (cutv (.slice (some ⟨b1, 0, none⟩) 256 256) 1 (2) (256)) (p.drop 2).length ((p.drop 2).map byteV) := (hB1.rdL (n := 256) (hp) (by decide) (lo := 2) (hi := 256) (by omega) (by omega) (m := (p.drop 2)) (page_rest hp))
      refine L_op rfl (X_fn (vs := [(cutv (.slice (some ⟨b1, 0, none⟩) 256 256) 1 (2) (256)), (.int .i64 ((((p.getD 1 0).toNat : Nat) : Int)))]) en28 rfl (CT.mono (c_read (cutv (.slice (some ⟨b1, 0, none⟩) 256 256) 1 (2) (256)) (p.drop 2).length _ _ hRs.sv) ?_))
      rintro _ w5 ⟨rfl, hK1, hK2, hu5, hz5⟩
      rw [← hxb] at hK1 hK2 ⊢
      replace hU := hU.trans (Ext.upd hu5)
      replace hT := hT.ext hu5
      replace hB1 := hB1.ext hu5
      replace hB4 := hB4.ext hu5
      replace hB5 := hB5.ext hu5
      replace hRs := hRs.ext hu5
      obtain ⟨m0, hm0⟩ : ∃ n, n = xb + 4 := ⟨_, rfl⟩
      have hrp : ∀ b, rbk (cutv (.slice (some ⟨b1, 0, none⟩) 256 256) 1 (2) (256)) = some b → b = b1 := fun b hb => (Option.some.inj (show some b1 = some b from hb)).symm
      refine L_nil ?_
      refine T_n ?_
      refine W_block ?_
      obtain ⟨nL, hnL⟩ : ∃ n, n = w5.heap.size := ⟨_, rfl⟩
      refine W_rangeG (n := (parseK (p.drop 2) (p.getD 1 0).toNat).length) (Y := (YP (cutv (.slice (some ⟨b1, 0, none⟩) 256 256) 1 (2) (256)) (parseK (p.drop 2) (p.getD 1 0).toNat))) rfl en41 (c_read1 (cutv (.slice (some ⟨b1, 0, none⟩) 256 256) 1 (2) (256)) (p.drop 2) (p.getD 1 0).toNat xb (xb + 1) _ (by have := (p.getD 1 0).toNat_lt; omega) hK2 hK1 hRs (fun b hb => by have := hrp b hb; omega) rfl (by omega) hT) (Upd.refl _ _) rfl (fun k x W0 W h => by obtain ⟨kv, r, d, t, _, rfl, _⟩ := h; rfl) (fun b => b = b4 ∨ b = b5 ∨ m0 ≤ b) (fun b hb => ⟨fun h => by { rcases h with h | h | h | h; all_goals first | (have := hrp b h; omega) | omega }, by omega, by omega⟩) (fun b hb h => by rcases h with h | h | h | h; all_goals first | (have := hrp b h; omega) | omega) (fun b h => by have h : b = xb := h; omega) (fun k W => ∃ v_ r_ es up, Blk W b4 #[v_] 22 ∧ Blk W b5 #[r_] 42 ∧ NOwn LK W 44 5 m0 up v_ es ∧ up ≤ W.heap.size ∧ Dist es ∧ es.map (fun (x : KE) => x.2) = ((psP p).take k).map (fun x => x.1) ∧ Rd W 1 r_ (restK (p.drop 2) (psP p) k).length ((restK (p.drop 2) (psP p) k).map byteV) ∧ (∀ b, rbk r_ = some b → b = b1) ∧ Blk W b1 (p.map byteV).toArray 26 ∧ TabR W ∧ Upd (fun i => n0 ≤ i) w W) (fun k e W => False) (fun k W W2 hI hu => by obtain ⟨v_, r_, es, up, hB4, hB5, hN, hup, hdi, hes, hR, hr, hB1, hT, hU⟩ := hI; have hz := hu.size; exact ⟨v_, r_, es, up, hB4.upd hu fun h => by { rcases h with h | h <;> omega }, hB5.upd hu fun h => by { rcases h with h | h <;> omega }, hN.upd hu fun i h1 h2 h => by { rcases h with h | h <;> omega }, by omega, hdi, hes, hR.upd hu fun i hi h => by { have h1 := hr i hi; rcases h with h | h <;> omega }, hr, hB1.upd hu fun h => by { rcases h with h | h <;> omega }, hT.upd hu fun i h1 h2 h => by { rcases h with h | h <;> omega }, hU.trans (hu.mono fun i _ h => by { rcases h with h | h <;> (show n0 ≤ i; omega) })⟩) (fun _ _ _ _ h _ => h) ?_ ?_ ?_ ?_
      · intro W hx_ hs_
        exact ⟨.slice none 0 0, (cutv (.slice (some ⟨b1, 0, none⟩) 256 256) 1 (2) (256)), [], 0, hB4.ext hx_, hB5.ext hx_, NOwn.nil _ _ _ _ _, Nat.zero_le _, List.Pairwise.nil, rfl, hRs.ext hx_, hrp, hB1.ext hx_, hT.ext hx_, hU.trans (Ext.upd hx_)⟩
      · intro k x W0 W hk_ hI_ hu0_ hsz0_ hsz_ hlp_
        obtain ⟨v_, r_, es, up, hB4, hB5, hN, hup, hdi, hes, hR_, hr_, hB1, hT, hU⟩ := hI_
        obtain ⟨hkn, kv, r, d, t, hat, rfl, hK, hR, hrb⟩ := hk_
        replace hat : (psP p)[k]? = some (d, t) := hat
        have hel : es.length = k := by have h := congrArg List.length hes; rw [List.length_map, List.length_map, List.length_take] at h; have hkn : k < (psP p).length := hkn; omega
        have hkle : k ≤ 256 := by have h1 := parse_len (p.getD 1 0).toNat (p.drop 2); have h2 : (psP p).length = (parseK (p.drop 2) (p.getD 1 0).toNat).length := rfl; have h3 := (p.getD 1 0).toNat_lt; have hkn : k < (psP p).length := hkn; omega
        replace hB4 := hB4.upd hu0_ fun h => by { rcases h with h | h <;> omega }
        replace hB5 := hB5.upd hu0_ fun h => by { rcases h with h | h <;> omega }
        replace hB1 := hB1.upd hu0_ fun h => by { rcases h with h | h <;> omega }
        replace hN := hN.upd hu0_ fun i h1 h2 h => by { rcases h with h | h <;> omega }
        replace hT := hT.upd hu0_ fun i h1 h2 h => by { rcases h with h | h <;> omega }
        replace hU := hU.trans (hu0_.mono fun i _ h => by rcases h with h | h <;> (show n0 ≤ i; omega))
        have hR_b : ∀ b, rbk r = some b → b = b1 := fun b hb => hrp b (hrb b hb)
        have hsz01_ := hu0_.size
        have hD := Upd.refl (fun b => b = b4 ∨ b = b5 ∨ m0 ≤ b) W
        refine W_seq ?_
        refine W_reg ?_
        refine L_op rfl (X_alloc (z := (.agg #[(.slice none 0 0), (.int .u8 (0)), (.int .u16 (0)), (.int .u16 (0)), (.int .u32 (0)), (.int .u64 (0))])) (c := #[(.slice none 0 0), (.int .u8 (0)), (.int .u16 (0)), (.int .u16 (0)), (.int .u32 (0)), (.int .u64 (0))]) Zv44 rfl ?_)
        intro b8 w8 hn8
        have hbn8 := hn8.num; have hbs8 := hn8.size
        replace hB4 := hB4.ext hn8.ext
        replace hB5 := hB5.ext hn8.ext
        replace hN := hN.ext hn8.ext
        replace hK := hK.ext hn8.ext
        replace hR := hR.ext hn8.ext
        replace hB1 := hB1.ext hn8.ext
        replace hT := hT.ext hn8.ext
        replace hU := hU.trans (Ext.upd hn8.ext)
        replace hD := hD.trans (Ext.upd hn8.ext)
        have hB8 := hn8.blk
        refine L_op0 (X_storeW (b := b8) (ys := kv :: ptC d.2) A44 rfl rfl (hK.1.sv.kone _) rfl hB8 rfl ?_)
        intro w9 hu9 hb9
        have hz9 := hu9.size
        have hKb : ∀ b, obk kv = some b → b < b8 := fun b hb => by have := hK.2 b hb; omega
        replace hB4 := hB4.upd hu9 fun h => by have h : b4 = b8 := h; omega
        replace hB5 := hB5.upd hu9 fun h => by have h : b5 = b8 := h; omega
        replace hN := hN.upd hu9 fun i h1 h2 h => by have h : i = b8 := h; omega
        replace hR := hR.upd hu9 fun i hi h => by have hi := hR_b _ hi; have h : i = b8 := h; omega
        replace hB1 := hB1.upd hu9 fun h => by have h : b1 = b8 := h; omega
        replace hT := hT.upd hu9 fun i h1 h2 h => by have h : i = b8 := h; omega
        replace hU := hU.trans (hu9.mono fun i _ h => by have h : i = b8 := h; show n0 ≤ i; omega)
        replace hD := hD.trans (hu9.mono fun i _ h => by have h : i = b8 := h; show i = b4 ∨ i = b5 ∨ m0 ≤ i; omega)
        replace hK : BOwn w9 5 W0.heap.size W.heap.size (kv, d.1) := ⟨hK.1.upd hu9 fun i hi h => by have h : i = b8 := h; have := hKb i hi; omega, hK.2⟩
        replace hB8 := hb9
        refine L_nil ?_
        refine T_n ?_
        refine W_reg ?_
        refine L_op rfl (X_assign (v := r) rfl ?_)
        refine L_nil ?_
        refine T_n ⟨hD, fun W2 hu2_ hlp2_ => ?_⟩
        have hsz2_ := hu2_.size
        replace hB4 := hB4.upd hu2_ fun h => by have h : b4 = nL + 1 := (by rw [hnL]; exact h); omega
        replace hB5 := hB5.upd hu2_ fun h => by have h : b5 = nL + 1 := (by rw [hnL]; exact h); omega
        replace hN := hN.upd hu2_ fun i h1 h2 h => by have h : i = nL + 1 := (by rw [hnL]; exact h); omega
        replace hR := hR.upd hu2_ fun i hi h => by have hi := hR_b _ hi; have h : i = nL + 1 := (by rw [hnL]; exact h); omega
        replace hB1 := hB1.upd hu2_ fun h => by have h : b1 = nL + 1 := (by rw [hnL]; exact h); omega
        replace hT := hT.upd hu2_ fun i h1 h2 h => by have h : i = nL + 1 := (by rw [hnL]; exact h); omega
        replace hU := hU.trans (hu2_.mono fun i _ h => by have h : i = nL + 1 := (by rw [hnL]; exact h); show n0 ≤ i; omega)
        replace hK := hK.upd hu2_ fun i h1 h2 h => by have h : i = nL + 1 := (by rw [hnL]; exact h); omega
        replace hB8 := hB8.upd hu2_ fun h => by have h : b8 = nL + 1 := (by rw [hnL]; exact h); omega
        have hD := Upd.refl (fun b => b = b4 ∨ b = b5 ∨ m0 ≤ b) W2
        refine W_block ?_
        refine W_reg ?_
        refine L_op rfl (X_load (p := (ptr b4 (0))) (v := v_) T22 rfl (hB4.at1 rfl) ?_)
        refine L_op rfl (X_loadA (p := (ptr b8 (0))) (xs := kv :: ptC d.2) A44 rfl hB8.atAll rfl ?_)
        refine L_op rfl (X_buildSliceL (vs := [kidV (kv, d)]) (c := kv :: ptC d.2) S22 (by decide) rfl rfl (List.forall_mem_cons.2 ⟨rfl, fun _ h => by cases h⟩) rfl ?_)
        intro b10 w10 hn10
        have hbn10 := hn10.num; have hbs10 := hn10.size
        replace hB4 := hB4.ext hn10.ext
        replace hB5 := hB5.ext hn10.ext
        replace hN := hN.ext hn10.ext
        replace hR := hR.ext hn10.ext
        replace hB1 := hB1.ext hn10.ext
        replace hT := hT.ext hn10.ext
        replace hU := hU.trans (Ext.upd hn10.ext)
        replace hK := hK.ext hn10.ext
        replace hB8 := hB8.ext hn10.ext
        replace hD := hD.trans (Ext.upd hn10.ext)
        have hB10 := hn10.blk
        refine L_op rfl (X_append (B := m0) (n := es.length) (s := v_) (x := (.slice (some ⟨b10, 0, none⟩) 1 1)) S22 ⟨_, Tryd.underlying22⟩ rfl rfl hN.1 (m := 1) (ys := kv :: ptC d.2) (hB10.rd (o := 0) (n := 1) (c := 1) (sz := 6) (by decide) (by decide) rfl (fun j u hj => by rw [Nat.zero_add]; simpa using hj)) (hK.1.sv.kone _) (by unfold maxLen; omega) (by omega) (by omega) ?_)
        intro v5 w9 hO5 hu9 ho5
        have hz9 := hu9.size
        replace hB4 := hB4.upd hu9 fun h => by have := (hN.1.lt h).1; omega
        replace hB5 := hB5.upd hu9 fun h => by have := (hN.1.lt h).1; omega
        replace hB1 := hB1.upd hu9 fun h => by have := (hN.1.lt h).1; omega
        replace hT := hT.upd hu9 fun i h1 h2 h => by have := (hN.1.lt h).1; omega
        replace hR := hR.upd hu9 fun i hi h => by have h1 := hR_b i hi; have := (hN.1.lt h).1; omega
        have hN5 := NOwn.push (L := LK) (e := (kv, d)) (by decide) hN hO5 hu9 (fun s hs => by have h1 : s = (kv, d.1) := by { simpa [LK] using hs }; subst h1; exact hK.mono (by omega) (Nat.le_refl _)) (by omega) (by omega)
        have hdi5 : Dist (es ++ [(kv, d)]) := hdi.push (m := W0.heap.size) (fun a ha k hk => by have := (hN.2.2 a ha (a.1, a.2.1) (by simp [LK])).2 k hk; omega) fun k hk => (hK.1.lt hk).1
        replace hU := hU.trans (hu9.mono fun i _ h => by have := (hN.1.lt h).1; show n0 ≤ i; omega)
        replace hD := hD.trans (hu9.mono fun i _ h => by have := (hN.1.lt h).1; show i = b4 ∨ i = b5 ∨ m0 ≤ i; omega)
        obtain ⟨up5, hup5⟩ : ∃ n, n = w9.heap.size := ⟨_, rfl⟩
        rw [← hup5] at hN5
        have hN5o : ∀ b, obk v5 = some b → m0 ≤ b := fun b hb => (hN5.1.lt hb).1
        refine L_op rfl (X_move (v := r) rfl ?_)
        refine L_op0 (X_store (b := b4) (o := 0) T22 rfl rfl (hO5.sv.one) hB4 (by show (0 : Nat) < 1; decide) ?_)
        intro w11 hu11 hb11
        have hz11 := hu11.size
        replace hB5 := hB5.upd hu11 fun h => by have h : b5 = b4 := h; omega
        replace hR := hR.upd hu11 fun i hi h => by have hi := hR_b _ hi; have h : i = b4 := h; omega
        replace hB1 := hB1.upd hu11 fun h => by have h : b1 = b4 := h; omega
        replace hT := hT.upd hu11 fun i h1 h2 h => by have h : i = b4 := h; omega
        replace hU := hU.trans (hu11.mono fun i _ h => by have h : i = b4 := h; show n0 ≤ i; omega)
        replace hD := hD.trans (hu11.mono fun i _ h => by have h : i = b4 := h; show i = b4 ∨ i = b5 ∨ m0 ≤ i; omega)
        replace hN5 := hN5.upd hu11 fun i h1 h2 h => by have h : i = b4 := h; omega
        replace hB4 : Blk w11 b4 #[v5] 22 := hb11
        refine L_op0 (X_store (b := b5) (o := 0) T42 rfl rfl (hR.sv.one) hB5 (by show (0 : Nat) < 1; decide) ?_)
        intro w12 hu12 hb12
        have hz12 := hu12.size
        replace hR := hR.upd hu12 fun i hi h => by have hi := hR_b _ hi; have h : i = b5 := h; omega
        replace hB1 := hB1.upd hu12 fun h => by have h : b1 = b5 := h; omega
        replace hT := hT.upd hu12 fun i h1 h2 h => by have h : i = b5 := h; omega
        replace hU := hU.trans (hu12.mono fun i _ h => by have h : i = b5 := h; show n0 ≤ i; omega)
        replace hD := hD.trans (hu12.mono fun i _ h => by have h : i = b5 := h; show i = b4 ∨ i = b5 ∨ m0 ≤ i; omega)
        replace hN5 := hN5.upd hu12 fun i h1 h2 h => by have h : i = b5 := h; omega
        replace hB4 := hB4.upd hu12 fun h => by have h : b4 = b5 := h; omega
        replace hB5 : Blk w12 b5 #[r] 42 := hb12
        refine L_nil ?_
        refine B_n ?_
        exact RQ_n hD ⟨v5, r, es ++ [(kv, d)], up5, hB4, hB5, hN5, by omega, hdi5, by rw [List.map_append, hes, List.take_add_one, hat, List.map_append]; rfl, by rw [restK_step hat]; exact hR, hR_b, hB1, hT, hU⟩
      · intro W hI_ hd_
        obtain ⟨v_, r_, es, up, hB4, hB5, hN, hup, hdi, hes, hR, hR_b, hB1, hT, hU⟩ := hI_
        have hd : Dfd W nL := by rw [hnL]; exact hd_
        have hes2 : es.map (fun (x : KE) => x.2) = ksP p := by rw [hes]; unfold ksP; rw [show (parseK (p.drop 2) (p.getD 1 0).toNat).length = (psP p).length from rfl, List.take_length]
        replace hR : Rd W 1 r_ (restP p).length ((restP p).map byteV) := hR
        have hel : es.length = (psP p).length := by have h := congrArg List.length hes2; unfold ksP at h; rw [List.length_map, List.length_map] at h; exact h
        have hpt := pts_of hes2 (parse_ok _ _)
        refine B_n ?_
        refine T_n ?_
        refine W_seq ?_
        refine W_seq ?_
        refine W_reg ?_
        refine L_op rfl (X_load (p := (ptr b4 (0))) (v := v_) T22 rfl (hB4.at1 rfl) ?_)
        refine L_op rfl (X_len (v := v_) (n := es.length) Tryd.underlying22 rfl hN.1.sv ?_)
        refine L_op rfl (X_idxAP (len := 256) (sz := 1) (b := b1) (o := 0) (k := .i64) (i := 1) (r := 1) Tryd.underlying26 Z5 rfl rfl (by omega) (by omega) rfl ?_)
        refine L_op rfl (X_load (p := (ptr b1 (1))) (v := byteV (p.getD 1 0)) T5 rfl (hB1.at1 (page_at hp (by decide))) ?_)
        refine L_op rfl (X_convInt (k := .u8) (a := (((p.getD 1 0).toNat : Nat) : Int)) (r := (((p.getD 1 0).toNat : Nat) : Int)) (by rw [Tryd.underlying5]; rfl) Tryd.underlying3 rfl (i64_wrap (by omega) (by have := (p.getD 1 0).toNat_lt; omega)) ?_)
        by_cases hc13 : (((es.length : Nat) : Int) : Int) ≠ ((((p.getD 1 0).toNat : Nat) : Int))
        · refine L_op rfl (X_cmp (k := .i64) (a := ((es.length : Nat) : Int)) (b := (((p.getD 1 0).toNat : Nat) : Int)) (r := true) rfl rfl rfl (decide_eq_true (p := ((((es.length : Nat) : Int)) : Int) ≠ (((((p.getD 1 0).toNat : Nat) : Int)) : Int)) (by omega)) ?_)
          refine L_op rfl (X_move (v := (.bool (true))) rfl ?_)
          refine L_gn (dj := 35) (t := true) rfl rfl rfl rfl ?_
          refine L_gn (dj := 35) (t := true) rfl rfl rfl rfl ?_
          refine L_gn (dj := 35) (t := true) rfl rfl rfl rfl ?_
          refine L_op rfl (X_pick (t := true) (v := (.bool (true))) rfl rfl ?_)
          refine L_op rfl (X_move (v := (.bool (true))) rfl ?_)
          refine L_gn (dj := 40) (t := true) rfl rfl rfl rfl ?_
          refine L_gn (dj := 40) (t := true) rfl rfl rfl rfl ?_
          refine L_gn (dj := 40) (t := true) rfl rfl rfl rfl ?_
          refine L_op rfl (X_pick (t := true) (v := (.bool (true))) rfl rfl ?_)
          refine L_nil ?_
          refine T_n ?_
          refine W_ct rfl ?_
          refine W_seq ?_
          refine W_reg ?_
          refine L_op rfl (X_assign (v := (.slice none 0 0)) rfl ?_)
          refine L_op rfl (X_assign (v := (.int .i64 (50))) rfl ?_)
          refine L_nil ?_
          refine T_n ?_
          refine W_ret ?_
          refine T_r ?_
          have hno : ¬ DecOk p := fun h => by obtain ⟨h1, h2, h3, h4, h5⟩ := h; omega
          exact BQ_r (End_m (hnL ▸ hd) fun w9 hu9 => End_2 Tryd.results12 (v1 := .slice none 0 0) (v2 := .int .i64 50) rfl rfl ⟨_, by rw [show decE p = 50 from if_neg hno], [], NOwn.nil _ _ _ _ _, List.Pairwise.nil, by rw [show decL p = [] from if_neg hno]; rfl, (hU.trans (hu9.mono fun i _ h => by have h : i = nL := (by rw [hnL]; exact h); show n0 ≤ i; omega)).own hn0⟩)
        · refine L_op rfl (X_cmp (k := .i64) (a := ((es.length : Nat) : Int)) (b := (((p.getD 1 0).toNat : Nat) : Int)) (r := false) rfl rfl rfl (decide_eq_false (p := ((((es.length : Nat) : Int)) : Int) ≠ (((((p.getD 1 0).toNat : Nat) : Int)) : Int)) (by omega)) ?_)
          refine L_op rfl (X_move (v := (.bool (false))) rfl ?_)
          refine L_gy (dj := 35) rfl rfl rfl (X_load (p := (ptr b4 (0))) (v := v_) T22 rfl (hB4.at1 rfl) ?_)
          refine L_gy (dj := 35) rfl rfl rfl (X_fn (vs := [v_]) en11 rfl (CT.mono (c_rightK v_ es _ m0 up (by omega) hN.rd hpt) ?_))
          rintro _ w14 ⟨rfl, hu14⟩
          have hz14 := hu14.size
          replace hB4 := hB4.ext hu14
          replace hB5 := hB5.ext hu14
          replace hN := hN.ext hu14
          replace hR := hR.ext hu14
          replace hB1 := hB1.ext hu14
          replace hT := hT.ext hu14
          replace hU := hU.trans (Ext.upd hu14)
          replace hd := hd.ext hu14
          rw [hes2]
          rcases Bool.eq_false_or_eq_true (decide (RightK (ksP p))) with hc15 | hc15
          · rw [hc15]
            refine L_gy (dj := 35) rfl rfl rfl (X_not (b := true) (r := false) rfl rfl ?_)
            refine L_op rfl (X_pick (t := false) (v := (.bool (false))) rfl rfl ?_)
            refine L_op rfl (X_move (v := (.bool (false))) rfl ?_)
            refine L_gy (dj := 40) rfl rfl rfl (X_load (p := (ptr b5 (0))) (v := r_) T42 rfl (hB5.at1 rfl) ?_)
            refine L_gy (dj := 40) rfl rfl rfl (X_fn (vs := [r_]) en29 rfl (CT.mono (c_clean r_ (restP p) _ hR) ?_))
            rintro _ _ ⟨rfl, rfl⟩
            rcases Bool.eq_false_or_eq_true ((restP p).all (· == 0)) with hc16 | hc16
            · rw [hc16]
              refine L_gy (dj := 40) rfl rfl rfl (X_not (b := true) (r := false) rfl rfl ?_)
              refine L_op rfl (X_pick (t := false) (v := (.bool (false))) rfl rfl ?_)
              refine L_nil ?_
              refine T_n ?_
              refine W_cf rfl ?_
              refine W_skip ?_
              refine T_n ?_
              refine W_seq ?_
              refine W_reg ?_
              refine L_op rfl (X_load (p := (ptr b4 (0))) (v := v_) T22 rfl (hB4.at1 rfl) ?_)
              refine L_op rfl (X_assign (v := v_) rfl ?_)
              refine L_op rfl (X_assign (v := (.int .i64 (0))) rfl ?_)
              refine L_nil ?_
              refine T_n ?_
              refine W_ret ?_
              have hok : DecOk p := ⟨by omega, by omega, by omega, of_decide_eq_true hc15, hc16⟩
              refine BQ_r (End_m (hnL ▸ hd) fun w9 hu9 => ?_)
              have hz9 := hu9.size
              exact End_2 Tryd.results12 (v1 := v_) (v2 := .int .i64 0) rfl rfl ⟨v_, by rw [show decE p = 0 from if_pos hok], es, (hN.upd hu9 fun i h1 h2 h => by have h : i = nL := (by rw [hnL]; exact h); omega).mono (by omega) (by omega), hdi, by rw [show decL p = ksP p from if_pos hok]; exact hes2, (hU.trans (hu9.mono fun i _ h => by have h : i = nL := (by rw [hnL]; exact h); show n0 ≤ i; omega)).own hn0⟩
            · rw [hc16]
              refine L_gy (dj := 40) rfl rfl rfl (X_not (b := false) (r := true) rfl rfl ?_)
              refine L_op rfl (X_pick (t := false) (v := (.bool (true))) rfl rfl ?_)
              refine L_nil ?_
              refine T_n ?_
              refine W_ct rfl ?_
              refine W_seq ?_
              refine W_reg ?_
              refine L_op rfl (X_assign (v := (.slice none 0 0)) rfl ?_)
              refine L_op rfl (X_assign (v := (.int .i64 (50))) rfl ?_)
              refine L_nil ?_
              refine T_n ?_
              refine W_ret ?_
              refine T_r ?_
              have hno : ¬ DecOk p := fun h => by obtain ⟨h1, h2, h3, h4, h5⟩ := h; rw [hc16] at h5; cases h5
              exact BQ_r (End_m (hnL ▸ hd) fun w9 hu9 => End_2 Tryd.results12 (v1 := .slice none 0 0) (v2 := .int .i64 50) rfl rfl ⟨_, by rw [show decE p = 50 from if_neg hno], [], NOwn.nil _ _ _ _ _, List.Pairwise.nil, by rw [show decL p = [] from if_neg hno]; rfl, (hU.trans (hu9.mono fun i _ h => by have h : i = nL := (by rw [hnL]; exact h); show n0 ≤ i; omega)).own hn0⟩)
          · rw [hc15]
            refine L_gy (dj := 35) rfl rfl rfl (X_not (b := false) (r := true) rfl rfl ?_)
            refine L_op rfl (X_pick (t := false) (v := (.bool (true))) rfl rfl ?_)
            refine L_op rfl (X_move (v := (.bool (true))) rfl ?_)
            refine L_gn (dj := 40) (t := true) rfl rfl rfl rfl ?_
            refine L_gn (dj := 40) (t := true) rfl rfl rfl rfl ?_
            refine L_gn (dj := 40) (t := true) rfl rfl rfl rfl ?_
            refine L_op rfl (X_pick (t := true) (v := (.bool (true))) rfl rfl ?_)
            refine L_nil ?_
            refine T_n ?_
            refine W_ct rfl ?_
            refine W_seq ?_
            refine W_reg ?_
            refine L_op rfl (X_assign (v := (.slice none 0 0)) rfl ?_)
            refine L_op rfl (X_assign (v := (.int .i64 (50))) rfl ?_)
            refine L_nil ?_
            refine T_n ?_
            refine W_ret ?_
            refine T_r ?_
            have hno : ¬ DecOk p := fun h => by obtain ⟨h1, h2, h3, h4, h5⟩ := h; exact absurd h4 (of_decide_eq_false hc15)
            exact BQ_r (End_m (hnL ▸ hd) fun w9 hu9 => End_2 Tryd.results12 (v1 := .slice none 0 0) (v2 := .int .i64 50) rfl rfl ⟨_, by rw [show decE p = 50 from if_neg hno], [], NOwn.nil _ _ _ _ _, List.Pairwise.nil, by rw [show decL p = [] from if_neg hno]; rfl, (hU.trans (hu9.mono fun i _ h => by have h : i = nL := (by rw [hnL]; exact h); show n0 ≤ i; omega)).own hn0⟩)
      · intro k e W hk_ hI_ hd_ he_
        exact hI_.elim
end Go.Proofs.YtbgpegccnalkeaaDoor
