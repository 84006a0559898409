/-
  Maps of the model: without. (Printed by wip/gen/t31c.py of this repo.)
-/
import Derived.Test.YthncpmablodbjaaDoorHead
import Derived.Test.YthncpmablodbjaaDoorBaseX
import Derived.Test.YthncpmablodbjaaDoorBaseWS
import Derived.Test.YthncpmablodbjaaDoorBaseIN
namespace Go.Proofs.YthncpmablodbjaaDoor
open Go Go.SL Go.Proofs
set_option linter.unusedVariables false

/-- rows of byte slices, read -/
abbrev B := List UInt8
abbrev bl (es : List BE) : List B := es.map (·.2)
theorem bl_at {es : List BE} {i : Nat} {e : BE} (h : es[i]? = some e) : (bl es)[i]? = some e.2 := by rw [List.getElem?_map, h]; rfl
theorem bl_len (es : List BE) : (bl es).length = es.length := List.length_map _
theorem bkey {w : World} {lo hi : Nat} {v : Value} {es : List BE} (h : NRd LB w lo hi v es) {i : Int} {k : Nat} {e : BE} (hik : i.toNat = k) (he : es[k]? = some e) : At w (pof v (i.toNat * 1)) [e.1] := by
  subst hik; exact h.cell (j := 0) he rfl
theorem bbrd {w : World} {lo hi : Nat} {v : Value} {es : List BE} (h : NRd LB w lo hi v es) {k : Nat} {e : BE} (he : es[k]? = some e) : BRd w lo hi e := h.sub_ he (by show e ∈ [e]; simp)
theorem brd {w : World} {lo hi : Nat} {v : Value} {es : List BE} (h : NRd LB w lo hi v es) {k : Nat} {e : BE} (he : es[k]? = some e) : Rd w 1 e.1 e.2.length (e.2.map byteV) := (bbrd h he).1
/-- lengths that a slice may have -/
def BOK (es : List BE) : Prop := ∀ (j : Nat) (e : BE), es[j]? = some e → e.2.length ≤ 140737488355328
/-- a map -/
structure Sn where
  tx : Int
  kv : Value
  ks : List BE
  vv : Value
  vs : List BE
  mr : Int
  lv : Int
/-- its rows can be read, a value to each key -/
structure Sn.R (w : World) (lo hi : Nat) (s : Sn) : Prop where
  k : NRd LB w lo hi s.kv s.ks
  v : NRd LB w lo hi s.vv s.vs
  len : s.ks.length = s.vs.length
  ok : BOK s.ks
  ov : BOK s.vs
  sm : s.ks.length ≤ 1048576
theorem Sn.R.ext {w w' : World} {lo hi : Nat} {s : Sn} (h : s.R w lo hi) (hu : Ext w w') : s.R w' lo hi := ⟨h.k.ext hu, h.v.ext hu, h.len, h.ok, h.ov, h.sm⟩
theorem Sn.R.upd {w w' : World} {D : Nat → Prop} {lo hi : Nat} {s : Sn} (h : s.R w lo hi) (hu : Upd D w w') (hd : ∀ b, lo ≤ b → b < hi → ¬ D b) : s.R w' lo hi := ⟨h.k.upd hu hd, h.v.upd hu hd, h.len, h.ok, h.ov, h.sm⟩
theorem Sn.R.mono {w : World} {lo hi lo' hi' : Nat} {s : Sn} (h : s.R w lo hi) (h1 : lo' ≤ lo) (h2 : hi ≤ hi') : s.R w lo' hi' := ⟨h.k.mono h1 h2, h.v.mono h1 h2, h.len, h.ok, h.ov, h.sm⟩
/-- the place of the first key not below one, and whether it is that one -/
def atD : List B → B → Nat × Bool
  | [], _ => (0, false)
  | x :: r, m => if scmp .geq x m = true then (0, x == m) else ((atD r m).1 + 1, (atD r m).2)
theorem at_drop {l : List B} {i : Nat} {x : B} (h : l[i]? = some x) : l.drop i = x :: l.drop (i + 1) := by
  obtain ⟨h1, h2⟩ := List.getElem?_eq_some_iff.1 h
  rw [← List.getElem_cons_drop h1, h2]
theorem at_hit {l : List B} {i : Nat} {x m : B} (hx : l[i]? = some x) (hz : atD l m = (i + (atD (l.drop i) m).1, (atD (l.drop i) m).2)) (h : scmp .geq x m = true) : atD l m = (i, x == m) := by
  rw [hz, at_drop hx]
  simp only [atD, if_pos h, Nat.add_zero]
theorem at_step {l : List B} {i : Nat} {x m : B} (hx : l[i]? = some x) (hz : atD l m = (i + (atD (l.drop i) m).1, (atD (l.drop i) m).2)) (h : scmp .geq x m = false) : atD l m = (i + 1 + (atD (l.drop (i + 1)) m).1, (atD (l.drop (i + 1)) m).2) := by
  rw [hz, at_drop hx]
  have h2 : ¬ scmp .geq x m = true := by rw [h]; simp
  simp only [atD, if_neg h2]
  congr 1
  omega
theorem at_end {l : List B} {i : Nat} {m : B} (hz : atD l m = (i + (atD (l.drop i) m).1, (atD (l.drop i) m).2)) (h : i = l.length) : atD l m = (l.length, false) := by
  rw [hz, List.drop_of_length_le (Nat.le_of_eq h.symm)]
  simp only [atD, Nat.add_zero, h]
theorem at_zero {l : List B} {m : B} : atD l m = (0 + (atD (l.drop 0) m).1, (atD (l.drop 0) m).2) := by rw [List.drop_zero, Nat.zero_add]
theorem at_le (m : B) : ∀ l : List B, (atD l m).1 ≤ l.length
  | [] => Nat.le_refl _
  | x :: r => by
    unfold atD
    split
    · exact Nat.zero_le _
    · exact Nat.succ_le_succ (at_le m r)
theorem at_lt {m : B} : ∀ {l : List B}, (atD l m).2 = true → (atD l m).1 < l.length
  | [], h => by cases h
  | x :: r, h => by
    unfold atD at h ⊢
    split at h
    · rename_i h1; rw [if_pos h1]; exact Nat.succ_pos _
    · rename_i h1; rw [if_neg h1]; exact Nat.succ_lt_succ (at_lt h)
/-- a value at a place -/
def valD (l : List B) (n : Int) : B := if n < 0 then [] else l.getD n.toNat []
theorem val_neg {l : List B} {n : Int} (h : n < 0) : valD l n = [] := if_pos h
theorem val_big {l : List B} {n : Int} (h0 : ¬ n < 0) (h : ¬ n < l.length) : valD l n = [] := by
  unfold valD
  rw [if_neg h0, List.getD_eq_getElem?_getD, List.getElem?_eq_none (by omega)]; rfl
theorem val_at {l : List B} {n : Int} {x : B} (h0 : ¬ n < 0) (h : l[n.toNat]? = some x) : valD l n = x := by
  unfold valD
  rw [if_neg h0, List.getD_eq_getElem?_getD, h]; rfl
/-- a key's value -/
def getO (ks vs : List B) (m : B) : Option B := if (atD ks m).2 = true then some (valD vs ((atD ks m).1 : Int)) else none
theorem get_t {ks vs : List B} {m : B} (h : (atD ks m).2 = true) : getO ks vs m = some (valD vs ((atD ks m).1 : Int)) := if_pos h
theorem get_f {ks vs : List B} {m : B} (h : (atD ks m).2 = false) : getO ks vs m = none := if_neg (by rw [h]; simp)

theorem c_copied (b : Value) (l : B) (w : World) (hl : l.length ≤ 140737488355328) (hb : Rd w 1 b l.length (l.map byteV)) : CT Tryd.prog 16 #[b] w fun v w' => BOwn w' 5 w.heap.size w'.heap.size (v, l) ∧ Ext w w' := by
  obtain ⟨n0, hn0⟩ : ∃ n, n = w.heap.size := ⟨_, rfl⟩
  have hU : Upd (fun i => n0 ≤ i) w w := Upd.refl _ _
  have hb_b : ∀ i, rbk b = some i → i < n0 := by rw [hn0]; exact fun i hi => hb.bound (by decide) hi
  refine CT_of Tryd.func16 rfl rfl rfl ?_
  refine W_seq ?_
  refine W_reg ?_
  refine L_op rfl (X_assign (v := (.slice none 0 0)) rfl ?_)
  refine L_nil ?_
  refine T_n ?_
  refine W_seq ?_
  refine W_reg ?_
  refine L_op rfl (X_buildSlice1 (vs := []) S23 (by decide) rfl rfl (fun _ h => by cases h) ?_)
  intro b1 w1 hn1
  have hbn1 := hn1.num; have hbs1 := hn1.size
  replace hb := hb.ext hn1.ext
  replace hU := hU.trans (Ext.upd hn1.ext)
  have hB1 := hn1.blk
  refine L_op rfl (X_move (v := b) rfl ?_)
  refine L_op rfl (X_append (B := n0) (s := (.slice (some ⟨b1, 0, none⟩) 0 0)) (x := b) S23 ⟨_, Tryd.underlying23⟩ rfl rfl (n := 0) (xs := []) (Own.zero _ _ _ _ _) hb (byteV_one _) (by unfold maxLen; omega) (by omega) (by omega) ?_)
  intro v2 w2 hO hu2 ho2
  replace hO := hO.eq (Nat.zero_add _) (List.nil_append _)
  have hz2 := hu2.size
  replace hb := hb.ext hu2.nobk
  replace hU := hU.trans (Ext.upd hu2.nobk)
  replace hB1 := hB1.ext hu2.nobk
  refine L_op rfl (X_assign (v := v2) rfl ?_)
  refine L_nil ?_
  refine T_n ?_
  refine W_ret ?_
  exact BQ_r (End_1 Tryd.results16 (v := v2) rfl ⟨⟨hO.more (by omega), fun b hb => (hO.lt hb).2⟩, hU.own hn0⟩)

theorem c_at (s : Sn) (w : World) (lo up : Nat) (hup : up ≤ w.heap.size) (hs : s.R w lo up) (key : Value) (m : B) (hm : m.length ≤ 140737488355328) (hk : Rd w 1 key m.length (m.map byteV)) : CT Tryd.prog 12 #[(.agg #[(.int .u32 (s.tx)), s.kv, s.vv, (.int .u8 (s.mr)), (.int .u8 (s.lv))]), key] w fun v w' => ∃ (a : Nat) (t : Bool), v = .tuple #[.int .i64 ((a : Nat) : Int), .bool t] ∧ (atD (bl s.ks) m) = (a, t) ∧ Ext w w' := by
  obtain ⟨n0, hn0⟩ : ∃ n, n = w.heap.size := ⟨_, rfl⟩
  have hU : Upd (fun i => n0 ≤ i) w w := Upd.refl _ _
  have hk_b : ∀ i, rbk key = some i → i < n0 := by rw [hn0]; exact fun i hi => hk.bound (by decide) hi
  rw [← hn0] at hup
  refine CT_of Tryd.func12 rfl rfl rfl ?_
  refine W_seq ?_
  refine W_reg ?_
  refine L_op rfl (X_box (v := (.agg #[(.int .u32 (s.tx)), s.kv, s.vv, (.int .u8 (s.mr)), (.int .u8 (s.lv))])) (c := ([(.int .u32 (s.tx)), s.kv, s.vv, (.int .u8 (s.mr)), (.int .u8 (s.lv))]).toArray) rfl rfl ?_)
  intro b1 w1 hn1
  have hbn1 := hn1.num; have hbs1 := hn1.size
  replace hs := hs.ext hn1.ext
  replace hk := hk.ext hn1.ext
  replace hU := hU.trans (Ext.upd hn1.ext)
  have hB1 := hn1.blk
  refine L_op rfl (X_assign (v := (.int .i64 (0))) rfl ?_)
  refine L_op rfl (X_assign (v := (.bool (false))) rfl ?_)
  refine L_nil ?_
  refine T_n ?_
  refine W_scopeQ ?_
  refine W_seq ?_
  refine W_reg ?_
  refine L_op rfl (X_fldP (b := b1) (o := 0) (r := 1) Fd27_1 rfl rfl ?_)
  refine L_op rfl (X_load (p := (ptr b1 (1))) (v := s.kv) T22 rfl (hB1.at1 rfl) ?_)
  refine L_op rfl (X_len (v := s.kv) (n := s.ks.length) Tryd.underlying22 rfl hs.k.sv ?_)
  refine L_op rfl (X_assign (v := (.int .i64 (((s.ks.length : Nat) : Int)))) rfl ?_)
  refine L_nil ?_
  refine T_n ?_
  refine W_seq ?_
  refine W_label ?_
  refine T_n ?_
  refine W_seq ?_
  refine W_seq ?_
  refine W_reg ?_
  refine L_op rfl (X_fldP (b := b1) (o := 0) (r := 1) Fd27_1 rfl rfl ?_)
  refine L_op rfl (X_load (p := (ptr b1 (1))) (v := s.kv) T22 rfl (hB1.at1 rfl) ?_)
  refine L_op rfl (X_len (v := s.kv) (n := s.ks.length) Tryd.underlying22 rfl hs.k.sv ?_)
  refine L_op rfl (X_move (v := (.int .i64 (0))) rfl ?_)
  refine L_nil ?_
  refine T_n ?_
  refine W_block ?_
  refine W_loop (α := Nat) [4, 5, 6, 7, 14, 15, 16, 17, 18, 19, 20, 21, 22, 23, 24, 25, 26, 27, 28, 29, 30] (fun i => [(14, (.int .i64 (((i : Nat) : Int)))), (4, (.int .i64 (((s.ks.length : Nat) : Int)))), (5, (.bool (false)))]) (fun i w_ => w1 = w_ ∧ i ≤ s.ks.length ∧ atD (bl s.ks) m = (i + (atD ((bl s.ks).drop i) m).1, (atD ((bl s.ks).drop i) m).2)) (fun i => s.ks.length - i) ⟨rfl, 0, ⟨rfl, Nat.zero_le _, at_zero⟩, Out.refl _ _, ⟨rfl, rfl, rfl, trivial⟩⟩ ?_
  rintro i w2 _ ⟨rfl, hil, hat⟩
  refine W_seq ?_
  refine W_reg ?_
  by_cases hc3 : (((i : Nat) : Int) : Int) < (((s.ks.length : Nat) : Int))
  · refine L_op rfl (X_cmp (k := .i64) (a := ((i : Nat) : Int)) (b := ((s.ks.length : Nat) : Int)) (r := true) rfl rfl rfl (decide_eq_true (p := ((((i : Nat) : Int)) : Int) < ((((s.ks.length : Nat) : Int)) : Int)) (by omega)) ?_)
    have hi : i < s.ks.length := by omega
    obtain ⟨e, hei⟩ : ∃ e, s.ks[i]? = some e := ⟨_, List.getElem?_eq_getElem hi⟩
    have hlen := hs.k.sv.len
    refine L_nil ?_
    refine T_n ?_
    refine W_seq ?_
    refine W_ct rfl ?_
    refine W_skip ?_
    refine T_n ?_
    refine W_seq ?_
    refine W_block ?_
    refine W_seq ?_
    refine W_reg ?_
    refine L_op rfl (X_move (v := (.int .i64 (((i : Nat) : Int)))) rfl ?_)
    refine L_op rfl (X_idx (v := s.kv) (n := s.ks.length) (k := .i64) (i := ((i : Nat) : Int)) S22 rfl hs.k.sv rfl (by omega) (by omega) ?_)
    refine L_op rfl (X_load (v := e.1) T23 rfl (bkey hs.k (Int.toNat_natCast _) hei) ?_)
    refine L_op rfl (X_assign (v := (.int .i64 (((i : Nat) : Int)))) rfl ?_)
    refine L_op rfl (X_assign (v := e.1) rfl ?_)
    refine L_nil ?_
    refine T_n ?_
    refine W_seq ?_
    refine W_reg ?_
    refine L_op rfl (X_move (v := e.1) rfl ?_)
    refine L_op rfl (X_str (v := e.1) (l := e.2) Tryd.underlying23 Tryd.underlying5 Tryd.underlying9 rfl (brd hs.k hei) ?_)
    refine L_op rfl (X_move (v := key) rfl ?_)
    refine L_op rfl (X_str (v := key) (l := m) Tryd.underlying23 Tryd.underlying5 Tryd.underlying9 rfl hk ?_)
    rcases Bool.eq_false_or_eq_true (scmp .geq (e.2) (m)) with hc5 | hc5
    · refine L_op rfl (X_scmp (a := e.2) (b := m) (r := true) rfl rfl rfl hc5 ?_)
      refine L_nil ?_
      refine T_n ?_
      refine W_ct rfl ?_
      refine W_seq ?_
      rcases Bool.eq_false_or_eq_true (scmp .eql (e.2) (m)) with hs6 | hs6
      · refine W_draw 7 [[], [], [1], [], [3], [1, 2, 3, 4], [0], [0, 1, 2, 3, 4, 5, 6]] mixed (by kernel_rfl) ?_
        refine ⟨.det (fun val => (.int .i64 (((i : Nat) : Int)))), ⟨fun _ _ hv => rfl, fun _ _ _ _ _ => trivial⟩, fun val h_ W hx he => ⟨trivial, ?_⟩, ?_⟩
        · replace hx := (Upd.drew _ _).trans hx
          replace hs := hs.ext hx
          replace hk := hk.ext hx
          replace hB1 := hB1.ext hx
          have hE := Upd.refl (fun _ => False) W
          refine id (X_move (v := (.int .i64 (((i : Nat) : Int)))) rfl ?_)
          exact ⟨hE, rfl⟩
        refine ⟨.det (fun val => e.1), ⟨fun _ _ hv => rfl, fun _ _ _ _ _ => trivial⟩, fun val h_ W hx he => ⟨trivial, ?_⟩, ?_⟩
        · replace hx := (Upd.drew _ _).trans hx
          replace hs := hs.ext hx
          replace hk := hk.ext hx
          replace hB1 := hB1.ext hx
          have hE := Upd.refl (fun _ => False) W
          refine id (X_move (v := e.1) rfl ?_)
          exact ⟨hE, rfl⟩
        refine ⟨.det (fun val => (strV (e.2))), ⟨fun _ _ hv => rfl, fun _ _ _ _ _ => trivial⟩, fun val h_ W hx he => ⟨trivial, ?_⟩, ?_⟩
        · replace hx := (Upd.drew _ _).trans hx
          replace hs := hs.ext hx
          replace hk := hk.ext hx
          replace hB1 := hB1.ext hx
          have hE := Upd.refl (fun _ => False) W
          refine id (X_str (v := e.1) (l := e.2) Tryd.underlying23 Tryd.underlying5 Tryd.underlying9 rfl (brd hs.k hei) ?_)
          exact ⟨hE, rfl⟩
        refine ⟨.det (fun val => key), ⟨fun _ _ hv => rfl, fun _ _ _ _ _ => trivial⟩, fun val h_ W hx he => ⟨trivial, ?_⟩, ?_⟩
        · replace hx := (Upd.drew _ _).trans hx
          replace hs := hs.ext hx
          replace hk := hk.ext hx
          replace hB1 := hB1.ext hx
          have hE := Upd.refl (fun _ => False) W
          refine id (X_move (v := key) rfl ?_)
          exact ⟨hE, rfl⟩
        refine ⟨.det (fun val => (strV (m))), ⟨fun _ _ hv => rfl, fun _ _ _ _ _ => trivial⟩, fun val h_ W hx he => ⟨trivial, ?_⟩, ?_⟩
        · replace hx := (Upd.drew _ _).trans hx
          replace hs := hs.ext hx
          replace hk := hk.ext hx
          replace hB1 := hB1.ext hx
          have hE := Upd.refl (fun _ => False) W
          refine id (X_str (v := key) (l := m) Tryd.underlying23 Tryd.underlying5 Tryd.underlying9 rfl hk ?_)
          exact ⟨hE, rfl⟩
        refine ⟨.det (fun val => (.bool (true))), ⟨fun _ _ hv => rfl, fun _ _ _ _ _ => trivial⟩, fun val h_ W hx he => ⟨trivial, ?_⟩, ?_⟩
        · replace hx := (Upd.drew _ _).trans hx
          replace hs := hs.ext hx
          replace hk := hk.ext hx
          replace hB1 := hB1.ext hx
          have hE := Upd.refl (fun _ => False) W
          refine id (X_scmp (a := e.2) (b := m) (r := true) rfl rfl rfl hs6 ?_)
          exact ⟨hE, rfl⟩
        refine ⟨.det (fun val => (.int .i64 (((i : Nat) : Int)))), ⟨fun _ _ hv => rfl, fun _ _ _ _ _ => trivial⟩, fun val h_ W hx he => ⟨trivial, ?_⟩, ?_⟩
        · replace hx := (Upd.drew _ _).trans hx
          replace hs := hs.ext hx
          replace hk := hk.ext hx
          replace hB1 := hB1.ext hx
          have hE := Upd.refl (fun _ => False) W
          refine id (X_assign (v := (.int .i64 (((i : Nat) : Int)))) rfl ?_)
          exact ⟨hE, rfl⟩
        intro val W7 hx7 he7
        replace hx7 := (Upd.drew _ _).trans hx7
        have hz7 := hx7.size
        replace hs := hs.ext hx7
        replace hk := hk.ext hx7
        replace hU := hU.trans (Ext.upd hx7)
        replace hB1 := hB1.ext hx7
        refine L_op rfl (X_assign (v := (.bool (true))) rfl ?_)
        refine L_nil ?_
        refine T_n ?_
        refine W_exit ?_
        refine B_e rfl ?_
        refine T_e ?_
        refine T_e ?_
        refine B_x ?_
        refine T_n ?_
        refine W_seq ?_
        refine W_reg ?_
        refine L_op rfl (X_move (v := (.int .i64 (((i : Nat) : Int)))) rfl ?_)
        refine L_op rfl (X_move (v := (.bool (true))) rfl ?_)
        refine L_op rfl (X_assign (v := (.int .i64 (((i : Nat) : Int)))) rfl ?_)
        refine L_op rfl (X_assign (v := (.bool (true))) rfl ?_)
        refine L_nil ?_
        refine T_n ?_
        refine W_ret ?_
        refine S_r ?_
        have hr := at_hit (bl_at hei) hat hc5
        have hr2 : (atD (bl s.ks) m) = (i, true) := by rw [hr]; exact congrArg (Prod.mk i) (hs6)
        exact BQ_r (End_2 Tryd.results12 (v1 := .int .i64 (((i : Nat) : Int))) (v2 := .bool true) rfl rfl ⟨_, _, rfl, hr2, hU.own hn0⟩)
      · refine W_draw 7 [[], [], [1], [], [3], [1, 2, 3, 4], [0], [0, 1, 2, 3, 4, 5, 6]] mixed (by kernel_rfl) ?_
        refine ⟨.det (fun val => (.int .i64 (((i : Nat) : Int)))), ⟨fun _ _ hv => rfl, fun _ _ _ _ _ => trivial⟩, fun val h_ W hx he => ⟨trivial, ?_⟩, ?_⟩
        · replace hx := (Upd.drew _ _).trans hx
          replace hs := hs.ext hx
          replace hk := hk.ext hx
          replace hB1 := hB1.ext hx
          have hE := Upd.refl (fun _ => False) W
          refine id (X_move (v := (.int .i64 (((i : Nat) : Int)))) rfl ?_)
          exact ⟨hE, rfl⟩
        refine ⟨.det (fun val => e.1), ⟨fun _ _ hv => rfl, fun _ _ _ _ _ => trivial⟩, fun val h_ W hx he => ⟨trivial, ?_⟩, ?_⟩
        · replace hx := (Upd.drew _ _).trans hx
          replace hs := hs.ext hx
          replace hk := hk.ext hx
          replace hB1 := hB1.ext hx
          have hE := Upd.refl (fun _ => False) W
          refine id (X_move (v := e.1) rfl ?_)
          exact ⟨hE, rfl⟩
        refine ⟨.det (fun val => (strV (e.2))), ⟨fun _ _ hv => rfl, fun _ _ _ _ _ => trivial⟩, fun val h_ W hx he => ⟨trivial, ?_⟩, ?_⟩
        · replace hx := (Upd.drew _ _).trans hx
          replace hs := hs.ext hx
          replace hk := hk.ext hx
          replace hB1 := hB1.ext hx
          have hE := Upd.refl (fun _ => False) W
          refine id (X_str (v := e.1) (l := e.2) Tryd.underlying23 Tryd.underlying5 Tryd.underlying9 rfl (brd hs.k hei) ?_)
          exact ⟨hE, rfl⟩
        refine ⟨.det (fun val => key), ⟨fun _ _ hv => rfl, fun _ _ _ _ _ => trivial⟩, fun val h_ W hx he => ⟨trivial, ?_⟩, ?_⟩
        · replace hx := (Upd.drew _ _).trans hx
          replace hs := hs.ext hx
          replace hk := hk.ext hx
          replace hB1 := hB1.ext hx
          have hE := Upd.refl (fun _ => False) W
          refine id (X_move (v := key) rfl ?_)
          exact ⟨hE, rfl⟩
        refine ⟨.det (fun val => (strV (m))), ⟨fun _ _ hv => rfl, fun _ _ _ _ _ => trivial⟩, fun val h_ W hx he => ⟨trivial, ?_⟩, ?_⟩
        · replace hx := (Upd.drew _ _).trans hx
          replace hs := hs.ext hx
          replace hk := hk.ext hx
          replace hB1 := hB1.ext hx
          have hE := Upd.refl (fun _ => False) W
          refine id (X_str (v := key) (l := m) Tryd.underlying23 Tryd.underlying5 Tryd.underlying9 rfl hk ?_)
          exact ⟨hE, rfl⟩
        refine ⟨.det (fun val => (.bool (false))), ⟨fun _ _ hv => rfl, fun _ _ _ _ _ => trivial⟩, fun val h_ W hx he => ⟨trivial, ?_⟩, ?_⟩
        · replace hx := (Upd.drew _ _).trans hx
          replace hs := hs.ext hx
          replace hk := hk.ext hx
          replace hB1 := hB1.ext hx
          have hE := Upd.refl (fun _ => False) W
          refine id (X_scmp (a := e.2) (b := m) (r := false) rfl rfl rfl hs6 ?_)
          exact ⟨hE, rfl⟩
        refine ⟨.det (fun val => (.int .i64 (((i : Nat) : Int)))), ⟨fun _ _ hv => rfl, fun _ _ _ _ _ => trivial⟩, fun val h_ W hx he => ⟨trivial, ?_⟩, ?_⟩
        · replace hx := (Upd.drew _ _).trans hx
          replace hs := hs.ext hx
          replace hk := hk.ext hx
          replace hB1 := hB1.ext hx
          have hE := Upd.refl (fun _ => False) W
          refine id (X_assign (v := (.int .i64 (((i : Nat) : Int)))) rfl ?_)
          exact ⟨hE, rfl⟩
        intro val W8 hx8 he8
        replace hx8 := (Upd.drew _ _).trans hx8
        have hz8 := hx8.size
        replace hs := hs.ext hx8
        replace hk := hk.ext hx8
        replace hU := hU.trans (Ext.upd hx8)
        replace hB1 := hB1.ext hx8
        refine L_op rfl (X_assign (v := (.bool (false))) rfl ?_)
        refine L_nil ?_
        refine T_n ?_
        refine W_exit ?_
        refine B_e rfl ?_
        refine T_e ?_
        refine T_e ?_
        refine B_x ?_
        refine T_n ?_
        refine W_seq ?_
        refine W_reg ?_
        refine L_op rfl (X_move (v := (.int .i64 (((i : Nat) : Int)))) rfl ?_)
        refine L_op rfl (X_move (v := (.bool (false))) rfl ?_)
        refine L_op rfl (X_assign (v := (.int .i64 (((i : Nat) : Int)))) rfl ?_)
        refine L_op rfl (X_assign (v := (.bool (false))) rfl ?_)
        refine L_nil ?_
        refine T_n ?_
        refine W_ret ?_
        refine S_r ?_
        have hr := at_hit (bl_at hei) hat hc5
        have hr2 : (atD (bl s.ks) m) = (i, false) := by rw [hr]; exact congrArg (Prod.mk i) (hs6)
        exact BQ_r (End_2 Tryd.results12 (v1 := .int .i64 (((i : Nat) : Int))) (v2 := .bool false) rfl rfl ⟨_, _, rfl, hr2, hU.own hn0⟩)
    · refine L_op rfl (X_scmp (a := e.2) (b := m) (r := false) rfl rfl rfl hc5 ?_)
      refine L_nil ?_
      refine T_n ?_
      refine W_cf rfl ?_
      refine W_skip ?_
      refine B_n ?_
      refine T_n ?_
      refine W_reg ?_
      refine L_op rfl (X_arith (k := .i64) (a := ((i : Nat) : Int)) (b := 1) (r := ((i + 1 : Nat) : Int)) rfl rfl rfl (iadd64 (by omega) (by omega) (by omega)) ?_)
      refine L_op rfl (X_move (v := (.int .i64 (((i + 1 : Nat) : Int)))) rfl ?_)
      refine L_nil ?_
      refine T_n ?_
      exact ⟨rfl, i + 1, ⟨⟨rfl, hi, at_step (bl_at hei) hat hc5⟩, (by show s.ks.length - (i + 1) < s.ks.length - i; omega)⟩, (Out.mk rfl), ⟨rfl, rfl, rfl, trivial⟩⟩
  · refine L_op rfl (X_cmp (k := .i64) (a := ((i : Nat) : Int)) (b := ((s.ks.length : Nat) : Int)) (r := false) rfl rfl rfl (decide_eq_false (p := ((((i : Nat) : Int)) : Int) < ((((s.ks.length : Nat) : Int)) : Int)) (by omega)) ?_)
    refine L_nil ?_
    refine T_n ?_
    refine W_seq ?_
    refine W_cf rfl ?_
    refine W_exit ?_
    refine T_e ?_
    refine T_e ?_
    refine B_x ?_
    refine T_n ?_
    refine W_seq ?_
    refine W_reg ?_
    refine L_op rfl (X_move (v := (.int .i64 (((s.ks.length : Nat) : Int)))) rfl ?_)
    refine L_op rfl (X_move (v := (.bool (false))) rfl ?_)
    refine L_op rfl (X_assign (v := (.int .i64 (((s.ks.length : Nat) : Int)))) rfl ?_)
    refine L_op rfl (X_assign (v := (.bool (false))) rfl ?_)
    refine L_nil ?_
    refine T_n ?_
    refine W_ret ?_
    refine S_r ?_
    have hr2 : (atD (bl s.ks) m) = (s.ks.length, false) := (at_end hat (by rw [bl_len]; omega)).trans (by rw [bl_len])
    exact BQ_r (End_2 Tryd.results12 (v1 := .int .i64 (((s.ks.length : Nat) : Int))) (v2 := .bool false) rfl rfl ⟨_, _, rfl, hr2, hU.own hn0⟩)
end Go.Proofs.YthncpmablodbjaaDoor

namespace Go.Proofs.YthncpmablodbjaaDoor
open Go Go.SL Go.Proofs
set_option linter.unusedVariables false

theorem BOwn.more' {w : World} {e lo lo' hi hi' : Nat} {x : BE} (h : BOwn w e lo hi x) (h1 : lo' ≤ lo) (h2 : hi ≤ hi') : BOwn w e lo' hi' x := h.mono h1 h2
/-- two rows of byte slices that share no block: the first one's stay while the second one's row is written -/
def Dj (v : Value) (es : List BE) (u : Value) : Prop := (∀ b, obk v = some b → obk u ≠ some b) ∧ ∀ e ∈ es, ∀ b, obk e.1 = some b → obk u ≠ some b
theorem NOwn.dj {w w' : World} {er eb lo hi : Nat} {v u : Value} {es : List BE} (h : NOwn LB w er eb lo hi v es) (hd : Dj v es u) (hu : Upd (fun b => obk u = some b) w w') : NOwn LB w' er eb lo hi v es :=
  ⟨h.1.upd hu hd.1, h.2.1, fun e he s hs => by
    have hs' : s = e := by simpa [LB] using hs
    subst hs'
    exact ⟨(h.2.2 s he s hs).1.upd hu fun b hb => hd.2 s he b hb, (h.2.2 s he s hs).2⟩⟩
theorem Dj.of {w : World} {er eb lo hi lo' hi' : Nat} {v u : Value} {es fs : List BE} (hne : er ≠ eb) (h : NOwn LB w er eb lo hi v es) (h2 : NOwn LB w er eb lo' hi' u fs) (ha : ∀ b, obk v = some b → obk u ≠ some b) : Dj v es u :=
  ⟨ha, fun e he b hb hb2 => hne (h2.1.types (h.2.2 e he e (by simp [LB])).1 hb2 hb)⟩
theorem Dj.push {v v' u : Value} {es : List BE} {e : BE} (h : Dj v es u) (h1 : ∀ b, obk v' = some b → obk u ≠ some b) (h2 : ∀ b, obk e.1 = some b → obk u ≠ some b) : Dj v' (es ++ [e]) u :=
  ⟨h1, fun a ha b hb => by
    rcases List.mem_append.1 ha with h3 | h3
    · exact h.2 a h3 b hb
    · have : a = e := by simpa using h3
      subst this
      exact h2 b hb⟩
theorem bl_push (es : List BE) (e : BE) : bl (es ++ [e]) = bl es ++ [e.2] := by simp
/-- a row without the place n -/
def woD (l : List B) (n : Int) : List B := if n < 0 then l else l.take n.toNat ++ l.drop (n.toNat + 1)
theorem wo_same {l : List B} {n : Int} {i : Nat} {x : B} (hx : l[i]? = some x) (h : ((i : Nat) : Int) = n) : woD (l.take (i + 1)) n = woD (l.take i) n := by
  obtain ⟨hi, _⟩ := List.getElem?_eq_some_iff.1 hx
  unfold woD
  rw [if_neg (by omega), if_neg (by omega), show n.toNat = i by omega, List.take_take, List.take_take, Nat.min_eq_left (by omega), Nat.min_self, List.drop_of_length_le (by rw [List.length_take]; omega), List.drop_of_length_le (by rw [List.length_take]; omega)]
theorem wo_more {l : List B} {n : Int} {i : Nat} {x : B} (hx : l[i]? = some x) (h : ((i : Nat) : Int) ≠ n) : woD (l.take (i + 1)) n = woD (l.take i) n ++ [x] := by
  obtain ⟨hi, _⟩ := List.getElem?_eq_some_iff.1 hx
  have e1 : l.take (i + 1) = l.take i ++ [x] := by rw [List.take_add_one, hx]; rfl
  have hl : (l.take i).length = i := by rw [List.length_take]; omega
  unfold woD
  by_cases h0 : n < 0
  · rw [if_pos h0, if_pos h0, e1]
  · rw [if_neg h0, if_neg h0, e1]
    rcases Nat.lt_or_ge n.toNat i with h1 | h1
    · rw [List.take_append_of_le_length (by omega), List.drop_append_of_le_length (by omega), List.append_assoc]
    · have hl2 : (l.take i ++ [x]).length = i + 1 := by rw [List.length_append, hl]; rfl
      rw [show (l.take i ++ [x]).take n.toNat = l.take i ++ [x] from List.take_of_length_le (by omega), show (l.take i ++ [x]).drop (n.toNat + 1) = [] from List.drop_of_length_le (by omega), show (l.take i).take n.toNat = l.take i from List.take_of_length_le (by omega), show (l.take i).drop (n.toNat + 1) = [] from List.drop_of_length_le (by omega)]
      simp
theorem wo_len_le {l : List B} {n : Int} : (woD l n).length ≤ l.length := by
  unfold woD
  split
  · exact Nat.le_refl _
  · rw [List.length_append, List.length_take, List.length_drop]; omega
theorem wo_nil (n : Int) : woD [] n = [] := by unfold woD; split <;> simp
theorem wo_len_eq {l m : List B} {n : Int} (h : l.length = m.length) : (woD l n).length = (woD m n).length := by
  unfold woD
  split
  · exact h
  · rw [List.length_append, List.length_take, List.length_drop, List.length_append, List.length_take, List.length_drop, h]
theorem wo_mem {l : List B} {n : Int} {x : B} (h : x ∈ woD l n) : x ∈ l := by
  unfold woD at h
  split at h
  · exact h
  · rcases List.mem_append.1 h with h | h
    · exact List.mem_of_mem_take h
    · exact List.mem_of_mem_drop h
/-- lengths, of what is read -/
def LOK (l : List B) : Prop := ∀ x ∈ l, x.length ≤ 140737488355328
theorem BOK.l {es : List BE} (h : BOK es) : LOK (bl es) := fun x hx => by
  obtain ⟨e, he, rfl⟩ := List.mem_map.1 hx
  obtain ⟨j, hj, rfl⟩ := List.getElem_of_mem he
  exact h j _ (List.getElem?_eq_getElem hj)
theorem LOK.b {es : List BE} (h : LOK (bl es)) : BOK es := fun j e he => h _ (List.mem_map.2 ⟨e, List.mem_of_getElem? he, rfl⟩)
theorem LOK.sub {l m : List B} (h : LOK l) (hs : ∀ x ∈ m, x ∈ l) : LOK m := fun x hx => h x (hs x hx)

theorem c_value (s : Sn) (w : World) (lo up : Nat) (hup : up ≤ w.heap.size) (hs : s.R w lo up) (n : Int) : CT Tryd.prog 13 #[(.agg #[(.int .u32 (s.tx)), s.kv, s.vv, (.int .u8 (s.mr)), (.int .u8 (s.lv))]), (.int .i64 (n))] w fun v w' => BOwn w' 5 w.heap.size w'.heap.size (v, valD (bl s.vs) n) ∧ Ext w w' := by
  obtain ⟨n0, hn0⟩ : ∃ n, n = w.heap.size := ⟨_, rfl⟩
  have hU : Upd (fun i => n0 ≤ i) w w := Upd.refl _ _
  rw [← hn0] at hup
  refine CT_of Tryd.func13 rfl rfl rfl ?_
  refine W_seq ?_
  refine W_reg ?_
  refine L_op rfl (X_box (v := (.agg #[(.int .u32 (s.tx)), s.kv, s.vv, (.int .u8 (s.mr)), (.int .u8 (s.lv))])) (c := ([(.int .u32 (s.tx)), s.kv, s.vv, (.int .u8 (s.mr)), (.int .u8 (s.lv))]).toArray) rfl rfl ?_)
  intro b1 w1 hn1
  have hbn1 := hn1.num; have hbs1 := hn1.size
  replace hs := hs.ext hn1.ext
  replace hU := hU.trans (Ext.upd hn1.ext)
  have hB1 := hn1.blk
  refine L_op rfl (X_assign (v := (.slice none 0 0)) rfl ?_)
  refine L_nil ?_
  refine T_n ?_
  refine W_seq ?_
  refine W_seq ?_
  refine W_reg ?_
  refine L_op rfl (X_move (v := (.int .i64 (n))) rfl ?_)
  by_cases hc2 : (n : Int) < (0)
  · refine L_op rfl (X_cmp (k := .i64) (a := n) (b := 0) (r := true) rfl rfl rfl (decide_eq_true (p := ((n) : Int) < ((0) : Int)) (by omega)) ?_)
    refine L_op rfl (X_move (v := (.bool (true))) rfl ?_)
    refine L_gn (dj := 7) (t := true) rfl rfl rfl rfl ?_
    refine L_gn (dj := 7) (t := true) rfl rfl rfl rfl ?_
    refine L_gn (dj := 7) (t := true) rfl rfl rfl rfl ?_
    refine L_gn (dj := 7) (t := true) rfl rfl rfl rfl ?_
    refine L_gn (dj := 7) (t := true) rfl rfl rfl rfl ?_
    refine L_op rfl (X_pick (t := true) (v := (.bool (true))) rfl rfl ?_)
    refine L_nil ?_
    refine T_n ?_
    refine W_ct rfl ?_
    refine W_seq ?_
    refine W_reg ?_
    refine L_op rfl (X_assign (v := (.slice none 0 0)) rfl ?_)
    refine L_nil ?_
    refine T_n ?_
    refine W_ret ?_
    refine T_r ?_
    exact BQ_r (End_1 Tryd.results13 (v := .slice none 0 0) rfl ⟨by rw [show valD (bl s.vs) n = [] from val_neg (by omega)]; exact BOwn.nil _ _ _ _, hU.own hn0⟩)
  · refine L_op rfl (X_cmp (k := .i64) (a := n) (b := 0) (r := false) rfl rfl rfl (decide_eq_false (p := ((n) : Int) < ((0) : Int)) (by omega)) ?_)
    refine L_op rfl (X_move (v := (.bool (false))) rfl ?_)
    refine L_gy (dj := 7) rfl rfl rfl (X_move (v := (.int .i64 (n))) rfl ?_)
    refine L_gy (dj := 7) rfl rfl rfl (X_fldP (b := b1) (o := 0) (r := 2) Fd27_2 rfl rfl ?_)
    refine L_gy (dj := 7) rfl rfl rfl (X_load (p := (ptr b1 (2))) (v := s.vv) T22 rfl (hB1.at1 rfl) ?_)
    refine L_gy (dj := 7) rfl rfl rfl (X_len (v := s.vv) (n := s.vs.length) Tryd.underlying22 rfl hs.v.sv ?_)
    by_cases hc3 : (n : Int) ≥ (((s.vs.length : Nat) : Int))
    · refine L_gy (dj := 7) rfl rfl rfl (X_cmp (k := .i64) (a := n) (b := ((s.vs.length : Nat) : Int)) (r := true) rfl rfl rfl (decide_eq_true (p := ((((s.vs.length : Nat) : Int)) : Int) ≤ ((n) : Int)) (by omega)) ?_)
      refine L_op rfl (X_pick (t := false) (v := (.bool (true))) rfl rfl ?_)
      refine L_nil ?_
      refine T_n ?_
      refine W_ct rfl ?_
      refine W_seq ?_
      refine W_reg ?_
      refine L_op rfl (X_assign (v := (.slice none 0 0)) rfl ?_)
      refine L_nil ?_
      refine T_n ?_
      refine W_ret ?_
      refine T_r ?_
      exact BQ_r (End_1 Tryd.results13 (v := .slice none 0 0) rfl ⟨by rw [show valD (bl s.vs) n = [] from val_big (by omega) (by rw [bl_len]; omega)]; exact BOwn.nil _ _ _ _, hU.own hn0⟩)
    · refine L_gy (dj := 7) rfl rfl rfl (X_cmp (k := .i64) (a := n) (b := ((s.vs.length : Nat) : Int)) (r := false) rfl rfl rfl (decide_eq_false (p := ((((s.vs.length : Nat) : Int)) : Int) ≤ ((n) : Int)) (by omega)) ?_)
      obtain ⟨e, hei⟩ : ∃ e, s.vs[n.toNat]? = some e := ⟨_, List.getElem?_eq_getElem (by omega)⟩
      have hlen := hs.v.sv.len
      refine L_op rfl (X_pick (t := false) (v := (.bool (false))) rfl rfl ?_)
      refine L_nil ?_
      refine T_n ?_
      refine W_cf rfl ?_
      refine W_skip ?_
      refine T_n ?_
      refine W_seq ?_
      refine W_reg ?_
      refine L_op rfl (X_fldP (b := b1) (o := 0) (r := 2) Fd27_2 rfl rfl ?_)
      refine L_op rfl (X_load (p := (ptr b1 (2))) (v := s.vv) T22 rfl (hB1.at1 rfl) ?_)
      refine L_op rfl (X_move (v := (.int .i64 (n))) rfl ?_)
      refine L_op rfl (X_idx (v := s.vv) (n := s.vs.length) (k := .i64) (i := n) S22 rfl hs.v.sv rfl (by omega) (by omega) ?_)
      refine L_op rfl (X_load (v := e.1) T23 rfl (bkey hs.v (rfl) hei) ?_)
      have hle := hs.ov n.toNat e hei
      have hcr_ := c_copied _ e.2 w1 hle (brd hs.v hei)
      refine L_op rfl (X_fn (vs := [e.1]) en16 rfl ?_)
      refine CT.mono hcr_ ?_
      clear hcr_
      rintro x3 w3 ⟨hO, hu3⟩
      have hz3 := hu3.size
      replace hs := hs.ext hu3
      replace hU := hU.trans (Ext.upd hu3)
      replace hB1 := hB1.ext hu3
      refine L_op rfl (X_assign (v := x3) rfl ?_)
      refine L_nil ?_
      refine T_n ?_
      refine W_ret ?_
      exact BQ_r (End_1 Tryd.results13 (v := x3) rfl ⟨by rw [show valD (bl s.vs) n = e.2 from val_at (by omega) (bl_at hei)]; exact hO.mono (by omega) (Nat.le_refl _), hU.own hn0⟩)

theorem c_get (s : Sn) (w : World) (lo up : Nat) (hup : up ≤ w.heap.size) (hs : s.R w lo up) (key : Value) (m : B) (hm : m.length ≤ 140737488355328) (hk : Rd w 1 key m.length (m.map byteV)) : CT Tryd.prog 5 #[(.agg #[(.int .u32 (s.tx)), s.kv, s.vv, (.int .u8 (s.mr)), (.int .u8 (s.lv))]), key] w fun v w' => ∃ x, v = .tuple #[x, .bool (getO (bl s.ks) (bl s.vs) m).isSome] ∧ BOwn w' 5 w.heap.size w'.heap.size (x, (getO (bl s.ks) (bl s.vs) m).getD []) ∧ Ext w w' := by
  obtain ⟨n0, hn0⟩ : ∃ n, n = w.heap.size := ⟨_, rfl⟩
  have hU : Upd (fun i => n0 ≤ i) w w := Upd.refl _ _
  have hk_b : ∀ i, rbk key = some i → i < n0 := by rw [hn0]; exact fun i hi => hk.bound (by decide) hi
  rw [← hn0] at hup
  refine CT_of Tryd.func5 rfl rfl rfl ?_
  refine W_seq ?_
  refine W_reg ?_
  refine L_op rfl (X_box (v := (.agg #[(.int .u32 (s.tx)), s.kv, s.vv, (.int .u8 (s.mr)), (.int .u8 (s.lv))])) (c := ([(.int .u32 (s.tx)), s.kv, s.vv, (.int .u8 (s.mr)), (.int .u8 (s.lv))]).toArray) rfl rfl ?_)
  intro b1 w1 hn1
  have hbn1 := hn1.num; have hbs1 := hn1.size
  replace hs := hs.ext hn1.ext
  replace hk := hk.ext hn1.ext
  replace hU := hU.trans (Ext.upd hn1.ext)
  have hB1 := hn1.blk
  refine L_op rfl (X_assign (v := (.slice none 0 0)) rfl ?_)
  refine L_op rfl (X_assign (v := (.bool (false))) rfl ?_)
  refine L_nil ?_
  refine T_n ?_
  refine W_seq ?_
  refine W_reg ?_
  refine L_op rfl (X_loadA (p := (ptr b1 (0))) (xs := [(.int .u32 (s.tx)), s.kv, s.vv, (.int .u8 (s.mr)), (.int .u8 (s.lv))]) A27 rfl hB1.atAll rfl ?_)
  refine L_op rfl (X_move (v := key) rfl ?_)
  have hcr_ := c_at s w1 lo up (by omega) hs key m hm hk
  refine L_op rfl (X_fn (vs := [(.agg ([(.int .u32 (s.tx)), s.kv, s.vv, (.int .u8 (s.mr)), (.int .u8 (s.lv))]).toArray), key]) en12 rfl ?_)
  refine CT.mono hcr_ ?_
  clear hcr_
  rintro _ w2 ⟨pa, pt, rfl, hpe, hu2⟩
  have hz2 := hu2.size
  replace hs := hs.ext hu2
  replace hk := hk.ext hu2
  replace hU := hU.trans (Ext.upd hu2)
  replace hB1 := hB1.ext hu2
  have hal := at_le m (bl s.ks)
  rw [bl_len, hpe] at hal
  replace hal : pa ≤ s.ks.length := hal
  refine L_op rfl (X_move (v := (.tuple #[(.int .i64 (((pa : Nat) : Int))), (.bool (pt))])) rfl ?_)
  refine L_op rfl (X_extract (l := [(.int .i64 (((pa : Nat) : Int))), (.bool (pt))]) (v := (.int .i64 (((pa : Nat) : Int)))) rfl rfl ?_)
  refine L_op rfl (X_extract (l := [(.int .i64 (((pa : Nat) : Int))), (.bool (pt))]) (v := (.bool (pt))) rfl rfl ?_)
  refine L_op rfl (X_assign (v := (.int .i64 (((pa : Nat) : Int)))) rfl ?_)
  refine L_op rfl (X_assign (v := (.bool (pt))) rfl ?_)
  refine L_nil ?_
  refine T_n ?_
  refine W_seq ?_
  refine W_seq ?_
  refine W_reg ?_
  rcases Bool.eq_false_or_eq_true pt with hb | hb
  · subst hb
    have hlt := at_lt (l := bl s.ks) (m := m) (by rw [hpe])
    rw [hpe, bl_len] at hlt
    replace hlt : pa < s.ks.length := hlt
    have hlv := hs.len
    refine L_op rfl (X_move (v := (.bool (true))) rfl ?_)
    refine L_op rfl (X_not (b := true) (r := false) rfl rfl ?_)
    refine L_op rfl (X_move (v := (.bool (false))) rfl ?_)
    refine L_gy (dj := 15) rfl rfl rfl (X_move (v := (.int .i64 (((pa : Nat) : Int)))) rfl ?_)
    refine L_gy (dj := 15) rfl rfl rfl (X_fldP (b := b1) (o := 0) (r := 2) Fd27_2 rfl rfl ?_)
    refine L_gy (dj := 15) rfl rfl rfl (X_load (p := (ptr b1 (2))) (v := s.vv) T22 rfl (hB1.at1 rfl) ?_)
    refine L_gy (dj := 15) rfl rfl rfl (X_len (v := s.vv) (n := s.vs.length) Tryd.underlying22 rfl hs.v.sv ?_)
    refine L_gy (dj := 15) rfl rfl rfl (X_cmp (k := .i64) (a := ((pa : Nat) : Int)) (b := ((s.vs.length : Nat) : Int)) (r := false) rfl rfl rfl (decide_eq_false (p := ((((s.vs.length : Nat) : Int)) : Int) ≤ ((((pa : Nat) : Int)) : Int)) (by omega)) ?_)
    refine L_op rfl (X_pick (t := false) (v := (.bool (false))) rfl rfl ?_)
    refine L_nil ?_
    refine T_n ?_
    refine W_cf rfl ?_
    refine W_skip ?_
    refine T_n ?_
    refine W_seq ?_
    refine W_reg ?_
    refine L_op rfl (X_loadA (p := (ptr b1 (0))) (xs := [(.int .u32 (s.tx)), s.kv, s.vv, (.int .u8 (s.mr)), (.int .u8 (s.lv))]) A27 rfl hB1.atAll rfl ?_)
    refine L_op rfl (X_move (v := (.int .i64 (((pa : Nat) : Int)))) rfl ?_)
    have hcr_ := c_value s w2 lo up (by omega) hs ((pa : Nat) : Int)
    refine L_op rfl (X_fn (vs := [(.agg ([(.int .u32 (s.tx)), s.kv, s.vv, (.int .u8 (s.mr)), (.int .u8 (s.lv))]).toArray), (.int .i64 (((pa : Nat) : Int)))]) en13 rfl ?_)
    refine CT.mono hcr_ ?_
    clear hcr_
    rintro x3 w3 ⟨hO, hu3⟩
    have hz3 := hu3.size
    replace hs := hs.ext hu3
    replace hk := hk.ext hu3
    replace hU := hU.trans (Ext.upd hu3)
    replace hB1 := hB1.ext hu3
    refine L_op rfl (X_assign (v := x3) rfl ?_)
    refine L_op rfl (X_assign (v := (.bool (true))) rfl ?_)
    refine L_nil ?_
    refine T_n ?_
    refine W_ret ?_
    exact BQ_r (End_2 Tryd.results5 (v1 := x3) (v2 := .bool true) rfl rfl ⟨x3, by rw [get_t (by rw [hpe])]; rfl, by rw [get_t (by rw [hpe]), hpe]; exact hO.mono (by omega) (Nat.le_refl _), hU.own hn0⟩)
  · subst hb
    refine L_op rfl (X_move (v := (.bool (false))) rfl ?_)
    refine L_op rfl (X_not (b := false) (r := true) rfl rfl ?_)
    refine L_op rfl (X_move (v := (.bool (true))) rfl ?_)
    refine L_gn (dj := 15) (t := true) rfl rfl rfl rfl ?_
    refine L_gn (dj := 15) (t := true) rfl rfl rfl rfl ?_
    refine L_gn (dj := 15) (t := true) rfl rfl rfl rfl ?_
    refine L_gn (dj := 15) (t := true) rfl rfl rfl rfl ?_
    refine L_gn (dj := 15) (t := true) rfl rfl rfl rfl ?_
    refine L_op rfl (X_pick (t := true) (v := (.bool (true))) rfl rfl ?_)
    refine L_nil ?_
    refine T_n ?_
    refine W_ct rfl ?_
    refine W_seq ?_
    refine W_reg ?_
    refine L_op rfl (X_assign (v := (.slice none 0 0)) rfl ?_)
    refine L_op rfl (X_assign (v := (.bool (false))) rfl ?_)
    refine L_nil ?_
    refine T_n ?_
    refine W_ret ?_
    refine T_r ?_
    exact BQ_r (End_2 Tryd.results5 (v1 := .slice none 0 0) (v2 := .bool false) rfl rfl ⟨.slice none 0 0, by rw [get_f (by rw [hpe])]; rfl, by rw [get_f (by rw [hpe])]; exact BOwn.nil _ _ _ _, hU.own hn0⟩)
end Go.Proofs.YthncpmablodbjaaDoor

namespace Go.Proofs.YthncpmablodbjaaDoor
open Go Go.SL Go.Proofs
set_option linter.unusedVariables false

theorem c_without (s : Sn) (w : World) (lo up : Nat) (hup : up ≤ w.heap.size) (hs : s.R w lo up) (n : Int) : CT Tryd.prog 14 #[(.agg #[(.int .u32 (s.tx)), s.kv, s.vv, (.int .u8 (s.mr)), (.int .u8 (s.lv))]), (.int .i64 (n))] w fun v w' => ∃ (kv : Value) (ks : List BE) (vv : Value) (vs : List BE), v = .agg #[.int .u32 s.tx, kv, vv, .int .u8 s.mr, .int .u8 s.lv] ∧ NOwn LB w' 23 5 w.heap.size w'.heap.size kv ks ∧ NOwn LB w' 23 5 w.heap.size w'.heap.size vv vs ∧ (∀ b, obk kv = some b → obk vv ≠ some b) ∧ bl ks = woD (bl s.ks) n ∧ bl vs = woD (bl s.vs) n ∧ Ext w w' := by
  obtain ⟨n0, hn0⟩ : ∃ n, n = w.heap.size := ⟨_, rfl⟩
  have hU : Upd (fun i => n0 ≤ i) w w := Upd.refl _ _
  rw [← hn0] at hup
  refine CT_of Tryd.func14 rfl rfl rfl ?_
  refine W_seq ?_
  refine W_reg ?_
  refine L_op rfl (X_box (v := (.agg #[(.int .u32 (s.tx)), s.kv, s.vv, (.int .u8 (s.mr)), (.int .u8 (s.lv))])) (c := ([(.int .u32 (s.tx)), s.kv, s.vv, (.int .u8 (s.mr)), (.int .u8 (s.lv))]).toArray) rfl rfl ?_)
  intro b1 w1 hn1
  have hbn1 := hn1.num; have hbs1 := hn1.size
  replace hs := hs.ext hn1.ext
  replace hU := hU.trans (Ext.upd hn1.ext)
  have hB1 := hn1.blk
  refine L_op rfl (X_alloc (z := (.agg #[(.int .u32 (0)), (.slice none 0 0), (.slice none 0 0), (.int .u8 (0)), (.int .u8 (0))])) (c := #[(.int .u32 (0)), (.slice none 0 0), (.slice none 0 0), (.int .u8 (0)), (.int .u8 (0))]) Zv27 rfl ?_)
  intro b2 w2 hn2
  have hbn2 := hn2.num; have hbs2 := hn2.size
  replace hs := hs.ext hn2.ext
  replace hU := hU.trans (Ext.upd hn2.ext)
  replace hB1 := hB1.ext hn2.ext
  have hB2 := hn2.blk
  refine L_nil ?_
  refine T_n ?_
  refine W_seq ?_
  refine W_reg ?_
  refine L_op rfl (X_loadA (p := (ptr b1 (0))) (xs := [(.int .u32 (s.tx)), s.kv, s.vv, (.int .u8 (s.mr)), (.int .u8 (s.lv))]) A27 rfl hB1.atAll rfl ?_)
  refine L_op0 (X_storeW (b := b2) (ys := [(.int .u32 (s.tx)), s.kv, s.vv, (.int .u8 (s.mr)), (.int .u8 (s.lv))]) A27 rfl rfl (List.forall_mem_cons.2 ⟨rfl, (List.forall_mem_cons.2 ⟨(hs.k.sv.one), (List.forall_mem_cons.2 ⟨(hs.v.sv.one), (List.forall_mem_cons.2 ⟨rfl, (List.forall_mem_cons.2 ⟨rfl, (fun _ h => by cases h)⟩)⟩)⟩)⟩)⟩) rfl hB2 rfl ?_)
  intro w3 hu3 hb3
  have hz3 := hu3.size
  replace hs := hs.upd hu3 fun i h1 h2 h => by have h : i = b2 := h; omega
  replace hU := hU.trans (hu3.mono fun i _ h => by have h : i = b2 := h; show n0 ≤ i; omega)
  replace hB1 := hB1.upd hu3 fun h => by have h : b1 = b2 := h; omega
  replace hB2 : Blk w3 b2 #[(.int .u32 (s.tx)), s.kv, s.vv, (.int .u8 (s.mr)), (.int .u8 (s.lv))] 27 := hb3
  refine L_nil ?_
  refine T_n ?_
  refine W_seq ?_
  refine W_reg ?_
  refine L_op rfl (X_fldP (b := b2) (o := 0) (r := 1) Fd27_1 rfl rfl ?_)
  refine L_op0 (X_store (b := b2) (o := 1) T22 rfl rfl rfl hB2 (by show (1 : Nat) < 5; decide) ?_)
  intro w4 hu4 hb4
  have hz4 := hu4.size
  replace hs := hs.upd hu4 fun i h1 h2 h => by have h : i = b2 := h; omega
  replace hU := hU.trans (hu4.mono fun i _ h => by have h : i = b2 := h; show n0 ≤ i; omega)
  replace hB1 := hB1.upd hu4 fun h => by have h : b1 = b2 := h; omega
  replace hB2 : Blk w4 b2 #[(.int .u32 (s.tx)), (.slice none 0 0), s.vv, (.int .u8 (s.mr)), (.int .u8 (s.lv))] 27 := hb4
  refine L_op rfl (X_fldP (b := b2) (o := 0) (r := 2) Fd27_2 rfl rfl ?_)
  refine L_op0 (X_store (b := b2) (o := 2) T22 rfl rfl rfl hB2 (by show (2 : Nat) < 5; decide) ?_)
  intro w5 hu5 hb5
  have hz5 := hu5.size
  replace hs := hs.upd hu5 fun i h1 h2 h => by have h : i = b2 := h; omega
  replace hU := hU.trans (hu5.mono fun i _ h => by have h : i = b2 := h; show n0 ≤ i; omega)
  replace hB1 := hB1.upd hu5 fun h => by have h : b1 = b2 := h; omega
  replace hB2 : Blk w5 b2 #[(.int .u32 (s.tx)), (.slice none 0 0), (.slice none 0 0), (.int .u8 (s.mr)), (.int .u8 (s.lv))] 27 := hb5
  refine L_nil ?_
  refine T_n ?_
  refine W_seq ?_
  refine W_seq ?_
  refine W_reg ?_
  refine L_op rfl (X_fldP (b := b1) (o := 0) (r := 1) Fd27_1 rfl rfl ?_)
  refine L_op rfl (X_load (p := (ptr b1 (1))) (v := s.kv) T22 rfl (hB1.at1 rfl) ?_)
  refine L_op rfl (X_len (v := s.kv) (n := s.ks.length) Tryd.underlying22 rfl hs.k.sv ?_)
  refine L_op rfl (X_move (v := (.int .i64 (0))) rfl ?_)
  refine L_nil ?_
  refine T_n ?_
  refine W_block ?_
  refine W_loop (α := Nat × Value × List BE × Value × List BE) [5, 6, 13, 14, 15, 16, 17, 18, 19, 20, 21, 22, 23, 24, 25, 26, 27, 28, 29, 30, 31, 32, 33, 34, 35, 36] (fun ⟨i, kv, ks, vv, vs⟩ => [(13, (.int .i64 (((i : Nat) : Int))))]) (fun ⟨i, kv, ks, vv, vs⟩ w_ => i ≤ s.ks.length ∧ Blk w_ b1 #[.int .u32 s.tx, s.kv, s.vv, .int .u8 s.mr, .int .u8 s.lv] 27 ∧ Blk w_ b2 #[.int .u32 s.tx, kv, vv, .int .u8 s.mr, .int .u8 s.lv] 27 ∧ NOwn LB w_ 23 5 (n0 + 2) w_.heap.size kv ks ∧ NOwn LB w_ 23 5 (n0 + 2) w_.heap.size vv vs ∧ (∀ b, obk kv = some b → obk vv ≠ some b) ∧ bl ks = woD ((bl s.ks).take i) n ∧ bl vs = woD ((bl s.vs).take i) n ∧ s.R w_ lo up ∧ Upd (fun i => n0 ≤ i) w w_) (fun ⟨i, kv, ks, vv, vs⟩ => s.ks.length - i) ⟨rfl, (0, .slice none 0 0, [], .slice none 0 0, []), ⟨Nat.zero_le _, hB1, hB2, NOwn.nil _ _ _ _ _, NOwn.nil _ _ _ _ _, fun b hb => (by cases hb), (by rw [List.take_zero, wo_nil]; rfl), (by rw [List.take_zero, wo_nil]; rfl), hs, hU⟩, Out.refl _ _, ⟨rfl, trivial⟩⟩ ?_
  rintro ⟨i, kv, ks, vv, vs⟩ w6 _ ⟨hil, hB1, hB2, hNk, hNv, hap, hks, hvs, hs, hU⟩
  have hsz_ := hU.size
  have hb2l := hB2.lt
  obtain ⟨N7, hN7⟩ : ∃ n, n = w6.heap.size := ⟨_, rfl⟩
  rw [← hN7] at hNk hNv
  have hkl := congrArg List.length hks
  have hvl := congrArg List.length hvs
  rw [bl_len] at hkl hvl
  have hwl1 := wo_len_le (l := (bl s.ks).take i) (n := n)
  have hwl2 := wo_len_le (l := (bl s.vs).take i) (n := n)
  rw [List.length_take] at hwl1 hwl2
  have hsm := hs.sm
  refine W_seq ?_
  refine W_reg ?_
  by_cases hc7 : (((i : Nat) : Int) : Int) < (((s.ks.length : Nat) : Int))
  · refine L_op rfl (X_cmp (k := .i64) (a := ((i : Nat) : Int)) (b := ((s.ks.length : Nat) : Int)) (r := true) rfl rfl rfl (decide_eq_true (p := ((((i : Nat) : Int)) : Int) < ((((s.ks.length : Nat) : Int)) : Int)) (by omega)) ?_)
    have hi : i < s.ks.length := by omega
    obtain ⟨e, hei⟩ : ∃ e, s.ks[i]? = some e := ⟨_, List.getElem?_eq_getElem hi⟩
    obtain ⟨f, hfi_⟩ : ∃ f, s.vs[i]? = some f := ⟨_, List.getElem?_eq_getElem (by have := hs.len; omega)⟩
    refine L_nil ?_
    refine T_n ?_
    refine W_seq ?_
    refine W_ct rfl ?_
    refine W_skip ?_
    refine T_n ?_
    refine W_seq ?_
    refine W_block ?_
    refine W_seq ?_
    refine W_reg ?_
    refine L_op rfl (X_move (v := (.int .i64 (((i : Nat) : Int)))) rfl ?_)
    refine L_op rfl (X_idx (v := s.kv) (n := s.ks.length) (k := .i64) (i := ((i : Nat) : Int)) S22 rfl hs.k.sv rfl (by omega) (by omega) ?_)
    refine L_op rfl (X_load (v := e.1) T23 rfl (bkey hs.k (Int.toNat_natCast _) hei) ?_)
    refine L_op rfl (X_assign (v := (.int .i64 (((i : Nat) : Int)))) rfl ?_)
    refine L_op rfl (X_assign (v := e.1) rfl ?_)
    refine L_nil ?_
    refine T_n ?_
    refine W_seq ?_
    refine W_reg ?_
    refine L_op rfl (X_move (v := (.int .i64 (((i : Nat) : Int)))) rfl ?_)
    refine L_op rfl (X_move (v := (.int .i64 (n))) rfl ?_)
    by_cases hc9 : (((i : Nat) : Int) : Int) ≠ (n)
    · refine L_op rfl (X_cmp (k := .i64) (a := ((i : Nat) : Int)) (b := n) (r := true) rfl rfl rfl (decide_eq_true (p := ((((i : Nat) : Int)) : Int) ≠ ((n) : Int)) (by omega)) ?_)
      refine L_nil ?_
      refine T_n ?_
      refine W_ct rfl ?_
      have hle := hs.ok i e hei
      obtain ⟨f, hfi⟩ : ∃ f, s.vs[i]? = some f := ⟨_, List.getElem?_eq_getElem (by have := hs.len; omega)⟩
      have hvd : valD (bl s.vs) ((i : Nat) : Int) = f.2 := val_at (by omega) (by rw [Int.toNat_natCast]; exact bl_at hfi)
      have hkb : ∀ b, obk kv = some b → n0 + 2 ≤ b ∧ b < N7 := fun b hb => ⟨(hNk.1.lt hb).1, hNk.2.1 b hb⟩
      have hvb : ∀ b, obk vv = some b → n0 + 2 ≤ b ∧ b < N7 := fun b hb => ⟨(hNv.1.lt hb).1, hNv.2.1 b hb⟩
      have hub : ∀ b, (obk kv = some b) ∨ (obk vv = some b) → n0 + 2 ≤ b ∧ b < N7 := fun b hb => hb.elim (hkb b) (hvb b)
      have hDk : Dj kv ks vv := Dj.of (by decide) hNk hNv hap
      have hDv : Dj vv vs kv := Dj.of (by decide) hNv hNk fun b h1 h2 => hap b h2 h1
      refine W_drawS 14 [[], [0], [], [2], [2, 3], [0, 1, 2, 3, 4], [], [6], [], [], [0, 1, 2, 3, 4, 5, 8, 9], [0, 1, 2, 3, 4, 5, 8, 9, 10], [0, 1, 2, 3, 4, 5, 6, 7, 8, 9, 10, 11], [0, 1, 2, 3, 4, 5, 6, 7], [0, 1, 2, 3, 4, 5, 6, 7, 8, 9, 10, 11, 12, 13], [0, 1, 2, 3, 4, 5, 6, 7, 8, 9, 10, 11, 12, 13, 14], [0, 1, 2, 3, 4, 5, 6, 7, 8, 9, 10, 11, 12, 13, 14, 15]] (fun j b => (j = 5 ∧ obk kv = some b) ∨ (j = 12 ∧ obk vv = some b)) mixed (by kernel_rfl) ?_
      refine ⟨.det (fun val => (ptr b2 (1))), ⟨fun _ _ hv => rfl, fun _ _ _ _ _ => trivial⟩, fun val h_ W hx he => ⟨trivial, ?_⟩, ?_⟩
      · replace hx := (Upd.drew _ _).trans hx
        replace hx : Upd (fun b => False) w6 W := hx.mono fun b _ h_ => by obtain ⟨j, _, hne, hm_, hS⟩ := h_; rcases hS with ⟨rfl, hS⟩ | ⟨rfl, hS⟩; (· exact absurd hm_ (by decide)); (· exact absurd hm_ (by decide))
        replace hB1 := hB1.ext hx
        replace hB2 := hB2.ext hx
        replace hNk := hNk.ext hx
        replace hNv := hNv.ext hx
        replace hs := hs.ext hx
        have hE := Upd.refl (fun _ => False) W
        refine id (X_fldP (b := b2) (o := 0) (r := 1) Fd27_1 rfl rfl ?_)
        exact ⟨Ext.upd hE, rfl⟩
      refine ⟨.det (fun val => kv), ⟨fun _ _ hv => rfl, fun _ _ _ _ _ => trivial⟩, fun val h_ W hx he => ⟨trivial, ?_⟩, ?_⟩
      · replace hx := (Upd.drew _ _).trans hx
        replace hx : Upd (fun b => False) w6 W := hx.mono fun b _ h_ => by obtain ⟨j, _, hne, hm_, hS⟩ := h_; rcases hS with ⟨rfl, hS⟩ | ⟨rfl, hS⟩; (· exact absurd hm_ (by decide)); (· exact absurd hm_ (by decide))
        replace hB1 := hB1.ext hx
        replace hB2 := hB2.ext hx
        replace hNk := hNk.ext hx
        replace hNv := hNv.ext hx
        replace hs := hs.ext hx
        have hE := Upd.refl (fun _ => False) W
        refine id (X_load (p := (ptr b2 (1))) (v := kv) T22 rfl (hB2.at1 rfl) ?_)
        exact ⟨Ext.upd hE, rfl⟩
      refine ⟨.det (fun val => e.1), ⟨fun _ _ hv => rfl, fun _ _ _ _ _ => trivial⟩, fun val h_ W hx he => ⟨trivial, ?_⟩, ?_⟩
      · replace hx := (Upd.drew _ _).trans hx
        replace hx : Upd (fun b => False) w6 W := hx.mono fun b _ h_ => by obtain ⟨j, _, hne, hm_, hS⟩ := h_; rcases hS with ⟨rfl, hS⟩ | ⟨rfl, hS⟩; (· exact absurd hm_ (by decide)); (· exact absurd hm_ (by decide))
        replace hB1 := hB1.ext hx
        replace hB2 := hB2.ext hx
        replace hNk := hNk.ext hx
        replace hNv := hNv.ext hx
        replace hs := hs.ext hx
        have hE := Upd.refl (fun _ => False) W
        refine id (X_move (v := e.1) rfl ?_)
        exact ⟨Ext.upd hE, rfl⟩
      refine ⟨.abs (fun _ x_ W_ => Own W_ N7 5 1 x_ e.2.length (e.2.map byteV)), ⟨fun _ _ _ => rfl, fun _ _ _ _ hu0 h => have hu : Upd (fun b => (obk kv = some b) ∨ (obk vv = some b)) _ _ := hu0.mono fun b _ h_ => (by obtain ⟨j, _, hne, hm_, hS⟩ := h_; rcases hS with ⟨rfl, hS⟩ | ⟨rfl, hS⟩; (· exact .inl hS); (· exact .inr (hS)))
         (Own.upd h hu fun b hb h9 => by have h1 := (Own.lt h hb).1; have h2 := hub b h9; omega)⟩, fun val h_ W hx he => ⟨trivial, ?_⟩, ?_⟩
      · replace hx := (Upd.drew _ _).trans hx
        replace hx : Upd (fun b => False) w6 W := hx.mono fun b _ h_ => by obtain ⟨j, _, hne, hm_, hS⟩ := h_; rcases hS with ⟨rfl, hS⟩ | ⟨rfl, hS⟩; (· exact absurd hm_ (by decide)); (· exact absurd hm_ (by decide))
        replace hB1 := hB1.ext hx
        replace hB2 := hB2.ext hx
        replace hNk := hNk.ext hx
        replace hNv := hNv.ext hx
        replace hs := hs.ext hx
        have hE := Upd.refl (fun _ => False) W
        have hxs := hx.size
        have hcr_ := c_copied e.1 e.2 W hle (brd hs.k hei)
        refine X_fn (vs := [e.1]) en16 rfl ?_
        refine CT.mono hcr_ ?_
        rintro v9 w9 ⟨hO9, hu9⟩
        exact ⟨Ext.upd hu9, hO9.1.more (by omega)⟩
      refine ⟨.abs (fun val x_ W => ∃ b, x_ = .slice (some ⟨b, 0, none⟩) 1 1 ∧ N7 ≤ b ∧ Blk W b #[val 3] 23), ⟨fun _ _ hv => (by simp only [hv 3 rfl]), fun _ _ _ _ hu0 h => have hu : Upd (fun b => (obk kv = some b) ∨ (obk vv = some b)) _ _ := hu0.mono fun b _ h_ => (by obtain ⟨j, _, hne, hm_, hS⟩ := h_; rcases hS with ⟨rfl, hS⟩ | ⟨rfl, hS⟩; (· exact .inl hS); (· exact .inr (hS)))
         (by obtain ⟨b, e1, e2, e3⟩ := h; exact ⟨b, e1, e2, e3.upd hu fun h9 => by have h2 := hub b (by first | exact h9 | exact .inl h9 | exact .inr h9); omega⟩)⟩, fun val h_ W hx he => ⟨trivial, ?_⟩, ?_⟩
      · replace hx := (Upd.drew _ _).trans hx
        replace hx : Upd (fun b => False) w6 W := hx.mono fun b _ h_ => by obtain ⟨j, _, hne, hm_, hS⟩ := h_; rcases hS with ⟨rfl, hS⟩ | ⟨rfl, hS⟩; (· exact absurd hm_ (by decide)); (· exact absurd hm_ (by decide))
        replace hB1 := hB1.ext hx
        replace hB2 := hB2.ext hx
        replace hNk := hNk.ext hx
        replace hNv := hNv.ext hx
        replace hs := hs.ext hx
        have hE := Upd.refl (fun _ => False) W
        obtain ⟨hO3, _⟩ := he
        have hxs := hx.size
        refine X_buildSlice1 (vs := [val 3]) S22 (by decide) rfl rfl (List.forall_mem_cons.2 ⟨hO3.sv.cells, fun _ h => by cases h⟩) ?_
        intro b9 w9 hn9
        have hb9 := hn9.num
        exact ⟨Ext.upd hn9.ext, b9, rfl, by omega, hn9.blk⟩
      refine ⟨.abs (fun val x_ W_ => ∃ u, NOwn LB W_ 23 5 (n0 + 2) u x_ (ks ++ [(val 3, e.2)]) ∧ u ≤ W_.heap.size ∧ Dj x_ (ks ++ [(val 3, e.2)]) vv), ⟨fun _ _ hv => (by simp only [hv 3 rfl]), fun _ _ _ _ hu0 h => have hu : Upd (fun b => (obk vv = some b)) _ _ := hu0.mono fun b _ h_ => (by obtain ⟨j, _, hne, hm_, hS⟩ := h_; rcases hS with ⟨rfl, hS⟩ | ⟨rfl, hS⟩; (· exact absurd rfl hne); (· exact hS))
         (by obtain ⟨u9, h1, h2, h3⟩ := h; exact ⟨u9, NOwn.dj h1 h3 hu, Nat.le_trans h2 hu.size, h3⟩)⟩, fun val h_ W hx he => ⟨trivial, ?_⟩, ?_⟩
      · replace hx := (Upd.drew _ _).trans hx
        replace hx : Upd (fun b => False) w6 W := hx.mono fun b _ h_ => by obtain ⟨j, _, hne, hm_, hS⟩ := h_; rcases hS with ⟨rfl, hS⟩ | ⟨rfl, hS⟩; (· exact absurd rfl hne); (· exact absurd hm_ (by decide))
        replace hB1 := hB1.ext hx
        replace hB2 := hB2.ext hx
        replace hNk := hNk.ext hx
        replace hNv := hNv.ext hx
        replace hs := hs.ext hx
        have hE := Upd.refl (fun _ => False) W
        obtain ⟨⟨bq4, hbq4, hnq4, hBq4⟩, hO3, _⟩ := he
        have hxs := hx.size
        refine X_append (B := n0 + 2) (n := ks.length) (s := kv) (x := .slice (some ⟨bq4, 0, none⟩) 1 1) S22 ⟨_, Tryd.underlying22⟩ rfl hbq4 hNk.1 (m := 1) (ys := [val 3]) (hBq4.rd (o := 0) (n := 1) (c := 1) (sz := 1) (by decide) (by decide) rfl (fun j u hj => by rw [Nat.zero_add]; simpa using hj)) (List.forall_mem_cons.2 ⟨hO3.sv.one, fun _ h => by cases h⟩) (by unfold maxLen; omega) (by omega) (by omega) ?_
        intro v9 w9 hO9 hu9 ho9
        have hz9 := hu9.size
        have hN9 := NOwn.push (L := LB) (e := (val 3, e.2)) (hi' := W.heap.size) (by decide) hNk hO9 hu9 (fun s hs => by have h1 : s = (val 3, e.2) := by { simpa [LB] using hs }; subst h1; exact ⟨hO3.more (by omega), fun b hb => (hO3.lt hb).2⟩) (by omega) (by omega)
        exact ⟨hu9.mono fun b _ h => .inl ⟨rfl, h⟩, _, hN9, Nat.le_refl _, hDk.push (fun b hb hb2 => by rcases ho9 b hb with h | h; (· exact hap b h hb2); (· have := hvb b hb2; omega)) fun b hb hb2 => by have h1 := (hO3.lt hb).1; have h2 := hvb b hb2; omega⟩
      refine ⟨.det (fun val => (ptr b2 (2))), ⟨fun _ _ hv => rfl, fun _ _ _ _ _ => trivial⟩, fun val h_ W hx he => ⟨trivial, ?_⟩, ?_⟩
      · replace hx := (Upd.drew _ _).trans hx
        replace hx : Upd (fun b => (obk kv = some b)) w6 W := hx.mono fun b _ h_ => by obtain ⟨j, _, hne, hm_, hS⟩ := h_; rcases hS with ⟨rfl, hS⟩ | ⟨rfl, hS⟩; (· exact hS); (· exact absurd hm_ (by decide))
        replace hB1 := hB1.upd hx fun h => by have h1 := hkb b1 h; omega
        replace hB2 := hB2.upd hx fun h => by have h1 := hkb b2 h; omega
        replace hs := hs.upd hx fun i h1 h2 h => by have h1 := hkb i h; omega
        have hE := Upd.refl (fun _ => False) W
        refine id (X_fldP (b := b2) (o := 0) (r := 2) Fd27_2 rfl rfl ?_)
        exact ⟨Ext.upd hE, rfl⟩
      refine ⟨.det (fun val => vv), ⟨fun _ _ hv => rfl, fun _ _ _ _ _ => trivial⟩, fun val h_ W hx he => ⟨trivial, ?_⟩, ?_⟩
      · replace hx := (Upd.drew _ _).trans hx
        replace hx : Upd (fun b => (obk kv = some b)) w6 W := hx.mono fun b _ h_ => by obtain ⟨j, _, hne, hm_, hS⟩ := h_; rcases hS with ⟨rfl, hS⟩ | ⟨rfl, hS⟩; (· exact hS); (· exact absurd hm_ (by decide))
        replace hB1 := hB1.upd hx fun h => by have h1 := hkb b1 h; omega
        replace hB2 := hB2.upd hx fun h => by have h1 := hkb b2 h; omega
        replace hs := hs.upd hx fun i h1 h2 h => by have h1 := hkb i h; omega
        have hE := Upd.refl (fun _ => False) W
        refine id (X_load (p := (ptr b2 (2))) (v := vv) T22 rfl (hB2.at1 rfl) ?_)
        exact ⟨Ext.upd hE, rfl⟩
      refine ⟨.det (fun val => (.agg ([(.int .u32 (s.tx)), s.kv, s.vv, (.int .u8 (s.mr)), (.int .u8 (s.lv))]).toArray)), ⟨fun _ _ hv => rfl, fun _ _ _ _ _ => trivial⟩, fun val h_ W hx he => ⟨trivial, ?_⟩, ?_⟩
      · replace hx := (Upd.drew _ _).trans hx
        replace hx : Upd (fun b => (obk kv = some b)) w6 W := hx.mono fun b _ h_ => by obtain ⟨j, _, hne, hm_, hS⟩ := h_; rcases hS with ⟨rfl, hS⟩ | ⟨rfl, hS⟩; (· exact hS); (· exact absurd hm_ (by decide))
        replace hB1 := hB1.upd hx fun h => by have h1 := hkb b1 h; omega
        replace hB2 := hB2.upd hx fun h => by have h1 := hkb b2 h; omega
        replace hs := hs.upd hx fun i h1 h2 h => by have h1 := hkb i h; omega
        have hE := Upd.refl (fun _ => False) W
        refine id (X_loadA (p := (ptr b1 (0))) (xs := [(.int .u32 (s.tx)), s.kv, s.vv, (.int .u8 (s.mr)), (.int .u8 (s.lv))]) A27 rfl hB1.atAll rfl ?_)
        exact ⟨Ext.upd hE, rfl⟩
      refine ⟨.det (fun val => (.int .i64 (((i : Nat) : Int)))), ⟨fun _ _ hv => rfl, fun _ _ _ _ _ => trivial⟩, fun val h_ W hx he => ⟨trivial, ?_⟩, ?_⟩
      · replace hx := (Upd.drew _ _).trans hx
        replace hx : Upd (fun b => (obk kv = some b)) w6 W := hx.mono fun b _ h_ => by obtain ⟨j, _, hne, hm_, hS⟩ := h_; rcases hS with ⟨rfl, hS⟩ | ⟨rfl, hS⟩; (· exact hS); (· exact absurd hm_ (by decide))
        replace hB1 := hB1.upd hx fun h => by have h1 := hkb b1 h; omega
        replace hB2 := hB2.upd hx fun h => by have h1 := hkb b2 h; omega
        replace hs := hs.upd hx fun i h1 h2 h => by have h1 := hkb i h; omega
        have hE := Upd.refl (fun _ => False) W
        refine id (X_move (v := (.int .i64 (((i : Nat) : Int)))) rfl ?_)
        exact ⟨Ext.upd hE, rfl⟩
      refine ⟨.abs (fun _ x_ W_ => Own W_ N7 5 1 x_ f.2.length (f.2.map byteV)), ⟨fun _ _ _ => rfl, fun _ _ _ _ hu0 h => have hu : Upd (fun b => (obk vv = some b)) _ _ := hu0.mono fun b _ h_ => (by obtain ⟨j, _, hne, hm_, hS⟩ := h_; rcases hS with ⟨rfl, hS⟩ | ⟨rfl, hS⟩; (· exact absurd hm_ (by decide)); (· exact hS))
         (Own.upd h hu fun b hb h9 => by have h1 := (Own.lt h hb).1; have h2 := hub b (.inr h9); omega)⟩, fun val h_ W hx he => ⟨trivial, ?_⟩, ?_⟩
      · replace hx := (Upd.drew _ _).trans hx
        replace hx : Upd (fun b => (obk kv = some b)) w6 W := hx.mono fun b _ h_ => by obtain ⟨j, _, hne, hm_, hS⟩ := h_; rcases hS with ⟨rfl, hS⟩ | ⟨rfl, hS⟩; (· exact hS); (· exact absurd hm_ (by decide))
        replace hB1 := hB1.upd hx fun h => by have h1 := hkb b1 h; omega
        replace hB2 := hB2.upd hx fun h => by have h1 := hkb b2 h; omega
        replace hs := hs.upd hx fun i h1 h2 h => by have h1 := hkb i h; omega
        have hE := Upd.refl (fun _ => False) W
        have hxs := hx.size
        have hcr_ := c_value s W lo up (by omega) hs ((i : Nat) : Int)
        rw [hvd] at hcr_
        refine X_fn (vs := [(.agg #[(.int .u32 (s.tx)), s.kv, s.vv, (.int .u8 (s.mr)), (.int .u8 (s.lv))]), .int .i64 ((i : Nat) : Int)]) en13 rfl ?_
        refine CT.mono hcr_ ?_
        rintro v9 w9 ⟨hO9, hu9⟩
        exact ⟨Ext.upd hu9, hO9.1.more (by omega)⟩
      refine ⟨.abs (fun val x_ W => ∃ b, x_ = .slice (some ⟨b, 0, none⟩) 1 1 ∧ N7 ≤ b ∧ Blk W b #[val 10] 23), ⟨fun _ _ hv => (by simp only [hv 10 rfl]), fun _ _ _ _ hu0 h => have hu : Upd (fun b => (obk vv = some b)) _ _ := hu0.mono fun b _ h_ => (by obtain ⟨j, _, hne, hm_, hS⟩ := h_; rcases hS with ⟨rfl, hS⟩ | ⟨rfl, hS⟩; (· exact absurd hm_ (by decide)); (· exact hS))
         (by obtain ⟨b, e1, e2, e3⟩ := h; exact ⟨b, e1, e2, e3.upd hu fun h9 => by have h2 := hub b (by first | exact h9 | exact .inl h9 | exact .inr h9); omega⟩)⟩, fun val h_ W hx he => ⟨trivial, ?_⟩, ?_⟩
      · replace hx := (Upd.drew _ _).trans hx
        replace hx : Upd (fun b => (obk kv = some b)) w6 W := hx.mono fun b _ h_ => by obtain ⟨j, _, hne, hm_, hS⟩ := h_; rcases hS with ⟨rfl, hS⟩ | ⟨rfl, hS⟩; (· exact hS); (· exact absurd hm_ (by decide))
        replace hB1 := hB1.upd hx fun h => by have h1 := hkb b1 h; omega
        replace hB2 := hB2.upd hx fun h => by have h1 := hkb b2 h; omega
        replace hs := hs.upd hx fun i h1 h2 h => by have h1 := hkb i h; omega
        have hE := Upd.refl (fun _ => False) W
        obtain ⟨hO10, _⟩ := he
        have hxs := hx.size
        refine X_buildSlice1 (vs := [val 10]) S22 (by decide) rfl rfl (List.forall_mem_cons.2 ⟨hO10.sv.cells, fun _ h => by cases h⟩) ?_
        intro b9 w9 hn9
        have hb9 := hn9.num
        exact ⟨Ext.upd hn9.ext, b9, rfl, by omega, hn9.blk⟩
      refine ⟨.abs (fun val x_ W_ => ∃ u, NOwn LB W_ 23 5 (n0 + 2) u x_ (vs ++ [(val 10, f.2)]) ∧ u ≤ W_.heap.size ∧ ∀ b, obk (val 5) = some b → obk x_ ≠ some b), ⟨fun _ _ hv => (by simp only [hv 10 rfl, hv 5 rfl]), fun _ _ _ _ hu0 h => have hu : Upd (fun b => False) _ _ := hu0.mono fun b _ h_ => (by obtain ⟨j, _, hne, hm_, hS⟩ := h_; rcases hS with ⟨rfl, hS⟩ | ⟨rfl, hS⟩; (· exact absurd hm_ (by decide)); (· exact absurd rfl hne))
         (by obtain ⟨u9, h1, h2, h3⟩ := h; exact ⟨u9, NOwn.ext h1 hu, Nat.le_trans h2 hu.size, h3⟩)⟩, fun val h_ W hx he => ⟨trivial, ?_⟩, ?_⟩
      · replace hx := (Upd.drew _ _).trans hx
        replace hx : Upd (fun b => (obk kv = some b)) w6 W := hx.mono fun b _ h_ => by obtain ⟨j, _, hne, hm_, hS⟩ := h_; rcases hS with ⟨rfl, hS⟩ | ⟨rfl, hS⟩; (· exact hS); (· exact absurd rfl hne)
        replace hB1 := hB1.upd hx fun h => by have h1 := hkb b1 h; omega
        replace hB2 := hB2.upd hx fun h => by have h1 := hkb b2 h; omega
        replace hs := hs.upd hx fun i h1 h2 h => by have h1 := hkb i h; omega
        have hE := Upd.refl (fun _ => False) W
        obtain ⟨⟨bq11, hbq11, hnq11, hBq11⟩, hO10, ⟨u5, hNk2, hu5_, hDj5⟩, _, hO3, _⟩ := he
        have hxs := hx.size
        have hNv_ := NOwn.dj hNv hDv hx
        refine X_append (B := n0 + 2) (n := vs.length) (s := vv) (x := .slice (some ⟨bq11, 0, none⟩) 1 1) S22 ⟨_, Tryd.underlying22⟩ rfl hbq11 hNv_.1 (m := 1) (ys := [val 10]) (hBq11.rd (o := 0) (n := 1) (c := 1) (sz := 1) (by decide) (by decide) rfl (fun j u hj => by rw [Nat.zero_add]; simpa using hj)) (List.forall_mem_cons.2 ⟨hO10.sv.one, fun _ h => by cases h⟩) (by unfold maxLen; omega) (by omega) (by omega) ?_
        intro v9 w9 hO9 hu9 ho9
        have hz9 := hu9.size
        have hN9 := NOwn.push (L := LB) (e := (val 10, f.2)) (hi' := W.heap.size) (by decide) hNv_ hO9 hu9 (fun s hs => by have h1 : s = (val 10, f.2) := by { simpa [LB] using hs }; subst h1; exact ⟨hO10.more (by omega), fun b hb => (hO10.lt hb).2⟩) (by omega) (by omega)
        exact ⟨hu9.mono fun b _ h => .inr ⟨rfl, h⟩, _, hN9, Nat.le_refl _, fun b hb hb2 => by rcases ho9 b hb2 with h | h; (· exact hDj5.1 b hb h); (· have := hNk2.2.1 b hb; omega)⟩
      refine ⟨.det (fun val => (ptr b2 (1))), ⟨fun _ _ hv => rfl, fun _ _ _ _ _ => trivial⟩, fun val h_ W hx he => ⟨trivial, ?_⟩, ?_⟩
      · replace hx := (Upd.drew _ _).trans hx
        replace hx : Upd (fun b => (obk kv = some b) ∨ (obk vv = some b)) w6 W := hx.mono fun b _ h_ => by obtain ⟨j, _, hne, hm_, hS⟩ := h_; rcases hS with ⟨rfl, hS⟩ | ⟨rfl, hS⟩; (· exact .inl hS); (· exact .inr (hS))
        replace hB1 := hB1.upd hx fun h => by have h1 := hub b1 h; omega
        replace hB2 := hB2.upd hx fun h => by have h1 := hub b2 h; omega
        replace hs := hs.upd hx fun i h1 h2 h => by have h1 := hub i h; omega
        have hE := Upd.refl (fun _ => False) W
        obtain ⟨⟨u5, hNk2, hu5_, hDj5⟩, he⟩ := he
        obtain ⟨⟨bq4, hbq4, hnq4, hBq4⟩, he⟩ := he
        obtain ⟨hO3, he⟩ := he
        refine id (X_fldP (b := b2) (o := 0) (r := 1) Fd27_1 rfl rfl ?_)
        exact ⟨Ext.upd hE, rfl⟩
      intro val W10 hx10 he10
      replace hx10 := (Upd.drew _ _).trans hx10
      replace hx10 : Upd (fun b => (obk kv = some b) ∨ (obk vv = some b)) w6 W10 := hx10.mono fun b _ h_ => by obtain ⟨j, _, hS⟩ := h_; rcases hS with ⟨rfl, hS⟩ | ⟨rfl, hS⟩; (· exact .inl hS); (· exact .inr (hS))
      have hz10 := hx10.size
      replace hB1 := hB1.upd hx10 fun h => by have h1 := hub b1 h; omega
      replace hB2 := hB2.upd hx10 fun h => by have h1 := hub b2 h; omega
      replace hs := hs.upd hx10 fun i h1 h2 h => by have h1 := hub i h; omega
      replace hU := hU.trans (hx10.mono fun i _ h => by have h1 := hub i h; show n0 ≤ i; omega)
      obtain ⟨⟨u12, hNv2, hu12_, hap2⟩, he10⟩ := he10
      obtain ⟨⟨bq11, hbq11, hnq11, hBq11⟩, he10⟩ := he10
      obtain ⟨hO10, he10⟩ := he10
      obtain ⟨⟨u5, hNk2, hu5_, hDj5⟩, he10⟩ := he10
      obtain ⟨⟨bq4, hbq4, hnq4, hBq4⟩, he10⟩ := he10
      obtain ⟨hO3, he10⟩ := he10
      refine L_op0 (X_store (b := b2) (o := 1) T22 rfl rfl (hNk2.1.sv.one) hB2 (by show (1 : Nat) < 5; decide) ?_)
      intro w11 hu11 hb11
      have hz11 := hu11.size
      replace hB1 := hB1.upd hu11 fun h => by have h : b1 = b2 := h; omega
      replace hs := hs.upd hu11 fun i h1 h2 h => by have h : i = b2 := h; omega
      replace hU := hU.trans (hu11.mono fun i _ h => by have h : i = b2 := h; show n0 ≤ i; omega)
      replace hNk2 := hNk2.upd hu11 fun i h1 h2 h => by have h : i = b2 := h; omega
      replace hNv2 := hNv2.upd hu11 fun i h1 h2 h => by have h : i = b2 := h; omega
      replace hB2 : Blk w11 b2 #[(.int .u32 (s.tx)), (val 5), vv, (.int .u8 (s.mr)), (.int .u8 (s.lv))] 27 := hb11
      refine L_op rfl (X_fldP (b := b2) (o := 0) (r := 2) Fd27_2 rfl rfl ?_)
      refine L_op0 (X_store (b := b2) (o := 2) T22 rfl rfl (hNv2.1.sv.one) hB2 (by show (2 : Nat) < 5; decide) ?_)
      intro w12 hu12 hb12
      have hz12 := hu12.size
      replace hB1 := hB1.upd hu12 fun h => by have h : b1 = b2 := h; omega
      replace hs := hs.upd hu12 fun i h1 h2 h => by have h : i = b2 := h; omega
      replace hU := hU.trans (hu12.mono fun i _ h => by have h : i = b2 := h; show n0 ≤ i; omega)
      replace hNk2 := hNk2.upd hu12 fun i h1 h2 h => by have h : i = b2 := h; omega
      replace hNv2 := hNv2.upd hu12 fun i h1 h2 h => by have h : i = b2 := h; omega
      replace hB2 : Blk w12 b2 #[(.int .u32 (s.tx)), (val 5), (val 12), (.int .u8 (s.mr)), (.int .u8 (s.lv))] 27 := hb12
      refine L_nil ?_
      refine B_n ?_
      refine T_n ?_
      refine W_reg ?_
      refine L_op rfl (X_arith (k := .i64) (a := ((i : Nat) : Int)) (b := 1) (r := ((i + 1 : Nat) : Int)) rfl rfl rfl (iadd64 (by omega) (by omega) (by omega)) ?_)
      refine L_op rfl (X_move (v := (.int .i64 (((i + 1 : Nat) : Int)))) rfl ?_)
      refine L_nil ?_
      refine T_n ?_
      exact ⟨rfl, (i + 1, val 5, ks ++ [(val 3, e.2)], val 12, vs ++ [(val 10, f.2)]), ⟨⟨hi, hB1, hB2, hNk2.mono (Nat.le_refl _) (by omega), hNv2.mono (Nat.le_refl _) (by omega), hap2, by rw [bl_push, hks, wo_more (bl_at hei) hc9], by rw [bl_push, hvs, wo_more (bl_at hfi) hc9], hs, hU⟩, (by show s.ks.length - (i + 1) < s.ks.length - i; omega)⟩, (Out.mk rfl), ⟨rfl, trivial⟩⟩
    · refine L_op rfl (X_cmp (k := .i64) (a := ((i : Nat) : Int)) (b := n) (r := false) rfl rfl rfl (decide_eq_false (p := ((((i : Nat) : Int)) : Int) ≠ ((n) : Int)) (by omega)) ?_)
      refine L_nil ?_
      refine T_n ?_
      refine W_cf rfl ?_
      refine W_skip ?_
      refine B_n ?_
      refine T_n ?_
      refine W_reg ?_
      refine L_op rfl (X_arith (k := .i64) (a := ((i : Nat) : Int)) (b := 1) (r := ((i + 1 : Nat) : Int)) rfl rfl rfl (iadd64 (by omega) (by omega) (by omega)) ?_)
      refine L_op rfl (X_move (v := (.int .i64 (((i + 1 : Nat) : Int)))) rfl ?_)
      refine L_nil ?_
      refine T_n ?_
      exact ⟨rfl, (i + 1, kv, ks, vv, vs), ⟨⟨hi, hB1, hB2, hNk.mono (Nat.le_refl _) (by omega), hNv.mono (Nat.le_refl _) (by omega), hap, by rw [hks, wo_same (bl_at hei) (by omega)], by rw [hvs, wo_same (bl_at hfi_) (by omega)], hs, hU⟩, (by show s.ks.length - (i + 1) < s.ks.length - i; omega)⟩, (Out.mk rfl), ⟨rfl, trivial⟩⟩
  · refine L_op rfl (X_cmp (k := .i64) (a := ((i : Nat) : Int)) (b := ((s.ks.length : Nat) : Int)) (r := false) rfl rfl rfl (decide_eq_false (p := ((((i : Nat) : Int)) : Int) < ((((s.ks.length : Nat) : Int)) : Int)) (by omega)) ?_)
    have hie : i = s.ks.length := by omega
    have hlv := hs.len
    refine L_nil ?_
    refine T_n ?_
    refine W_seq ?_
    refine W_cf rfl ?_
    refine W_exit ?_
    refine T_e ?_
    refine T_e ?_
    refine B_x ?_
    refine T_n ?_
    refine W_seq ?_
    refine W_reg ?_
    refine L_op rfl (X_loadA (p := (ptr b2 (0))) (xs := [(.int .u32 (s.tx)), kv, vv, (.int .u8 (s.mr)), (.int .u8 (s.lv))]) A27 rfl hB2.atAll rfl ?_)
    refine L_op0 (X_storeW (b := b2) (ys := [(.int .u32 (s.tx)), kv, vv, (.int .u8 (s.mr)), (.int .u8 (s.lv))]) A27 rfl rfl (List.forall_mem_cons.2 ⟨rfl, (List.forall_mem_cons.2 ⟨(hNk.1.sv.one), (List.forall_mem_cons.2 ⟨(hNv.1.sv.one), (List.forall_mem_cons.2 ⟨rfl, (List.forall_mem_cons.2 ⟨rfl, (fun _ h => by cases h)⟩)⟩)⟩)⟩)⟩) rfl hB2 rfl ?_)
    intro w13 hu13 hb13
    have hz13 := hu13.size
    replace hB1 := hB1.upd hu13 fun h => by have h : b1 = b2 := h; omega
    replace hNk := hNk.upd hu13 fun i h1 h2 h => by have h : i = b2 := h; omega
    replace hNv := hNv.upd hu13 fun i h1 h2 h => by have h : i = b2 := h; omega
    replace hs := hs.upd hu13 fun i h1 h2 h => by have h : i = b2 := h; omega
    replace hU := hU.trans (hu13.mono fun i _ h => by have h : i = b2 := h; show n0 ≤ i; omega)
    replace hB2 : Blk w13 b2 #[(.int .u32 (s.tx)), kv, vv, (.int .u8 (s.mr)), (.int .u8 (s.lv))] 27 := hb13
    refine L_nil ?_
    refine T_n ?_
    refine W_ret ?_
    exact BQ_r (End_1 Tryd.results14 (RV_A A27 rfl hB2.atAll rfl) ⟨kv, ks, vv, vs, rfl, hNk.mono (by omega) (by omega), hNv.mono (by omega) (by omega), hap, by rw [hks, hie, List.take_of_length_le (Nat.le_of_eq (bl_len _))], by rw [hvs, hie, hlv, List.take_of_length_le (Nat.le_of_eq (bl_len _))], hU.own hn0⟩)
end Go.Proofs.YthncpmablodbjaaDoor
