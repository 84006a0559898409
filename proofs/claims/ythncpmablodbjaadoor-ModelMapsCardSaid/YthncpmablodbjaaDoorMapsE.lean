/-
  Maps of the model: Drop, Put. (Printed by wip/gen/t31e.py of this repo.)
-/
import Derived.Test.YthncpmablodbjaaDoorMapsD
import Derived.Test.YthncpmablodbjaaDoorBaseM
namespace Go.Proofs.YthncpmablodbjaaDoor
open Go Go.SL Go.Proofs
set_option linter.unusedVariables false

/-- a row with one more at a place -/
def insD {α : Type} (l : List α) (n : Nat) (x : α) : List α := l.take n ++ x :: l.drop n
theorem bl_ins (es : List BE) (n : Nat) (e : BE) : bl (insD es n e) = insD (bl es) n e.2 := by
  unfold insD bl
  rw [List.map_append, List.map_cons, List.map_take, List.map_drop]
theorem ins_len {α : Type} {l : List α} {n : Nat} {x : α} (h : n ≤ l.length) : (insD l n x).length = l.length + 1 := by
  unfold insD
  rw [List.length_append, List.length_cons, List.length_take, List.length_drop]; omega
theorem ins_mem {α : Type} {l : List α} {n : Nat} {x y : α} (h : y ∈ insD l n x) : y = x ∨ y ∈ l := by
  rcases List.mem_append.1 h with h | h
  · exact .inr (List.mem_of_mem_take h)
  · rcases List.mem_cons.1 h with h | h
    · exact .inl h
    · exact .inr (List.mem_of_mem_drop h)
/-- the place that falls away -/
def goneD (ks : List B) (m : B) : Int := if (atD ks m).2 = true then ((atD ks m).1 : Int) else -1
def putK (ks : List B) (m : B) : List B := insD (woD ks (goneD ks m)) (atD ks m).1 m
def putV (ks vs : List B) (m x : B) : List B := insD (woD vs (goneD ks m)) (atD ks m).1 x
def dropK (ks : List B) (m : B) : List B := woD ks (goneD ks m)
def dropV (ks vs : List B) (m : B) : List B := woD vs (goneD ks m)
theorem gone_t {ks : List B} {m : B} {a : Nat} (h : atD ks m = (a, true)) : goneD ks m = (a : Int) := by unfold goneD; rw [h]; rfl
theorem gone_f {ks : List B} {m : B} {a : Nat} (h : atD ks m = (a, false)) : goneD ks m = -1 := by unfold goneD; rw [h]; rfl
theorem gone_len {ks : List B} {m : B} : (atD ks m).1 ≤ (woD ks (goneD ks m)).length := by
  unfold goneD
  split
  · rename_i h
    have := at_lt h
    unfold woD
    rw [if_neg (by omega), List.length_append, List.length_take, List.length_drop, Int.toNat_natCast]; omega
  · unfold woD
    rw [if_pos (by decide)]
    exact at_le m ks
theorem nown_ins {w w' : World} {er eb lo hi hi' k : Nat} {v v5 : Value} {es : List BE} {e : BE} (hne : er ≠ eb) (h : NOwn LB w er eb lo hi v es) (hO : Own w' lo er 1 v5 ((es.map (·.1)).length + 1) ((es.map (·.1)).take k ++ e.1 :: (es.map (·.1)).drop k)) (hk : k ≤ es.length) (hu : Upd (fun b => obk v = some b) w w')
    (hb : BOwn w eb lo hi' e) (hh : hi ≤ w'.heap.size) (hh' : hi' ≤ w'.heap.size) : NOwn LB w' er eb lo w'.heap.size v5 (insD es k e) := by
  have hO' : Own w' lo er 1 v5 (insD es k e).length ((insD es k e).flatMap LB.cel) := hO.eq (by rw [ins_len hk, List.length_map]) (by rw [LB_flat]; unfold insD; rw [List.map_append, List.map_cons, List.map_take, List.map_drop])
  refine ⟨hO', fun b hb' => (hO'.lt hb').2, fun a ha s hs => ?_⟩
  have hs' : s = a := by simpa [LB] using hs
  subst hs'
  rcases ins_mem ha with rfl | ha
  · exact (show BOwn w' eb lo hi' s from ⟨hb.1.upd hu fun b h1 h2 => hne (h.1.types hb.1 h2 h1), hb.2⟩).mono (Nat.le_refl _) hh'
  · exact (h.sub_keep hne ha hs hu).mono (Nat.le_refl _) hh
theorem Dj.ins {v v' u : Value} {es : List BE} {e : BE} {k : Nat} (h : Dj v es u) (h1 : ∀ b, obk v' = some b → obk u ≠ some b) (h2 : ∀ b, obk e.1 = some b → obk u ≠ some b) : Dj v' (insD es k e) u :=
  ⟨h1, fun a ha b hb => by
    rcases ins_mem ha with rfl | ha
    · exact h2 b hb
    · exact h.2 a ha b hb⟩
theorem nownB {w w' : World} {er eb lo hi b t : Nat} {v : Value} {cs : Array Value} {es : List BE} (h : NOwn LB w er eb lo hi v es) (hb : Blk w b cs t) (hu : Upd (fun i => i = b) w w') (ht : er ≠ t) (ht2 : eb ≠ t) : NOwn LB w' er eb lo hi v es := by
  have key : ∀ {B e n : Nat} {v : Value} {xs : List Value}, Own w B e 1 v n xs → e ≠ t → Own w' B e 1 v n xs := fun ho he => ho.upd hu (by
    rintro b' hb' rfl
    obtain ⟨c, h1⟩ := ho.block hb'
    unfold Blk at h1 hb
    rw [h1] at hb
    simp only [Option.some.injEq, Obj.cells.injEq] at hb
    exact he hb.2.1)
  exact ⟨key h.1 ht, h.2.1, fun e he s hs => ⟨key (h.2.2 e he s hs).1 ht2, (h.2.2 e he s hs).2⟩⟩
theorem nown_one {w : World} {er eb lo hi : Nat} {v : Value} {es : List BE} (h : NOwn LB w er eb lo hi v es) : ∀ u ∈ es.map (·.1), u.oneCell' = true := fun u hu => by
  obtain ⟨e, he, rfl⟩ := List.mem_map.1 hu
  exact (h.2.2 e he e (by simp [LB])).1.sv.one
/-- its rows are of its own -/
structure Sn.Ow (w : World) (lo hi : Nat) (s : Sn) : Prop where
  k : NOwn LB w 23 5 lo hi s.kv s.ks
  v : NOwn LB w 23 5 lo hi s.vv s.vs
  len : s.ks.length = s.vs.length
  ok : LOK (bl s.ks)
  ov : LOK (bl s.vs)
  sm : s.ks.length ≤ 1048576
theorem Sn.Ow.rd {w : World} {lo hi : Nat} {s : Sn} (h : s.Ow w lo hi) : s.R w lo hi := ⟨h.k.rd, h.v.rd, h.len, h.ok.b, h.ov.b, h.sm⟩
theorem Sn.Ow.mono {w : World} {lo hi lo' hi' : Nat} {s : Sn} (h : s.Ow w lo hi) (h1 : lo' ≤ lo) (h2 : hi ≤ hi') : s.Ow w lo' hi' := ⟨h.k.mono h1 h2, h.v.mono h1 h2, h.len, h.ok, h.ov, h.sm⟩
/-- the rows that a map is made of -/
theorem Sn.R.of {w : World} {lo hi lo' hi' : Nat} {s : Sn} (hk : NOwn LB w 23 5 lo hi s.kv s.ks) (hv : NOwn LB w 23 5 lo' hi' s.vv s.vs) (hl : s.ks.length = s.vs.length) (ok : LOK (bl s.ks)) (ov : LOK (bl s.vs)) (sm : s.ks.length ≤ 1048576) {l h : Nat} (h1 : l ≤ lo) (h2 : hi ≤ h) (h3 : l ≤ lo') (h4 : hi' ≤ h) : s.R w l h :=
  ⟨hk.rd.mono h1 h2, hv.rd.mono h3 h4, hl, ok.b, ov.b, sm⟩

theorem c_drop (s : Sn) (w : World) (lo up : Nat) (hup : up ≤ w.heap.size) (hs : s.R w lo up) (key : Value) (m : B) (hm : m.length ≤ 140737488355328) (hk : Rd w 1 key m.length (m.map byteV)) : CT Tryd.prog 6 #[(.agg #[(.int .u32 (s.tx)), s.kv, s.vv, (.int .u8 (s.mr)), (.int .u8 (s.lv))]), key] w fun v w' => ∃ (o : Sn) (t : Bool), v = .tuple #[.agg #[.int .u32 o.tx, o.kv, o.vv, .int .u8 o.mr, .int .u8 o.lv], .bool t] ∧ (o.Ow w' w.heap.size w'.heap.size ∧ o.tx = s.tx ∧ o.mr = s.mr ∧ o.lv = s.lv) ∧ ((atD (bl s.ks) m).2 = t) ∧ bl o.ks = (dropK (bl s.ks) m) ∧ bl o.vs = (dropV (bl s.ks) (bl s.vs) m) ∧ Ext w w' := by
  obtain ⟨n0, hn0⟩ : ∃ n, n = w.heap.size := ⟨_, rfl⟩
  have hU : Upd (fun i => n0 ≤ i) w w := Upd.refl _ _
  have hk_b : ∀ i, rbk key = some i → i < n0 := by rw [hn0]; exact fun i hi => hk.bound (by decide) hi
  rw [← hn0] at hup
  refine CT_of Tryd.func6 rfl rfl rfl ?_
  refine W_seq ?_
  refine W_reg ?_
  refine L_op rfl (X_box (v := (.agg #[(.int .u32 (s.tx)), s.kv, s.vv, (.int .u8 (s.mr)), (.int .u8 (s.lv))])) (c := ([(.int .u32 (s.tx)), s.kv, s.vv, (.int .u8 (s.mr)), (.int .u8 (s.lv))]).toArray) rfl rfl ?_)
  intro b1 w1 hn1
  have hbn1 := hn1.num; have hbs1 := hn1.size
  replace hs := hs.ext hn1.ext
  replace hk := hk.ext hn1.ext
  replace hU := hU.trans (Ext.upd hn1.ext)
  have hB1 := hn1.blk
  refine L_op rfl (X_alloc (z := (.agg #[(.int .u32 (0)), (.slice none 0 0), (.slice none 0 0), (.int .u8 (0)), (.int .u8 (0))])) (c := #[(.int .u32 (0)), (.slice none 0 0), (.slice none 0 0), (.int .u8 (0)), (.int .u8 (0))]) Zv27 rfl ?_)
  intro b2 w2 hn2
  have hbn2 := hn2.num; have hbs2 := hn2.size
  replace hs := hs.ext hn2.ext
  replace hk := hk.ext hn2.ext
  replace hU := hU.trans (Ext.upd hn2.ext)
  replace hB1 := hB1.ext hn2.ext
  have hB2 := hn2.blk
  refine L_op rfl (X_assign (v := (.bool (false))) rfl ?_)
  refine L_nil ?_
  refine T_n ?_
  refine W_seq ?_
  refine W_reg ?_
  refine L_op rfl (X_loadA (p := (ptr b1 (0))) (xs := [(.int .u32 (s.tx)), s.kv, s.vv, (.int .u8 (s.mr)), (.int .u8 (s.lv))]) A27 rfl hB1.atAll rfl ?_)
  refine L_op rfl (X_move (v := key) rfl ?_)
  have hcr_ := c_at s w2 lo up (by omega) hs key m hm hk
  refine L_op rfl (X_fn (vs := [(.agg ([(.int .u32 (s.tx)), s.kv, s.vv, (.int .u8 (s.mr)), (.int .u8 (s.lv))]).toArray), key]) en12 rfl ?_)
  refine CT.mono hcr_ ?_
  clear hcr_
  rintro _ w3 ⟨pa, pt, rfl, hpe, hu3⟩
  have hz3 := hu3.size
  replace hs := hs.ext hu3
  replace hk := hk.ext hu3
  replace hU := hU.trans (Ext.upd hu3)
  replace hB1 := hB1.ext hu3
  replace hB2 := hB2.ext hu3
  have hal := at_le m (bl s.ks)
  rw [bl_len, hpe] at hal
  replace hal : pa ≤ s.ks.length := hal
  refine L_op rfl (X_move (v := (.tuple #[(.int .i64 (((pa : Nat) : Int))), (.bool (pt))])) rfl ?_)
  refine L_op rfl (X_extract (l := [(.int .i64 (((pa : Nat) : Int))), (.bool (pt))]) (v := (.int .i64 (((pa : Nat) : Int)))) rfl rfl ?_)
  refine L_op rfl (X_extract (l := [(.int .i64 (((pa : Nat) : Int))), (.bool (pt))]) (v := (.bool (pt))) rfl rfl ?_)
  refine L_op rfl (X_assign (v := (.int .i64 (((pa : Nat) : Int)))) rfl ?_)
  refine L_op rfl (X_assign (v := (.bool (pt))) rfl ?_)
  refine L_nil ?_
  refine T_n ?_
  refine W_seq ?_
  refine W_seq ?_
  refine W_reg ?_
  rcases Bool.eq_false_or_eq_true pt with hb | hb
  · subst hb
    have hlt := at_lt (l := bl s.ks) (m := m) (by rw [hpe])
    rw [hpe, bl_len] at hlt
    replace hlt : pa < s.ks.length := hlt
    have hlv := hs.len
    refine L_op rfl (X_move (v := (.bool (true))) rfl ?_)
    refine L_op rfl (X_not (b := true) (r := false) rfl rfl ?_)
    refine L_nil ?_
    refine T_n ?_
    refine W_cf rfl ?_
    refine W_skip ?_
    refine T_n ?_
    refine W_seq ?_
    refine W_reg ?_
    refine L_op rfl (X_loadA (p := (ptr b1 (0))) (xs := [(.int .u32 (s.tx)), s.kv, s.vv, (.int .u8 (s.mr)), (.int .u8 (s.lv))]) A27 rfl hB1.atAll rfl ?_)
    refine L_op rfl (X_move (v := (.int .i64 (((pa : Nat) : Int)))) rfl ?_)
    obtain ⟨M0, hM0⟩ : ∃ n, n = w3.heap.size := ⟨_, rfl⟩
    have hcr_ := c_without s w3 lo up (by omega) hs (((pa : Nat) : Int))
    refine L_op rfl (X_fn (vs := [(.agg ([(.int .u32 (s.tx)), s.kv, s.vv, (.int .u8 (s.mr)), (.int .u8 (s.lv))]).toArray), (.int .i64 (((pa : Nat) : Int)))]) en14 rfl ?_)
    refine CT.mono hcr_ ?_
    clear hcr_
    rintro _ w4 ⟨kv, ks, vv, vs, rfl, hNk, hNv, hap, hks, hvs, hu4⟩
    have hz4 := hu4.size
    obtain ⟨M1, hM1⟩ : ∃ n, n = w4.heap.size := ⟨_, rfl⟩
    rw [← hM0, ← hM1] at hNk hNv
    replace hs := hs.ext hu4
    replace hk := hk.ext hu4
    replace hU := hU.trans (Ext.upd hu4)
    replace hB1 := hB1.ext hu4
    replace hB2 := hB2.ext hu4
    refine L_op rfl (X_move (v := (.bool (true))) rfl ?_)
    refine L_op0 (X_storeW (b := b2) (ys := [(.int .u32 (s.tx)), kv, vv, (.int .u8 (s.mr)), (.int .u8 (s.lv))]) A27 rfl rfl (List.forall_mem_cons.2 ⟨rfl, (List.forall_mem_cons.2 ⟨(hNk.1.sv.one), (List.forall_mem_cons.2 ⟨(hNv.1.sv.one), (List.forall_mem_cons.2 ⟨rfl, (List.forall_mem_cons.2 ⟨rfl, (fun _ h => by cases h)⟩)⟩)⟩)⟩)⟩) rfl hB2 rfl ?_)
    intro w5 hu5 hb5
    have hz5 := hu5.size
    replace hs := hs.upd hu5 fun i h1 h2 h => by have h : i = b2 := h; omega
    replace hk := hk.upd hu5 fun i hi h => by have hi := hk_b _ hi; have h : i = b2 := h; omega
    replace hU := hU.trans (hu5.mono fun i _ h => by have h : i = b2 := h; show n0 ≤ i; omega)
    replace hB1 := hB1.upd hu5 fun h => by have h : b1 = b2 := h; omega
    replace hNk := hNk.upd hu5 fun i h1 h2 h => by have h : i = b2 := h; omega
    replace hNv := hNv.upd hu5 fun i h1 h2 h => by have h : i = b2 := h; omega
    replace hB2 : Blk w5 b2 #[(.int .u32 (s.tx)), kv, vv, (.int .u8 (s.mr)), (.int .u8 (s.lv))] 27 := hb5
    refine L_op rfl (X_assign (v := (.bool (true))) rfl ?_)
    refine L_nil ?_
    refine T_n ?_
    refine W_ret ?_
    have hdk : bl ks = (dropK (bl s.ks) m) := by rw [hks]; unfold dropK; rw [gone_t hpe]
    have hdv : bl vs = (dropV (bl s.ks) (bl s.vs) m) := by rw [hvs]; unfold dropV; rw [gone_t hpe]
    have hlk := congrArg List.length hks
    have hlv_ := congrArg List.length hvs
    rw [bl_len] at hlk hlv_
    have hsm := hs.sm
    have hwl := wo_len_le (l := bl s.ks) (n := ((pa : Nat) : Int))
    rw [bl_len] at hwl
    exact BQ_r (End_2 Tryd.results6 (RV_A A27 rfl hB2.atAll rfl) (v2 := .bool true) rfl ⟨⟨s.tx, kv, ks, vv, vs, s.mr, s.lv⟩, true, rfl, ⟨⟨hNk.mono (by omega) (by omega), hNv.mono (by omega) (by omega), (by show ks.length = vs.length; rw [hlk, hlv_]; exact wo_len_eq (by rw [bl_len, bl_len]; exact hs.len)), (by show LOK (bl ks); rw [hks]; exact hs.ok.l.sub fun x hx => wo_mem hx), (by show LOK (bl vs); rw [hvs]; exact hs.ov.l.sub fun x hx => wo_mem hx), (by show ks.length ≤ 1048576; omega)⟩, rfl, rfl, rfl⟩, by rw [hpe], hdk, hdv, hU.own hn0⟩)
  · subst hb
    refine L_op rfl (X_move (v := (.bool (false))) rfl ?_)
    refine L_op rfl (X_not (b := false) (r := true) rfl rfl ?_)
    refine L_nil ?_
    refine T_n ?_
    refine W_ct rfl ?_
    refine W_reg ?_
    refine L_op rfl (X_assign (v := (.int .i64 (-1))) rfl ?_)
    refine L_nil ?_
    refine T_n ?_
    refine W_seq ?_
    refine W_reg ?_
    refine L_op rfl (X_loadA (p := (ptr b1 (0))) (xs := [(.int .u32 (s.tx)), s.kv, s.vv, (.int .u8 (s.mr)), (.int .u8 (s.lv))]) A27 rfl hB1.atAll rfl ?_)
    refine L_op rfl (X_move (v := (.int .i64 (-1))) rfl ?_)
    obtain ⟨M0, hM0⟩ : ∃ n, n = w3.heap.size := ⟨_, rfl⟩
    have hcr_ := c_without s w3 lo up (by omega) hs (-1)
    refine L_op rfl (X_fn (vs := [(.agg ([(.int .u32 (s.tx)), s.kv, s.vv, (.int .u8 (s.mr)), (.int .u8 (s.lv))]).toArray), (.int .i64 (-1))]) en14 rfl ?_)
    refine CT.mono hcr_ ?_
    clear hcr_
    rintro _ w6 ⟨kv, ks, vv, vs, rfl, hNk, hNv, hap, hks, hvs, hu6⟩
    have hz6 := hu6.size
    obtain ⟨M1, hM1⟩ : ∃ n, n = w6.heap.size := ⟨_, rfl⟩
    rw [← hM0, ← hM1] at hNk hNv
    replace hs := hs.ext hu6
    replace hk := hk.ext hu6
    replace hU := hU.trans (Ext.upd hu6)
    replace hB1 := hB1.ext hu6
    replace hB2 := hB2.ext hu6
    refine L_op rfl (X_move (v := (.bool (false))) rfl ?_)
    refine L_op0 (X_storeW (b := b2) (ys := [(.int .u32 (s.tx)), kv, vv, (.int .u8 (s.mr)), (.int .u8 (s.lv))]) A27 rfl rfl (List.forall_mem_cons.2 ⟨rfl, (List.forall_mem_cons.2 ⟨(hNk.1.sv.one), (List.forall_mem_cons.2 ⟨(hNv.1.sv.one), (List.forall_mem_cons.2 ⟨rfl, (List.forall_mem_cons.2 ⟨rfl, (fun _ h => by cases h)⟩)⟩)⟩)⟩)⟩) rfl hB2 rfl ?_)
    intro w7 hu7 hb7
    have hz7 := hu7.size
    replace hs := hs.upd hu7 fun i h1 h2 h => by have h : i = b2 := h; omega
    replace hk := hk.upd hu7 fun i hi h => by have hi := hk_b _ hi; have h : i = b2 := h; omega
    replace hU := hU.trans (hu7.mono fun i _ h => by have h : i = b2 := h; show n0 ≤ i; omega)
    replace hB1 := hB1.upd hu7 fun h => by have h : b1 = b2 := h; omega
    replace hNk := hNk.upd hu7 fun i h1 h2 h => by have h : i = b2 := h; omega
    replace hNv := hNv.upd hu7 fun i h1 h2 h => by have h : i = b2 := h; omega
    replace hB2 : Blk w7 b2 #[(.int .u32 (s.tx)), kv, vv, (.int .u8 (s.mr)), (.int .u8 (s.lv))] 27 := hb7
    refine L_op rfl (X_assign (v := (.bool (false))) rfl ?_)
    refine L_nil ?_
    refine T_n ?_
    refine W_ret ?_
    have hdk : bl ks = (dropK (bl s.ks) m) := by rw [hks]; unfold dropK; rw [gone_f hpe]
    have hdv : bl vs = (dropV (bl s.ks) (bl s.vs) m) := by rw [hvs]; unfold dropV; rw [gone_f hpe]
    have hlk := congrArg List.length hks
    have hlv_ := congrArg List.length hvs
    rw [bl_len] at hlk hlv_
    have hsm := hs.sm
    have hwl := wo_len_le (l := bl s.ks) (n := (-1))
    rw [bl_len] at hwl
    exact BQ_r (End_2 Tryd.results6 (RV_A A27 rfl hB2.atAll rfl) (v2 := .bool false) rfl ⟨⟨s.tx, kv, ks, vv, vs, s.mr, s.lv⟩, false, rfl, ⟨⟨hNk.mono (by omega) (by omega), hNv.mono (by omega) (by omega), (by show ks.length = vs.length; rw [hlk, hlv_]; exact wo_len_eq (by rw [bl_len, bl_len]; exact hs.len)), (by show LOK (bl ks); rw [hks]; exact hs.ok.l.sub fun x hx => wo_mem hx), (by show LOK (bl vs); rw [hvs]; exact hs.ov.l.sub fun x hx => wo_mem hx), (by show ks.length ≤ 1048576; omega)⟩, rfl, rfl, rfl⟩, by rw [hpe], hdk, hdv, hU.own hn0⟩)

theorem c_put (s : Sn) (w : World) (lo up : Nat) (hup : up ≤ w.heap.size) (hs : s.R w lo up) (key : Value) (m : B) (hm : m.length ≤ 140737488355328) (hk : Rd w 1 key m.length (m.map byteV)) (xv : Value) (x : B) (hxl : x.length ≤ 140737488355328) (hxv : Rd w 1 xv x.length (x.map byteV)) (hsm1 : s.ks.length < 1048576) : CT Tryd.prog 7 #[(.agg #[(.int .u32 (s.tx)), s.kv, s.vv, (.int .u8 (s.mr)), (.int .u8 (s.lv))]), key, xv] w fun v w' => ∃ o : Sn, v = .agg #[.int .u32 o.tx, o.kv, o.vv, .int .u8 o.mr, .int .u8 o.lv] ∧ (o.R w' w.heap.size w'.heap.size ∧ o.tx = s.tx ∧ o.mr = s.mr ∧ o.lv = s.lv) ∧ bl o.ks = (putK (bl s.ks) m) ∧ bl o.vs = (putV (bl s.ks) (bl s.vs) m x) ∧ Ext w w' := by
  obtain ⟨n0, hn0⟩ : ∃ n, n = w.heap.size := ⟨_, rfl⟩
  have hU : Upd (fun i => n0 ≤ i) w w := Upd.refl _ _
  have hk_b : ∀ i, rbk key = some i → i < n0 := by rw [hn0]; exact fun i hi => hk.bound (by decide) hi
  rw [← hn0] at hup
  have hxv_b : ∀ i, rbk xv = some i → i < n0 := by rw [hn0]; exact fun i hi => hxv.bound (by decide) hi
  refine CT_of Tryd.func7 rfl rfl rfl ?_
  refine W_seq ?_
  refine W_reg ?_
  refine L_op rfl (X_box (v := (.agg #[(.int .u32 (s.tx)), s.kv, s.vv, (.int .u8 (s.mr)), (.int .u8 (s.lv))])) (c := ([(.int .u32 (s.tx)), s.kv, s.vv, (.int .u8 (s.mr)), (.int .u8 (s.lv))]).toArray) rfl rfl ?_)
  intro b1 w1 hn1
  have hbn1 := hn1.num; have hbs1 := hn1.size
  replace hs := hs.ext hn1.ext
  replace hk := hk.ext hn1.ext
  replace hU := hU.trans (Ext.upd hn1.ext)
  replace hxv := hxv.ext hn1.ext
  have hB1 := hn1.blk
  refine L_op rfl (X_alloc (z := (.agg #[(.int .u32 (0)), (.slice none 0 0), (.slice none 0 0), (.int .u8 (0)), (.int .u8 (0))])) (c := #[(.int .u32 (0)), (.slice none 0 0), (.slice none 0 0), (.int .u8 (0)), (.int .u8 (0))]) Zv27 rfl ?_)
  intro b2 w2 hn2
  have hbn2 := hn2.num; have hbs2 := hn2.size
  replace hs := hs.ext hn2.ext
  replace hk := hk.ext hn2.ext
  replace hU := hU.trans (Ext.upd hn2.ext)
  replace hxv := hxv.ext hn2.ext
  replace hB1 := hB1.ext hn2.ext
  have hB2 := hn2.blk
  refine L_nil ?_
  refine T_n ?_
  refine W_seq ?_
  refine W_reg ?_
  refine L_op rfl (X_loadA (p := (ptr b1 (0))) (xs := [(.int .u32 (s.tx)), s.kv, s.vv, (.int .u8 (s.mr)), (.int .u8 (s.lv))]) A27 rfl hB1.atAll rfl ?_)
  refine L_op rfl (X_move (v := key) rfl ?_)
  have hcr_ := c_at s w2 lo up (by omega) hs key m hm hk
  refine L_op rfl (X_fn (vs := [(.agg ([(.int .u32 (s.tx)), s.kv, s.vv, (.int .u8 (s.mr)), (.int .u8 (s.lv))]).toArray), key]) en12 rfl ?_)
  refine CT.mono hcr_ ?_
  clear hcr_
  rintro _ w3 ⟨pa, pt, rfl, hpe, hu3⟩
  have hz3 := hu3.size
  replace hs := hs.ext hu3
  replace hk := hk.ext hu3
  replace hU := hU.trans (Ext.upd hu3)
  replace hxv := hxv.ext hu3
  replace hB1 := hB1.ext hu3
  replace hB2 := hB2.ext hu3
  have hal := at_le m (bl s.ks)
  rw [bl_len, hpe] at hal
  replace hal : pa ≤ s.ks.length := hal
  refine L_op rfl (X_move (v := (.tuple #[(.int .i64 (((pa : Nat) : Int))), (.bool (pt))])) rfl ?_)
  refine L_op rfl (X_extract (l := [(.int .i64 (((pa : Nat) : Int))), (.bool (pt))]) (v := (.int .i64 (((pa : Nat) : Int)))) rfl rfl ?_)
  refine L_op rfl (X_extract (l := [(.int .i64 (((pa : Nat) : Int))), (.bool (pt))]) (v := (.bool (pt))) rfl rfl ?_)
  refine L_op rfl (X_assign (v := (.int .i64 (((pa : Nat) : Int)))) rfl ?_)
  refine L_op rfl (X_assign (v := (.bool (pt))) rfl ?_)
  refine L_nil ?_
  refine T_n ?_
  refine W_seq ?_
  refine W_reg ?_
  refine L_op rfl (X_assign (v := (.int .i64 (-1))) rfl ?_)
  refine L_nil ?_
  refine T_n ?_
  refine W_seq ?_
  refine W_seq ?_
  refine W_reg ?_
  rcases Bool.eq_false_or_eq_true pt with hb | hb
  · subst hb
    have hlt := at_lt (l := bl s.ks) (m := m) (by rw [hpe])
    rw [hpe, bl_len] at hlt
    replace hlt : pa < s.ks.length := hlt
    have hlv := hs.len
    refine L_op rfl (X_move (v := (.bool (true))) rfl ?_)
    refine L_nil ?_
    refine T_n ?_
    refine W_ct rfl ?_
    refine W_reg ?_
    refine L_op rfl (X_move (v := (.int .i64 (((pa : Nat) : Int)))) rfl ?_)
    refine L_op rfl (X_assign (v := (.int .i64 (((pa : Nat) : Int)))) rfl ?_)
    refine L_nil ?_
    refine T_n ?_
    refine W_seq ?_
    refine W_reg ?_
    refine L_op rfl (X_loadA (p := (ptr b1 (0))) (xs := [(.int .u32 (s.tx)), s.kv, s.vv, (.int .u8 (s.mr)), (.int .u8 (s.lv))]) A27 rfl hB1.atAll rfl ?_)
    refine L_op rfl (X_move (v := (.int .i64 (((pa : Nat) : Int)))) rfl ?_)
    obtain ⟨M0, hM0⟩ : ∃ n, n = w3.heap.size := ⟨_, rfl⟩
    have hcr_ := c_without s w3 lo up (by omega) hs (((pa : Nat) : Int))
    refine L_op rfl (X_fn (vs := [(.agg ([(.int .u32 (s.tx)), s.kv, s.vv, (.int .u8 (s.mr)), (.int .u8 (s.lv))]).toArray), (.int .i64 (((pa : Nat) : Int)))]) en14 rfl ?_)
    refine CT.mono hcr_ ?_
    clear hcr_
    rintro _ w4 ⟨kv, ks, vv, vs, rfl, hNk, hNv, hap, hks, hvs, hu4⟩
    have hz4 := hu4.size
    obtain ⟨M1, hM1⟩ : ∃ n, n = w4.heap.size := ⟨_, rfl⟩
    rw [← hM0, ← hM1] at hNk hNv
    replace hs := hs.ext hu4
    replace hk := hk.ext hu4
    replace hU := hU.trans (Ext.upd hu4)
    replace hxv := hxv.ext hu4
    replace hB1 := hB1.ext hu4
    replace hB2 := hB2.ext hu4
    refine L_op rfl (X_alloc (z := (.agg #[(.int .u32 (0)), (.slice none 0 0), (.slice none 0 0), (.int .u8 (0)), (.int .u8 (0))])) (c := #[(.int .u32 (0)), (.slice none 0 0), (.slice none 0 0), (.int .u8 (0)), (.int .u8 (0))]) Zv27 rfl ?_)
    intro b5 w5 hn5
    have hbn5 := hn5.num; have hbs5 := hn5.size
    replace hs := hs.ext hn5.ext
    replace hk := hk.ext hn5.ext
    replace hU := hU.trans (Ext.upd hn5.ext)
    replace hxv := hxv.ext hn5.ext
    replace hB1 := hB1.ext hn5.ext
    replace hB2 := hB2.ext hn5.ext
    replace hNk := hNk.ext hn5.ext
    replace hNv := hNv.ext hn5.ext
    have hB5 := hn5.blk
    refine L_op0 (X_storeW (b := b5) (ys := [(.int .u32 (s.tx)), kv, vv, (.int .u8 (s.mr)), (.int .u8 (s.lv))]) A27 rfl rfl (List.forall_mem_cons.2 ⟨rfl, (List.forall_mem_cons.2 ⟨(hNk.1.sv.one), (List.forall_mem_cons.2 ⟨(hNv.1.sv.one), (List.forall_mem_cons.2 ⟨rfl, (List.forall_mem_cons.2 ⟨rfl, (fun _ h => by cases h)⟩)⟩)⟩)⟩)⟩) rfl hB5 rfl ?_)
    intro w6 hu6 hb6
    have hz6 := hu6.size
    replace hs := hs.upd hu6 fun i h1 h2 h => by have h : i = b5 := h; omega
    replace hk := hk.upd hu6 fun i hi h => by have hi := hk_b _ hi; have h : i = b5 := h; omega
    replace hU := hU.trans (hu6.mono fun i _ h => by have h : i = b5 := h; show n0 ≤ i; omega)
    replace hxv := hxv.upd hu6 fun i hi h => by have hi := hxv_b _ hi; have h : i = b5 := h; omega
    replace hB1 := hB1.upd hu6 fun h => by have h : b1 = b5 := h; omega
    replace hB2 := hB2.upd hu6 fun h => by have h : b2 = b5 := h; omega
    replace hNk := hNk.upd hu6 fun i h1 h2 h => by have h : i = b5 := h; omega
    replace hNv := hNv.upd hu6 fun i h1 h2 h => by have h : i = b5 := h; omega
    replace hB5 : Blk w6 b5 #[(.int .u32 (s.tx)), kv, vv, (.int .u8 (s.mr)), (.int .u8 (s.lv))] 27 := hb6
    refine L_nil ?_
    refine T_n ?_
    refine W_seq ?_
    obtain ⟨N7, hN7⟩ : ∃ n, n = w6.heap.size := ⟨_, rfl⟩
    have hkb : ∀ b, obk kv = some b → M0 ≤ b ∧ b < M1 := fun b hb => ⟨(hNk.1.lt hb).1, hNk.2.1 b hb⟩
    have hvb : ∀ b, obk vv = some b → M0 ≤ b ∧ b < M1 := fun b hb => ⟨(hNv.1.lt hb).1, hNv.2.1 b hb⟩
    have hub : ∀ b, (obk kv = some b) ∨ (obk vv = some b) → M0 ≤ b ∧ b < M1 := fun b hb => hb.elim (hkb b) (hvb b)
    have hDk : Dj kv ks vv := Dj.of (by decide) hNk hNv hap
    have hDv : Dj vv vs kv := Dj.of (by decide) hNv hNk fun b h1 h2 => hap b h2 h1
    have hgl := gone_len (ks := bl s.ks) (m := m)
    rw [hpe] at hgl
    rw [gone_t hpe] at hgl
    have hlk := congrArg List.length hks
    have hlv_ := congrArg List.length hvs
    rw [bl_len] at hlk hlv_
    replace hgl : pa ≤ ks.length := by rw [hlk]; exact hgl
    have hlkv : ks.length = vs.length := by rw [hlk, hlv_]; exact wo_len_eq (by rw [bl_len, bl_len]; exact hs.len)
    have hsm := hs.sm
    have hwl := wo_len_le (l := bl s.ks) (n := ((pa : Nat) : Int))
    rw [bl_len] at hwl
    refine W_drawS 15 [[], [0], [], [], [3], [3, 4], [0, 1, 2, 3, 4, 5], [], [7], [], [], [0, 1, 2, 3, 4, 5, 6, 10], [0, 1, 2, 3, 4, 5, 6, 10, 11], [0, 1, 2, 3, 4, 5, 6, 7, 8, 9, 10, 11, 12], [0, 1, 2, 3, 4, 5, 6, 7, 8], [0, 1, 2, 3, 4, 5, 6, 7, 8, 9, 10, 11, 12, 13, 14], [0, 1, 2, 3, 4, 5, 6, 7, 8, 9, 10, 11, 12, 13, 14, 15], [0, 1, 2, 3, 4, 5, 6, 7, 8, 9, 10, 11, 12, 13, 14, 15, 16]] (fun j b => (j = 6 ∧ obk kv = some b) ∨ (j = 13 ∧ obk vv = some b)) mixed (by kernel_rfl) ?_
    refine ⟨.det (fun val => (ptr b5 (1))), ⟨fun _ _ hv => rfl, fun _ _ _ _ _ => trivial⟩, fun val h_ W hx he => ⟨trivial, ?_⟩, ?_⟩
    · replace hx := (Upd.drew _ _).trans hx
      replace hx : Upd (fun b => False) w6 W := hx.mono fun b _ h_ => by obtain ⟨j, _, hne, hm_, hS⟩ := h_; rcases hS with ⟨rfl, hS⟩ | ⟨rfl, hS⟩; (· exact absurd hm_ (by decide)); (· exact absurd hm_ (by decide))
      replace hs := hs.ext hx
      replace hk := hk.ext hx
      replace hxv := hxv.ext hx
      replace hB1 := hB1.ext hx
      replace hB2 := hB2.ext hx
      replace hNk := hNk.ext hx
      replace hNv := hNv.ext hx
      replace hB5 := hB5.ext hx
      have hE := Upd.refl (fun _ => False) W
      refine id (X_fldP (b := b5) (o := 0) (r := 1) Fd27_1 rfl rfl ?_)
      exact ⟨Ext.upd hE, rfl⟩
    refine ⟨.det (fun val => kv), ⟨fun _ _ hv => rfl, fun _ _ _ _ _ => trivial⟩, fun val h_ W hx he => ⟨trivial, ?_⟩, ?_⟩
    · replace hx := (Upd.drew _ _).trans hx
      replace hx : Upd (fun b => False) w6 W := hx.mono fun b _ h_ => by obtain ⟨j, _, hne, hm_, hS⟩ := h_; rcases hS with ⟨rfl, hS⟩ | ⟨rfl, hS⟩; (· exact absurd hm_ (by decide)); (· exact absurd hm_ (by decide))
      replace hs := hs.ext hx
      replace hk := hk.ext hx
      replace hxv := hxv.ext hx
      replace hB1 := hB1.ext hx
      replace hB2 := hB2.ext hx
      replace hNk := hNk.ext hx
      replace hNv := hNv.ext hx
      replace hB5 := hB5.ext hx
      have hE := Upd.refl (fun _ => False) W
      refine id (X_load (p := (ptr b5 (1))) (v := kv) T22 rfl (hB5.at1 rfl) ?_)
      exact ⟨Ext.upd hE, rfl⟩
    refine ⟨.det (fun val => (.int .i64 (((pa : Nat) : Int)))), ⟨fun _ _ hv => rfl, fun _ _ _ _ _ => trivial⟩, fun val h_ W hx he => ⟨trivial, ?_⟩, ?_⟩
    · replace hx := (Upd.drew _ _).trans hx
      replace hx : Upd (fun b => False) w6 W := hx.mono fun b _ h_ => by obtain ⟨j, _, hne, hm_, hS⟩ := h_; rcases hS with ⟨rfl, hS⟩ | ⟨rfl, hS⟩; (· exact absurd hm_ (by decide)); (· exact absurd hm_ (by decide))
      replace hs := hs.ext hx
      replace hk := hk.ext hx
      replace hxv := hxv.ext hx
      replace hB1 := hB1.ext hx
      replace hB2 := hB2.ext hx
      replace hNk := hNk.ext hx
      replace hNv := hNv.ext hx
      replace hB5 := hB5.ext hx
      have hE := Upd.refl (fun _ => False) W
      refine id (X_move (v := (.int .i64 (((pa : Nat) : Int)))) rfl ?_)
      exact ⟨Ext.upd hE, rfl⟩
    refine ⟨.det (fun val => key), ⟨fun _ _ hv => rfl, fun _ _ _ _ _ => trivial⟩, fun val h_ W hx he => ⟨trivial, ?_⟩, ?_⟩
    · replace hx := (Upd.drew _ _).trans hx
      replace hx : Upd (fun b => False) w6 W := hx.mono fun b _ h_ => by obtain ⟨j, _, hne, hm_, hS⟩ := h_; rcases hS with ⟨rfl, hS⟩ | ⟨rfl, hS⟩; (· exact absurd hm_ (by decide)); (· exact absurd hm_ (by decide))
      replace hs := hs.ext hx
      replace hk := hk.ext hx
      replace hxv := hxv.ext hx
      replace hB1 := hB1.ext hx
      replace hB2 := hB2.ext hx
      replace hNk := hNk.ext hx
      replace hNv := hNv.ext hx
      replace hB5 := hB5.ext hx
      have hE := Upd.refl (fun _ => False) W
      refine id (X_move (v := key) rfl ?_)
      exact ⟨Ext.upd hE, rfl⟩
    refine ⟨.abs (fun _ x_ W_ => Own W_ N7 5 1 x_ m.length (m.map byteV)), ⟨fun _ _ _ => rfl, fun _ _ _ _ hu0 h => have hu : Upd (fun b => (obk kv = some b) ∨ (obk vv = some b)) _ _ := hu0.mono fun b _ h_ => (by obtain ⟨j, _, hne, hm_, hS⟩ := h_; rcases hS with ⟨rfl, hS⟩ | ⟨rfl, hS⟩; (· exact .inl hS); (· exact .inr (hS)))
       (Own.upd h hu fun b hb h9 => by have h1 := (Own.lt h hb).1; have h2 := hub b h9; omega)⟩, fun val h_ W hx he => ⟨trivial, ?_⟩, ?_⟩
    · replace hx := (Upd.drew _ _).trans hx
      replace hx : Upd (fun b => False) w6 W := hx.mono fun b _ h_ => by obtain ⟨j, _, hne, hm_, hS⟩ := h_; rcases hS with ⟨rfl, hS⟩ | ⟨rfl, hS⟩; (· exact absurd hm_ (by decide)); (· exact absurd hm_ (by decide))
      replace hs := hs.ext hx
      replace hk := hk.ext hx
      replace hxv := hxv.ext hx
      replace hB1 := hB1.ext hx
      replace hB2 := hB2.ext hx
      replace hNk := hNk.ext hx
      replace hNv := hNv.ext hx
      replace hB5 := hB5.ext hx
      have hE := Upd.refl (fun _ => False) W
      have hxs := hx.size
      have hcr_ := c_copied key m W hm hk
      refine X_fn (vs := [key]) en16 rfl ?_
      refine CT.mono hcr_ ?_
      rintro v9 w9 ⟨hO9, hu9⟩
      exact ⟨Ext.upd hu9, hO9.1.more (by omega)⟩
    refine ⟨.abs (fun val x_ W => ∃ b, x_ = .slice (some ⟨b, 0, none⟩) 1 1 ∧ N7 ≤ b ∧ Blk W b #[val 4] 23), ⟨fun _ _ hv => (by simp only [hv 4 rfl]), fun _ _ _ _ hu0 h => have hu : Upd (fun b => (obk kv = some b) ∨ (obk vv = some b)) _ _ := hu0.mono fun b _ h_ => (by obtain ⟨j, _, hne, hm_, hS⟩ := h_; rcases hS with ⟨rfl, hS⟩ | ⟨rfl, hS⟩; (· exact .inl hS); (· exact .inr (hS)))
       (by obtain ⟨b, e1, e2, e3⟩ := h; exact ⟨b, e1, e2, e3.upd hu fun h9 => by have h2 := hub b (by first | exact h9 | exact .inl h9 | exact .inr h9); omega⟩)⟩, fun val h_ W hx he => ⟨trivial, ?_⟩, ?_⟩
    · replace hx := (Upd.drew _ _).trans hx
      replace hx : Upd (fun b => False) w6 W := hx.mono fun b _ h_ => by obtain ⟨j, _, hne, hm_, hS⟩ := h_; rcases hS with ⟨rfl, hS⟩ | ⟨rfl, hS⟩; (· exact absurd hm_ (by decide)); (· exact absurd hm_ (by decide))
      replace hs := hs.ext hx
      replace hk := hk.ext hx
      replace hxv := hxv.ext hx
      replace hB1 := hB1.ext hx
      replace hB2 := hB2.ext hx
      replace hNk := hNk.ext hx
      replace hNv := hNv.ext hx
      replace hB5 := hB5.ext hx
      have hE := Upd.refl (fun _ => False) W
      obtain ⟨hO4, _⟩ := he
      have hxs := hx.size
      refine X_buildSlice1 (vs := [val 4]) S22 (by decide) rfl rfl (List.forall_mem_cons.2 ⟨hO4.sv.cells, fun _ h => by cases h⟩) ?_
      intro b9 w9 hn9
      have hb9 := hn9.num
      exact ⟨Ext.upd hn9.ext, b9, rfl, by omega, hn9.blk⟩
    refine ⟨.abs (fun val x_ W_ => ∃ u, NOwn LB W_ 23 5 M0 u x_ (insD ks pa (val 4, m)) ∧ u ≤ W_.heap.size ∧ Dj x_ (insD ks pa (val 4, m)) vv), ⟨fun _ _ hv => (by simp only [hv 4 rfl]), fun _ _ _ _ hu0 h => have hu : Upd (fun b => (obk vv = some b)) _ _ := hu0.mono fun b _ h_ => (by obtain ⟨j, _, hne, hm_, hS⟩ := h_; rcases hS with ⟨rfl, hS⟩ | ⟨rfl, hS⟩; (· exact absurd rfl hne); (· exact hS))
       (by obtain ⟨u9, h1, h2, h3⟩ := h; exact ⟨u9, NOwn.dj h1 h3 hu, Nat.le_trans h2 hu.size, h3⟩)⟩, fun val h_ W hx he => ⟨trivial, ?_⟩, ?_⟩
    · replace hx := (Upd.drew _ _).trans hx
      replace hx : Upd (fun b => False) w6 W := hx.mono fun b _ h_ => by obtain ⟨j, _, hne, hm_, hS⟩ := h_; rcases hS with ⟨rfl, hS⟩ | ⟨rfl, hS⟩; (· exact absurd rfl hne); (· exact absurd hm_ (by decide))
      replace hs := hs.ext hx
      replace hk := hk.ext hx
      replace hxv := hxv.ext hx
      replace hB1 := hB1.ext hx
      replace hB2 := hB2.ext hx
      replace hNk := hNk.ext hx
      replace hNv := hNv.ext hx
      replace hB5 := hB5.ext hx
      have hE := Upd.refl (fun _ => False) W
      obtain ⟨⟨bq5, hbq5, hnq5, hBq5⟩, hO4, _⟩ := he
      have hxs := hx.size
      have hcr_ := c_insert kv (ks.map (·.1)) (val 4) pa bq5 W M0 M1 (by omega) (by omega) (by rw [List.length_map]; omega) (by rw [List.length_map]; omega) (hNk.1.eq (List.length_map _).symm (LB_flat ks)) (nown_one hNk) hNk.2.1 hO4.sv.one hBq5 (by omega)
      refine X_fn (vs := [kv, .int .i64 ((pa : Nat) : Int), .slice (some ⟨bq5, 0, none⟩) 1 1]) en15 (by rw [← hbq5]; rfl) ?_
      refine CT.mono hcr_ ?_
      rintro v9 w9 ⟨hO9, hu9, ho9⟩
      have hz9 := hu9.size
      have hN9 := nown_ins (e := (val 4, m)) (hi' := W.heap.size) (by decide) hNk hO9 (by omega) hu9 ⟨hO4.more (by omega), fun b hb => (hO4.lt hb).2⟩ (by omega) (by omega)
      exact ⟨hu9.mono fun b _ h => .inl ⟨rfl, h⟩, _, hN9, Nat.le_refl _, hDk.ins (fun b hb hb2 => by rcases ho9 b hb with h | h; (· exact hap b h hb2); (· have := hvb b hb2; omega)) fun b hb hb2 => by have h1 := (hO4.lt hb).1; have h2 := hvb b hb2; omega⟩
    refine ⟨.det (fun val => (ptr b5 (2))), ⟨fun _ _ hv => rfl, fun _ _ _ _ _ => trivial⟩, fun val h_ W hx he => ⟨trivial, ?_⟩, ?_⟩
    · replace hx := (Upd.drew _ _).trans hx
      replace hx : Upd (fun b => (obk kv = some b)) w6 W := hx.mono fun b _ h_ => by obtain ⟨j, _, hne, hm_, hS⟩ := h_; rcases hS with ⟨rfl, hS⟩ | ⟨rfl, hS⟩; (· exact hS); (· exact absurd hm_ (by decide))
      replace hs := hs.upd hx fun i h1 h2 h => by have h1 := hkb i h; omega
      replace hk := hk.upd hx fun i hi h => by have hi := hk_b _ hi; have h1 := hkb i h; omega
      replace hxv := hxv.upd hx fun i hi h => by have hi := hxv_b _ hi; have h1 := hkb i h; omega
      replace hB1 := hB1.upd hx fun h => by have h1 := hkb b1 h; omega
      replace hB2 := hB2.upd hx fun h => by have h1 := hkb b2 h; omega
      replace hB5 := hB5.upd hx fun h => by have h1 := hkb b5 h; omega
      have hE := Upd.refl (fun _ => False) W
      refine id (X_fldP (b := b5) (o := 0) (r := 2) Fd27_2 rfl rfl ?_)
      exact ⟨Ext.upd hE, rfl⟩
    refine ⟨.det (fun val => vv), ⟨fun _ _ hv => rfl, fun _ _ _ _ _ => trivial⟩, fun val h_ W hx he => ⟨trivial, ?_⟩, ?_⟩
    · replace hx := (Upd.drew _ _).trans hx
      replace hx : Upd (fun b => (obk kv = some b)) w6 W := hx.mono fun b _ h_ => by obtain ⟨j, _, hne, hm_, hS⟩ := h_; rcases hS with ⟨rfl, hS⟩ | ⟨rfl, hS⟩; (· exact hS); (· exact absurd hm_ (by decide))
      replace hs := hs.upd hx fun i h1 h2 h => by have h1 := hkb i h; omega
      replace hk := hk.upd hx fun i hi h => by have hi := hk_b _ hi; have h1 := hkb i h; omega
      replace hxv := hxv.upd hx fun i hi h => by have hi := hxv_b _ hi; have h1 := hkb i h; omega
      replace hB1 := hB1.upd hx fun h => by have h1 := hkb b1 h; omega
      replace hB2 := hB2.upd hx fun h => by have h1 := hkb b2 h; omega
      replace hB5 := hB5.upd hx fun h => by have h1 := hkb b5 h; omega
      have hE := Upd.refl (fun _ => False) W
      refine id (X_load (p := (ptr b5 (2))) (v := vv) T22 rfl (hB5.at1 rfl) ?_)
      exact ⟨Ext.upd hE, rfl⟩
    refine ⟨.det (fun val => (.int .i64 (((pa : Nat) : Int)))), ⟨fun _ _ hv => rfl, fun _ _ _ _ _ => trivial⟩, fun val h_ W hx he => ⟨trivial, ?_⟩, ?_⟩
    · replace hx := (Upd.drew _ _).trans hx
      replace hx : Upd (fun b => (obk kv = some b)) w6 W := hx.mono fun b _ h_ => by obtain ⟨j, _, hne, hm_, hS⟩ := h_; rcases hS with ⟨rfl, hS⟩ | ⟨rfl, hS⟩; (· exact hS); (· exact absurd hm_ (by decide))
      replace hs := hs.upd hx fun i h1 h2 h => by have h1 := hkb i h; omega
      replace hk := hk.upd hx fun i hi h => by have hi := hk_b _ hi; have h1 := hkb i h; omega
      replace hxv := hxv.upd hx fun i hi h => by have hi := hxv_b _ hi; have h1 := hkb i h; omega
      replace hB1 := hB1.upd hx fun h => by have h1 := hkb b1 h; omega
      replace hB2 := hB2.upd hx fun h => by have h1 := hkb b2 h; omega
      replace hB5 := hB5.upd hx fun h => by have h1 := hkb b5 h; omega
      have hE := Upd.refl (fun _ => False) W
      refine id (X_move (v := (.int .i64 (((pa : Nat) : Int)))) rfl ?_)
      exact ⟨Ext.upd hE, rfl⟩
    refine ⟨.det (fun val => xv), ⟨fun _ _ hv => rfl, fun _ _ _ _ _ => trivial⟩, fun val h_ W hx he => ⟨trivial, ?_⟩, ?_⟩
    · replace hx := (Upd.drew _ _).trans hx
      replace hx : Upd (fun b => (obk kv = some b)) w6 W := hx.mono fun b _ h_ => by obtain ⟨j, _, hne, hm_, hS⟩ := h_; rcases hS with ⟨rfl, hS⟩ | ⟨rfl, hS⟩; (· exact hS); (· exact absurd hm_ (by decide))
      replace hs := hs.upd hx fun i h1 h2 h => by have h1 := hkb i h; omega
      replace hk := hk.upd hx fun i hi h => by have hi := hk_b _ hi; have h1 := hkb i h; omega
      replace hxv := hxv.upd hx fun i hi h => by have hi := hxv_b _ hi; have h1 := hkb i h; omega
      replace hB1 := hB1.upd hx fun h => by have h1 := hkb b1 h; omega
      replace hB2 := hB2.upd hx fun h => by have h1 := hkb b2 h; omega
      replace hB5 := hB5.upd hx fun h => by have h1 := hkb b5 h; omega
      have hE := Upd.refl (fun _ => False) W
      refine id (X_move (v := xv) rfl ?_)
      exact ⟨Ext.upd hE, rfl⟩
    refine ⟨.abs (fun _ x_ W_ => Own W_ N7 5 1 x_ x.length (x.map byteV)), ⟨fun _ _ _ => rfl, fun _ _ _ _ hu0 h => have hu : Upd (fun b => (obk vv = some b)) _ _ := hu0.mono fun b _ h_ => (by obtain ⟨j, _, hne, hm_, hS⟩ := h_; rcases hS with ⟨rfl, hS⟩ | ⟨rfl, hS⟩; (· exact absurd hm_ (by decide)); (· exact hS))
       (Own.upd h hu fun b hb h9 => by have h1 := (Own.lt h hb).1; have h2 := hub b (.inr h9); omega)⟩, fun val h_ W hx he => ⟨trivial, ?_⟩, ?_⟩
    · replace hx := (Upd.drew _ _).trans hx
      replace hx : Upd (fun b => (obk kv = some b)) w6 W := hx.mono fun b _ h_ => by obtain ⟨j, _, hne, hm_, hS⟩ := h_; rcases hS with ⟨rfl, hS⟩ | ⟨rfl, hS⟩; (· exact hS); (· exact absurd hm_ (by decide))
      replace hs := hs.upd hx fun i h1 h2 h => by have h1 := hkb i h; omega
      replace hk := hk.upd hx fun i hi h => by have hi := hk_b _ hi; have h1 := hkb i h; omega
      replace hxv := hxv.upd hx fun i hi h => by have hi := hxv_b _ hi; have h1 := hkb i h; omega
      replace hB1 := hB1.upd hx fun h => by have h1 := hkb b1 h; omega
      replace hB2 := hB2.upd hx fun h => by have h1 := hkb b2 h; omega
      replace hB5 := hB5.upd hx fun h => by have h1 := hkb b5 h; omega
      have hE := Upd.refl (fun _ => False) W
      have hxs := hx.size
      have hcr_ := c_copied xv x W hxl hxv
      refine X_fn (vs := [xv]) en16 rfl ?_
      refine CT.mono hcr_ ?_
      rintro v9 w9 ⟨hO9, hu9⟩
      exact ⟨Ext.upd hu9, hO9.1.more (by omega)⟩
    refine ⟨.abs (fun val x_ W => ∃ b, x_ = .slice (some ⟨b, 0, none⟩) 1 1 ∧ N7 ≤ b ∧ Blk W b #[val 11] 23), ⟨fun _ _ hv => (by simp only [hv 11 rfl]), fun _ _ _ _ hu0 h => have hu : Upd (fun b => (obk vv = some b)) _ _ := hu0.mono fun b _ h_ => (by obtain ⟨j, _, hne, hm_, hS⟩ := h_; rcases hS with ⟨rfl, hS⟩ | ⟨rfl, hS⟩; (· exact absurd hm_ (by decide)); (· exact hS))
       (by obtain ⟨b, e1, e2, e3⟩ := h; exact ⟨b, e1, e2, e3.upd hu fun h9 => by have h2 := hub b (by first | exact h9 | exact .inl h9 | exact .inr h9); omega⟩)⟩, fun val h_ W hx he => ⟨trivial, ?_⟩, ?_⟩
    · replace hx := (Upd.drew _ _).trans hx
      replace hx : Upd (fun b => (obk kv = some b)) w6 W := hx.mono fun b _ h_ => by obtain ⟨j, _, hne, hm_, hS⟩ := h_; rcases hS with ⟨rfl, hS⟩ | ⟨rfl, hS⟩; (· exact hS); (· exact absurd hm_ (by decide))
      replace hs := hs.upd hx fun i h1 h2 h => by have h1 := hkb i h; omega
      replace hk := hk.upd hx fun i hi h => by have hi := hk_b _ hi; have h1 := hkb i h; omega
      replace hxv := hxv.upd hx fun i hi h => by have hi := hxv_b _ hi; have h1 := hkb i h; omega
      replace hB1 := hB1.upd hx fun h => by have h1 := hkb b1 h; omega
      replace hB2 := hB2.upd hx fun h => by have h1 := hkb b2 h; omega
      replace hB5 := hB5.upd hx fun h => by have h1 := hkb b5 h; omega
      have hE := Upd.refl (fun _ => False) W
      obtain ⟨hO11, _⟩ := he
      have hxs := hx.size
      refine X_buildSlice1 (vs := [val 11]) S22 (by decide) rfl rfl (List.forall_mem_cons.2 ⟨hO11.sv.cells, fun _ h => by cases h⟩) ?_
      intro b9 w9 hn9
      have hb9 := hn9.num
      exact ⟨Ext.upd hn9.ext, b9, rfl, by omega, hn9.blk⟩
    refine ⟨.abs (fun val x_ W_ => ∃ u, NOwn LB W_ 23 5 M0 u x_ (insD vs pa (val 11, x)) ∧ u ≤ W_.heap.size), ⟨fun _ _ hv => (by simp only [hv 11 rfl]), fun _ _ _ _ hu0 h => have hu : Upd (fun b => False) _ _ := hu0.mono fun b _ h_ => (by obtain ⟨j, _, hne, hm_, hS⟩ := h_; rcases hS with ⟨rfl, hS⟩ | ⟨rfl, hS⟩; (· exact absurd hm_ (by decide)); (· exact absurd rfl hne))
       (by obtain ⟨u9, h1, h2⟩ := h; exact ⟨u9, NOwn.ext h1 hu, Nat.le_trans h2 hu.size⟩)⟩, fun val h_ W hx he => ⟨trivial, ?_⟩, ?_⟩
    · replace hx := (Upd.drew _ _).trans hx
      replace hx : Upd (fun b => (obk kv = some b)) w6 W := hx.mono fun b _ h_ => by obtain ⟨j, _, hne, hm_, hS⟩ := h_; rcases hS with ⟨rfl, hS⟩ | ⟨rfl, hS⟩; (· exact hS); (· exact absurd rfl hne)
      replace hs := hs.upd hx fun i h1 h2 h => by have h1 := hkb i h; omega
      replace hk := hk.upd hx fun i hi h => by have hi := hk_b _ hi; have h1 := hkb i h; omega
      replace hxv := hxv.upd hx fun i hi h => by have hi := hxv_b _ hi; have h1 := hkb i h; omega
      replace hB1 := hB1.upd hx fun h => by have h1 := hkb b1 h; omega
      replace hB2 := hB2.upd hx fun h => by have h1 := hkb b2 h; omega
      replace hB5 := hB5.upd hx fun h => by have h1 := hkb b5 h; omega
      have hE := Upd.refl (fun _ => False) W
      obtain ⟨⟨bq12, hbq12, hnq12, hBq12⟩, hO11, ⟨u6, hNk2, hu6_, hDj6⟩, _, hO4, _⟩ := he
      have hxs := hx.size
      have hNv_ := NOwn.dj hNv hDv hx
      have hcr_ := c_insert vv (vs.map (·.1)) (val 11) pa bq12 W M0 M1 (by omega) (by omega) (by rw [List.length_map]; omega) (by rw [List.length_map]; omega) (hNv_.1.eq (List.length_map _).symm (LB_flat vs)) (nown_one hNv_) hNv_.2.1 hO11.sv.one hBq12 (by omega)
      refine X_fn (vs := [vv, .int .i64 ((pa : Nat) : Int), .slice (some ⟨bq12, 0, none⟩) 1 1]) en15 (by rw [← hbq12]; rfl) ?_
      refine CT.mono hcr_ ?_
      rintro v9 w9 ⟨hO9, hu9, ho9⟩
      have hz9 := hu9.size
      have hN9 := nown_ins (e := (val 11, x)) (hi' := W.heap.size) (by decide) hNv_ hO9 (by omega) hu9 ⟨hO11.more (by omega), fun b hb => (hO11.lt hb).2⟩ (by omega) (by omega)
      exact ⟨hu9.mono fun b _ h => .inr ⟨rfl, h⟩, _, hN9, Nat.le_refl _⟩
    refine ⟨.det (fun val => (ptr b5 (1))), ⟨fun _ _ hv => rfl, fun _ _ _ _ _ => trivial⟩, fun val h_ W hx he => ⟨trivial, ?_⟩, ?_⟩
    · replace hx := (Upd.drew _ _).trans hx
      replace hx : Upd (fun b => (obk kv = some b) ∨ (obk vv = some b)) w6 W := hx.mono fun b _ h_ => by obtain ⟨j, _, hne, hm_, hS⟩ := h_; rcases hS with ⟨rfl, hS⟩ | ⟨rfl, hS⟩; (· exact .inl hS); (· exact .inr (hS))
      replace hs := hs.upd hx fun i h1 h2 h => by have h1 := hub i h; omega
      replace hk := hk.upd hx fun i hi h => by have hi := hk_b _ hi; have h1 := hub i h; omega
      replace hxv := hxv.upd hx fun i hi h => by have hi := hxv_b _ hi; have h1 := hub i h; omega
      replace hB1 := hB1.upd hx fun h => by have h1 := hub b1 h; omega
      replace hB2 := hB2.upd hx fun h => by have h1 := hub b2 h; omega
      replace hB5 := hB5.upd hx fun h => by have h1 := hub b5 h; omega
      have hE := Upd.refl (fun _ => False) W
      obtain ⟨⟨u6, hNk2, hu6_, hDj6⟩, he⟩ := he
      obtain ⟨⟨bq5, hbq5, hnq5, hBq5⟩, he⟩ := he
      obtain ⟨hO4, he⟩ := he
      refine id (X_fldP (b := b5) (o := 0) (r := 1) Fd27_1 rfl rfl ?_)
      exact ⟨Ext.upd hE, rfl⟩
    intro val W7 hx7 he7
    replace hx7 := (Upd.drew _ _).trans hx7
    replace hx7 : Upd (fun b => (obk kv = some b) ∨ (obk vv = some b)) w6 W7 := hx7.mono fun b _ h_ => by obtain ⟨j, _, hS⟩ := h_; rcases hS with ⟨rfl, hS⟩ | ⟨rfl, hS⟩; (· exact .inl hS); (· exact .inr (hS))
    have hz7 := hx7.size
    replace hs := hs.upd hx7 fun i h1 h2 h => by have h1 := hub i h; omega
    replace hk := hk.upd hx7 fun i hi h => by have hi := hk_b _ hi; have h1 := hub i h; omega
    replace hU := hU.trans (hx7.mono fun i _ h => by have h1 := hub i h; show n0 ≤ i; omega)
    replace hxv := hxv.upd hx7 fun i hi h => by have hi := hxv_b _ hi; have h1 := hub i h; omega
    replace hB1 := hB1.upd hx7 fun h => by have h1 := hub b1 h; omega
    replace hB2 := hB2.upd hx7 fun h => by have h1 := hub b2 h; omega
    replace hB5 := hB5.upd hx7 fun h => by have h1 := hub b5 h; omega
    obtain ⟨⟨u13, hNv2, hu13_⟩, he7⟩ := he7
    obtain ⟨⟨bq12, hbq12, hnq12, hBq12⟩, he7⟩ := he7
    obtain ⟨hO11, he7⟩ := he7
    obtain ⟨⟨u6, hNk2, hu6_, hDj6⟩, he7⟩ := he7
    obtain ⟨⟨bq5, hbq5, hnq5, hBq5⟩, he7⟩ := he7
    obtain ⟨hO4, he7⟩ := he7
    refine L_op0 (X_store (b := b5) (o := 1) T22 rfl rfl (hNk2.1.sv.one) hB5 (by show (1 : Nat) < 5; decide) ?_)
    intro w8 hu8 hb8
    have hz8 := hu8.size
    replace hs := hs.upd hu8 fun i h1 h2 h => by have h : i = b5 := h; omega
    replace hk := hk.upd hu8 fun i hi h => by have hi := hk_b _ hi; have h : i = b5 := h; omega
    replace hU := hU.trans (hu8.mono fun i _ h => by have h : i = b5 := h; show n0 ≤ i; omega)
    replace hxv := hxv.upd hu8 fun i hi h => by have hi := hxv_b _ hi; have h : i = b5 := h; omega
    replace hB1 := hB1.upd hu8 fun h => by have h : b1 = b5 := h; omega
    replace hB2 := hB2.upd hu8 fun h => by have h : b2 = b5 := h; omega
    replace hNk2 := nownB hNk2 hB5 hu8 (by decide) (by decide)
    replace hNv2 := nownB hNv2 hB5 hu8 (by decide) (by decide)
    replace hB5 : Blk w8 b5 #[(.int .u32 (s.tx)), (val 6), vv, (.int .u8 (s.mr)), (.int .u8 (s.lv))] 27 := hb8
    refine L_op rfl (X_fldP (b := b5) (o := 0) (r := 2) Fd27_2 rfl rfl ?_)
    refine L_op0 (X_store (b := b5) (o := 2) T22 rfl rfl (hNv2.1.sv.one) hB5 (by show (2 : Nat) < 5; decide) ?_)
    intro w9 hu9 hb9
    have hz9 := hu9.size
    replace hs := hs.upd hu9 fun i h1 h2 h => by have h : i = b5 := h; omega
    replace hk := hk.upd hu9 fun i hi h => by have hi := hk_b _ hi; have h : i = b5 := h; omega
    replace hU := hU.trans (hu9.mono fun i _ h => by have h : i = b5 := h; show n0 ≤ i; omega)
    replace hxv := hxv.upd hu9 fun i hi h => by have hi := hxv_b _ hi; have h : i = b5 := h; omega
    replace hB1 := hB1.upd hu9 fun h => by have h : b1 = b5 := h; omega
    replace hB2 := hB2.upd hu9 fun h => by have h : b2 = b5 := h; omega
    replace hNk2 := nownB hNk2 hB5 hu9 (by decide) (by decide)
    replace hNv2 := nownB hNv2 hB5 hu9 (by decide) (by decide)
    replace hB5 : Blk w9 b5 #[(.int .u32 (s.tx)), (val 6), (val 13), (.int .u8 (s.mr)), (.int .u8 (s.lv))] 27 := hb9
    refine L_nil ?_
    refine T_n ?_
    refine W_seq ?_
    refine W_reg ?_
    refine L_op rfl (X_loadA (p := (ptr b5 (0))) (xs := [(.int .u32 (s.tx)), (val 6), (val 13), (.int .u8 (s.mr)), (.int .u8 (s.lv))]) A27 rfl hB5.atAll rfl ?_)
    refine L_op0 (X_storeW (b := b2) (ys := [(.int .u32 (s.tx)), (val 6), (val 13), (.int .u8 (s.mr)), (.int .u8 (s.lv))]) A27 rfl rfl (List.forall_mem_cons.2 ⟨rfl, (List.forall_mem_cons.2 ⟨(hNk2.1.sv.one), (List.forall_mem_cons.2 ⟨(hNv2.1.sv.one), (List.forall_mem_cons.2 ⟨rfl, (List.forall_mem_cons.2 ⟨rfl, (fun _ h => by cases h)⟩)⟩)⟩)⟩)⟩) rfl hB2 rfl ?_)
    intro w10 hu10 hb10
    have hz10 := hu10.size
    replace hs := hs.upd hu10 fun i h1 h2 h => by have h : i = b2 := h; omega
    replace hk := hk.upd hu10 fun i hi h => by have hi := hk_b _ hi; have h : i = b2 := h; omega
    replace hU := hU.trans (hu10.mono fun i _ h => by have h : i = b2 := h; show n0 ≤ i; omega)
    replace hxv := hxv.upd hu10 fun i hi h => by have hi := hxv_b _ hi; have h : i = b2 := h; omega
    replace hB1 := hB1.upd hu10 fun h => by have h : b1 = b2 := h; omega
    replace hNk2 := nownB hNk2 hB2 hu10 (by decide) (by decide)
    replace hNv2 := nownB hNv2 hB2 hu10 (by decide) (by decide)
    replace hB5 := hB5.upd hu10 fun h => by have h : b5 = b2 := h; omega
    replace hB2 : Blk w10 b2 #[(.int .u32 (s.tx)), (val 6), (val 13), (.int .u8 (s.mr)), (.int .u8 (s.lv))] 27 := hb10
    refine L_nil ?_
    refine T_n ?_
    refine W_ret ?_
    have hdk : bl (insD ks pa (val 4, m)) = (putK (bl s.ks) m) := by rw [bl_ins, hks]; unfold putK; rw [gone_t hpe, hpe]
    have hdv : bl (insD vs pa (val 11, x)) = (putV (bl s.ks) (bl s.vs) m x) := by rw [bl_ins, hvs]; unfold putV; rw [gone_t hpe, hpe]
    exact BQ_r (End_1 Tryd.results7 (RV_A A27 rfl hB2.atAll rfl) ⟨⟨s.tx, val 6, insD ks pa (val 4, m), val 13, insD vs pa (val 11, x), s.mr, s.lv⟩, rfl, ⟨Sn.R.of hNk2 hNv2 (by show (insD ks pa (val 4, m)).length = (insD vs pa (val 11, x)).length; rw [ins_len hgl, ins_len (by omega), hlkv]) (by show LOK (bl (insD ks pa (val 4, m))); rw [bl_ins, hks]; intro y hy; rcases ins_mem hy with rfl | hy; (· exact hm); (· exact hs.ok.l.sub (fun x hx => wo_mem hx) y hy)) (by show LOK (bl (insD vs pa (val 11, x))); rw [bl_ins, hvs]; intro y hy; rcases ins_mem hy with rfl | hy; (· exact hxl); (· exact hs.ov.l.sub (fun x hx => wo_mem hx) y hy)) (by show (insD ks pa (val 4, m)).length ≤ 1048576; rw [ins_len hgl]; omega) (by omega) (by omega) (by omega) (by omega), rfl, rfl, rfl⟩, hdk, hdv, hU.own hn0⟩)
  · subst hb
    refine L_op rfl (X_move (v := (.bool (false))) rfl ?_)
    refine L_nil ?_
    refine T_n ?_
    refine W_cf rfl ?_
    refine W_skip ?_
    refine T_n ?_
    refine W_seq ?_
    refine W_reg ?_
    refine L_op rfl (X_loadA (p := (ptr b1 (0))) (xs := [(.int .u32 (s.tx)), s.kv, s.vv, (.int .u8 (s.mr)), (.int .u8 (s.lv))]) A27 rfl hB1.atAll rfl ?_)
    refine L_op rfl (X_move (v := (.int .i64 (-1))) rfl ?_)
    obtain ⟨M0, hM0⟩ : ∃ n, n = w3.heap.size := ⟨_, rfl⟩
    have hcr_ := c_without s w3 lo up (by omega) hs (-1)
    refine L_op rfl (X_fn (vs := [(.agg ([(.int .u32 (s.tx)), s.kv, s.vv, (.int .u8 (s.mr)), (.int .u8 (s.lv))]).toArray), (.int .i64 (-1))]) en14 rfl ?_)
    refine CT.mono hcr_ ?_
    clear hcr_
    rintro _ w11 ⟨kv, ks, vv, vs, rfl, hNk, hNv, hap, hks, hvs, hu11⟩
    have hz11 := hu11.size
    obtain ⟨M1, hM1⟩ : ∃ n, n = w11.heap.size := ⟨_, rfl⟩
    rw [← hM0, ← hM1] at hNk hNv
    replace hs := hs.ext hu11
    replace hk := hk.ext hu11
    replace hU := hU.trans (Ext.upd hu11)
    replace hxv := hxv.ext hu11
    replace hB1 := hB1.ext hu11
    replace hB2 := hB2.ext hu11
    refine L_op rfl (X_alloc (z := (.agg #[(.int .u32 (0)), (.slice none 0 0), (.slice none 0 0), (.int .u8 (0)), (.int .u8 (0))])) (c := #[(.int .u32 (0)), (.slice none 0 0), (.slice none 0 0), (.int .u8 (0)), (.int .u8 (0))]) Zv27 rfl ?_)
    intro b12 w12 hn12
    have hbn12 := hn12.num; have hbs12 := hn12.size
    replace hs := hs.ext hn12.ext
    replace hk := hk.ext hn12.ext
    replace hU := hU.trans (Ext.upd hn12.ext)
    replace hxv := hxv.ext hn12.ext
    replace hB1 := hB1.ext hn12.ext
    replace hB2 := hB2.ext hn12.ext
    replace hNk := hNk.ext hn12.ext
    replace hNv := hNv.ext hn12.ext
    have hB12 := hn12.blk
    refine L_op0 (X_storeW (b := b12) (ys := [(.int .u32 (s.tx)), kv, vv, (.int .u8 (s.mr)), (.int .u8 (s.lv))]) A27 rfl rfl (List.forall_mem_cons.2 ⟨rfl, (List.forall_mem_cons.2 ⟨(hNk.1.sv.one), (List.forall_mem_cons.2 ⟨(hNv.1.sv.one), (List.forall_mem_cons.2 ⟨rfl, (List.forall_mem_cons.2 ⟨rfl, (fun _ h => by cases h)⟩)⟩)⟩)⟩)⟩) rfl hB12 rfl ?_)
    intro w13 hu13 hb13
    have hz13 := hu13.size
    replace hs := hs.upd hu13 fun i h1 h2 h => by have h : i = b12 := h; omega
    replace hk := hk.upd hu13 fun i hi h => by have hi := hk_b _ hi; have h : i = b12 := h; omega
    replace hU := hU.trans (hu13.mono fun i _ h => by have h : i = b12 := h; show n0 ≤ i; omega)
    replace hxv := hxv.upd hu13 fun i hi h => by have hi := hxv_b _ hi; have h : i = b12 := h; omega
    replace hB1 := hB1.upd hu13 fun h => by have h : b1 = b12 := h; omega
    replace hB2 := hB2.upd hu13 fun h => by have h : b2 = b12 := h; omega
    replace hNk := hNk.upd hu13 fun i h1 h2 h => by have h : i = b12 := h; omega
    replace hNv := hNv.upd hu13 fun i h1 h2 h => by have h : i = b12 := h; omega
    replace hB12 : Blk w13 b12 #[(.int .u32 (s.tx)), kv, vv, (.int .u8 (s.mr)), (.int .u8 (s.lv))] 27 := hb13
    refine L_nil ?_
    refine T_n ?_
    refine W_seq ?_
    obtain ⟨N7, hN7⟩ : ∃ n, n = w13.heap.size := ⟨_, rfl⟩
    have hkb : ∀ b, obk kv = some b → M0 ≤ b ∧ b < M1 := fun b hb => ⟨(hNk.1.lt hb).1, hNk.2.1 b hb⟩
    have hvb : ∀ b, obk vv = some b → M0 ≤ b ∧ b < M1 := fun b hb => ⟨(hNv.1.lt hb).1, hNv.2.1 b hb⟩
    have hub : ∀ b, (obk kv = some b) ∨ (obk vv = some b) → M0 ≤ b ∧ b < M1 := fun b hb => hb.elim (hkb b) (hvb b)
    have hDk : Dj kv ks vv := Dj.of (by decide) hNk hNv hap
    have hDv : Dj vv vs kv := Dj.of (by decide) hNv hNk fun b h1 h2 => hap b h2 h1
    have hgl := gone_len (ks := bl s.ks) (m := m)
    rw [hpe] at hgl
    rw [gone_f hpe] at hgl
    have hlk := congrArg List.length hks
    have hlv_ := congrArg List.length hvs
    rw [bl_len] at hlk hlv_
    replace hgl : pa ≤ ks.length := by rw [hlk]; exact hgl
    have hlkv : ks.length = vs.length := by rw [hlk, hlv_]; exact wo_len_eq (by rw [bl_len, bl_len]; exact hs.len)
    have hsm := hs.sm
    have hwl := wo_len_le (l := bl s.ks) (n := (-1))
    rw [bl_len] at hwl
    refine W_drawS 15 [[], [0], [], [], [3], [3, 4], [0, 1, 2, 3, 4, 5], [], [7], [], [], [0, 1, 2, 3, 4, 5, 6, 10], [0, 1, 2, 3, 4, 5, 6, 10, 11], [0, 1, 2, 3, 4, 5, 6, 7, 8, 9, 10, 11, 12], [0, 1, 2, 3, 4, 5, 6, 7, 8], [0, 1, 2, 3, 4, 5, 6, 7, 8, 9, 10, 11, 12, 13, 14], [0, 1, 2, 3, 4, 5, 6, 7, 8, 9, 10, 11, 12, 13, 14, 15], [0, 1, 2, 3, 4, 5, 6, 7, 8, 9, 10, 11, 12, 13, 14, 15, 16]] (fun j b => (j = 6 ∧ obk kv = some b) ∨ (j = 13 ∧ obk vv = some b)) mixed (by kernel_rfl) ?_
    refine ⟨.det (fun val => (ptr b12 (1))), ⟨fun _ _ hv => rfl, fun _ _ _ _ _ => trivial⟩, fun val h_ W hx he => ⟨trivial, ?_⟩, ?_⟩
    · replace hx := (Upd.drew _ _).trans hx
      replace hx : Upd (fun b => False) w13 W := hx.mono fun b _ h_ => by obtain ⟨j, _, hne, hm_, hS⟩ := h_; rcases hS with ⟨rfl, hS⟩ | ⟨rfl, hS⟩; (· exact absurd hm_ (by decide)); (· exact absurd hm_ (by decide))
      replace hs := hs.ext hx
      replace hk := hk.ext hx
      replace hxv := hxv.ext hx
      replace hB1 := hB1.ext hx
      replace hB2 := hB2.ext hx
      replace hNk := hNk.ext hx
      replace hNv := hNv.ext hx
      replace hB12 := hB12.ext hx
      have hE := Upd.refl (fun _ => False) W
      refine id (X_fldP (b := b12) (o := 0) (r := 1) Fd27_1 rfl rfl ?_)
      exact ⟨Ext.upd hE, rfl⟩
    refine ⟨.det (fun val => kv), ⟨fun _ _ hv => rfl, fun _ _ _ _ _ => trivial⟩, fun val h_ W hx he => ⟨trivial, ?_⟩, ?_⟩
    · replace hx := (Upd.drew _ _).trans hx
      replace hx : Upd (fun b => False) w13 W := hx.mono fun b _ h_ => by obtain ⟨j, _, hne, hm_, hS⟩ := h_; rcases hS with ⟨rfl, hS⟩ | ⟨rfl, hS⟩; (· exact absurd hm_ (by decide)); (· exact absurd hm_ (by decide))
      replace hs := hs.ext hx
      replace hk := hk.ext hx
      replace hxv := hxv.ext hx
      replace hB1 := hB1.ext hx
      replace hB2 := hB2.ext hx
      replace hNk := hNk.ext hx
      replace hNv := hNv.ext hx
      replace hB12 := hB12.ext hx
      have hE := Upd.refl (fun _ => False) W
      refine id (X_load (p := (ptr b12 (1))) (v := kv) T22 rfl (hB12.at1 rfl) ?_)
      exact ⟨Ext.upd hE, rfl⟩
    refine ⟨.det (fun val => (.int .i64 (((pa : Nat) : Int)))), ⟨fun _ _ hv => rfl, fun _ _ _ _ _ => trivial⟩, fun val h_ W hx he => ⟨trivial, ?_⟩, ?_⟩
    · replace hx := (Upd.drew _ _).trans hx
      replace hx : Upd (fun b => False) w13 W := hx.mono fun b _ h_ => by obtain ⟨j, _, hne, hm_, hS⟩ := h_; rcases hS with ⟨rfl, hS⟩ | ⟨rfl, hS⟩; (· exact absurd hm_ (by decide)); (· exact absurd hm_ (by decide))
      replace hs := hs.ext hx
      replace hk := hk.ext hx
      replace hxv := hxv.ext hx
      replace hB1 := hB1.ext hx
      replace hB2 := hB2.ext hx
      replace hNk := hNk.ext hx
      replace hNv := hNv.ext hx
      replace hB12 := hB12.ext hx
      have hE := Upd.refl (fun _ => False) W
      refine id (X_move (v := (.int .i64 (((pa : Nat) : Int)))) rfl ?_)
      exact ⟨Ext.upd hE, rfl⟩
    refine ⟨.det (fun val => key), ⟨fun _ _ hv => rfl, fun _ _ _ _ _ => trivial⟩, fun val h_ W hx he => ⟨trivial, ?_⟩, ?_⟩
    · replace hx := (Upd.drew _ _).trans hx
      replace hx : Upd (fun b => False) w13 W := hx.mono fun b _ h_ => by obtain ⟨j, _, hne, hm_, hS⟩ := h_; rcases hS with ⟨rfl, hS⟩ | ⟨rfl, hS⟩; (· exact absurd hm_ (by decide)); (· exact absurd hm_ (by decide))
      replace hs := hs.ext hx
      replace hk := hk.ext hx
      replace hxv := hxv.ext hx
      replace hB1 := hB1.ext hx
      replace hB2 := hB2.ext hx
      replace hNk := hNk.ext hx
      replace hNv := hNv.ext hx
      replace hB12 := hB12.ext hx
      have hE := Upd.refl (fun _ => False) W
      refine id (X_move (v := key) rfl ?_)
      exact ⟨Ext.upd hE, rfl⟩
    refine ⟨.abs (fun _ x_ W_ => Own W_ N7 5 1 x_ m.length (m.map byteV)), ⟨fun _ _ _ => rfl, fun _ _ _ _ hu0 h => have hu : Upd (fun b => (obk kv = some b) ∨ (obk vv = some b)) _ _ := hu0.mono fun b _ h_ => (by obtain ⟨j, _, hne, hm_, hS⟩ := h_; rcases hS with ⟨rfl, hS⟩ | ⟨rfl, hS⟩; (· exact .inl hS); (· exact .inr (hS)))
       (Own.upd h hu fun b hb h9 => by have h1 := (Own.lt h hb).1; have h2 := hub b h9; omega)⟩, fun val h_ W hx he => ⟨trivial, ?_⟩, ?_⟩
    · replace hx := (Upd.drew _ _).trans hx
      replace hx : Upd (fun b => False) w13 W := hx.mono fun b _ h_ => by obtain ⟨j, _, hne, hm_, hS⟩ := h_; rcases hS with ⟨rfl, hS⟩ | ⟨rfl, hS⟩; (· exact absurd hm_ (by decide)); (· exact absurd hm_ (by decide))
      replace hs := hs.ext hx
      replace hk := hk.ext hx
      replace hxv := hxv.ext hx
      replace hB1 := hB1.ext hx
      replace hB2 := hB2.ext hx
      replace hNk := hNk.ext hx
      replace hNv := hNv.ext hx
      replace hB12 := hB12.ext hx
      have hE := Upd.refl (fun _ => False) W
      have hxs := hx.size
      have hcr_ := c_copied key m W hm hk
      refine X_fn (vs := [key]) en16 rfl ?_
      refine CT.mono hcr_ ?_
      rintro v9 w9 ⟨hO9, hu9⟩
      exact ⟨Ext.upd hu9, hO9.1.more (by omega)⟩
    refine ⟨.abs (fun val x_ W => ∃ b, x_ = .slice (some ⟨b, 0, none⟩) 1 1 ∧ N7 ≤ b ∧ Blk W b #[val 4] 23), ⟨fun _ _ hv => (by simp only [hv 4 rfl]), fun _ _ _ _ hu0 h => have hu : Upd (fun b => (obk kv = some b) ∨ (obk vv = some b)) _ _ := hu0.mono fun b _ h_ => (by obtain ⟨j, _, hne, hm_, hS⟩ := h_; rcases hS with ⟨rfl, hS⟩ | ⟨rfl, hS⟩; (· exact .inl hS); (· exact .inr (hS)))
       (by obtain ⟨b, e1, e2, e3⟩ := h; exact ⟨b, e1, e2, e3.upd hu fun h9 => by have h2 := hub b (by first | exact h9 | exact .inl h9 | exact .inr h9); omega⟩)⟩, fun val h_ W hx he => ⟨trivial, ?_⟩, ?_⟩
    · replace hx := (Upd.drew _ _).trans hx
      replace hx : Upd (fun b => False) w13 W := hx.mono fun b _ h_ => by obtain ⟨j, _, hne, hm_, hS⟩ := h_; rcases hS with ⟨rfl, hS⟩ | ⟨rfl, hS⟩; (· exact absurd hm_ (by decide)); (· exact absurd hm_ (by decide))
      replace hs := hs.ext hx
      replace hk := hk.ext hx
      replace hxv := hxv.ext hx
      replace hB1 := hB1.ext hx
      replace hB2 := hB2.ext hx
      replace hNk := hNk.ext hx
      replace hNv := hNv.ext hx
      replace hB12 := hB12.ext hx
      have hE := Upd.refl (fun _ => False) W
      obtain ⟨hO4, _⟩ := he
      have hxs := hx.size
      refine X_buildSlice1 (vs := [val 4]) S22 (by decide) rfl rfl (List.forall_mem_cons.2 ⟨hO4.sv.cells, fun _ h => by cases h⟩) ?_
      intro b9 w9 hn9
      have hb9 := hn9.num
      exact ⟨Ext.upd hn9.ext, b9, rfl, by omega, hn9.blk⟩
    refine ⟨.abs (fun val x_ W_ => ∃ u, NOwn LB W_ 23 5 M0 u x_ (insD ks pa (val 4, m)) ∧ u ≤ W_.heap.size ∧ Dj x_ (insD ks pa (val 4, m)) vv), ⟨fun _ _ hv => (by simp only [hv 4 rfl]), fun _ _ _ _ hu0 h => have hu : Upd (fun b => (obk vv = some b)) _ _ := hu0.mono fun b _ h_ => (by obtain ⟨j, _, hne, hm_, hS⟩ := h_; rcases hS with ⟨rfl, hS⟩ | ⟨rfl, hS⟩; (· exact absurd rfl hne); (· exact hS))
       (by obtain ⟨u9, h1, h2, h3⟩ := h; exact ⟨u9, NOwn.dj h1 h3 hu, Nat.le_trans h2 hu.size, h3⟩)⟩, fun val h_ W hx he => ⟨trivial, ?_⟩, ?_⟩
    · replace hx := (Upd.drew _ _).trans hx
      replace hx : Upd (fun b => False) w13 W := hx.mono fun b _ h_ => by obtain ⟨j, _, hne, hm_, hS⟩ := h_; rcases hS with ⟨rfl, hS⟩ | ⟨rfl, hS⟩; (· exact absurd rfl hne); (· exact absurd hm_ (by decide))
      replace hs := hs.ext hx
      replace hk := hk.ext hx
      replace hxv := hxv.ext hx
      replace hB1 := hB1.ext hx
      replace hB2 := hB2.ext hx
      replace hNk := hNk.ext hx
      replace hNv := hNv.ext hx
      replace hB12 := hB12.ext hx
      have hE := Upd.refl (fun _ => False) W
      obtain ⟨⟨bq5, hbq5, hnq5, hBq5⟩, hO4, _⟩ := he
      have hxs := hx.size
      have hcr_ := c_insert kv (ks.map (·.1)) (val 4) pa bq5 W M0 M1 (by omega) (by omega) (by rw [List.length_map]; omega) (by rw [List.length_map]; omega) (hNk.1.eq (List.length_map _).symm (LB_flat ks)) (nown_one hNk) hNk.2.1 hO4.sv.one hBq5 (by omega)
      refine X_fn (vs := [kv, .int .i64 ((pa : Nat) : Int), .slice (some ⟨bq5, 0, none⟩) 1 1]) en15 (by rw [← hbq5]; rfl) ?_
      refine CT.mono hcr_ ?_
      rintro v9 w9 ⟨hO9, hu9, ho9⟩
      have hz9 := hu9.size
      have hN9 := nown_ins (e := (val 4, m)) (hi' := W.heap.size) (by decide) hNk hO9 (by omega) hu9 ⟨hO4.more (by omega), fun b hb => (hO4.lt hb).2⟩ (by omega) (by omega)
      exact ⟨hu9.mono fun b _ h => .inl ⟨rfl, h⟩, _, hN9, Nat.le_refl _, hDk.ins (fun b hb hb2 => by rcases ho9 b hb with h | h; (· exact hap b h hb2); (· have := hvb b hb2; omega)) fun b hb hb2 => by have h1 := (hO4.lt hb).1; have h2 := hvb b hb2; omega⟩
    refine ⟨.det (fun val => (ptr b12 (2))), ⟨fun _ _ hv => rfl, fun _ _ _ _ _ => trivial⟩, fun val h_ W hx he => ⟨trivial, ?_⟩, ?_⟩
    · replace hx := (Upd.drew _ _).trans hx
      replace hx : Upd (fun b => (obk kv = some b)) w13 W := hx.mono fun b _ h_ => by obtain ⟨j, _, hne, hm_, hS⟩ := h_; rcases hS with ⟨rfl, hS⟩ | ⟨rfl, hS⟩; (· exact hS); (· exact absurd hm_ (by decide))
      replace hs := hs.upd hx fun i h1 h2 h => by have h1 := hkb i h; omega
      replace hk := hk.upd hx fun i hi h => by have hi := hk_b _ hi; have h1 := hkb i h; omega
      replace hxv := hxv.upd hx fun i hi h => by have hi := hxv_b _ hi; have h1 := hkb i h; omega
      replace hB1 := hB1.upd hx fun h => by have h1 := hkb b1 h; omega
      replace hB2 := hB2.upd hx fun h => by have h1 := hkb b2 h; omega
      replace hB12 := hB12.upd hx fun h => by have h1 := hkb b12 h; omega
      have hE := Upd.refl (fun _ => False) W
      refine id (X_fldP (b := b12) (o := 0) (r := 2) Fd27_2 rfl rfl ?_)
      exact ⟨Ext.upd hE, rfl⟩
    refine ⟨.det (fun val => vv), ⟨fun _ _ hv => rfl, fun _ _ _ _ _ => trivial⟩, fun val h_ W hx he => ⟨trivial, ?_⟩, ?_⟩
    · replace hx := (Upd.drew _ _).trans hx
      replace hx : Upd (fun b => (obk kv = some b)) w13 W := hx.mono fun b _ h_ => by obtain ⟨j, _, hne, hm_, hS⟩ := h_; rcases hS with ⟨rfl, hS⟩ | ⟨rfl, hS⟩; (· exact hS); (· exact absurd hm_ (by decide))
      replace hs := hs.upd hx fun i h1 h2 h => by have h1 := hkb i h; omega
      replace hk := hk.upd hx fun i hi h => by have hi := hk_b _ hi; have h1 := hkb i h; omega
      replace hxv := hxv.upd hx fun i hi h => by have hi := hxv_b _ hi; have h1 := hkb i h; omega
      replace hB1 := hB1.upd hx fun h => by have h1 := hkb b1 h; omega
      replace hB2 := hB2.upd hx fun h => by have h1 := hkb b2 h; omega
      replace hB12 := hB12.upd hx fun h => by have h1 := hkb b12 h; omega
      have hE := Upd.refl (fun _ => False) W
      refine id (X_load (p := (ptr b12 (2))) (v := vv) T22 rfl (hB12.at1 rfl) ?_)
      exact ⟨Ext.upd hE, rfl⟩
    refine ⟨.det (fun val => (.int .i64 (((pa : Nat) : Int)))), ⟨fun _ _ hv => rfl, fun _ _ _ _ _ => trivial⟩, fun val h_ W hx he => ⟨trivial, ?_⟩, ?_⟩
    · replace hx := (Upd.drew _ _).trans hx
      replace hx : Upd (fun b => (obk kv = some b)) w13 W := hx.mono fun b _ h_ => by obtain ⟨j, _, hne, hm_, hS⟩ := h_; rcases hS with ⟨rfl, hS⟩ | ⟨rfl, hS⟩; (· exact hS); (· exact absurd hm_ (by decide))
      replace hs := hs.upd hx fun i h1 h2 h => by have h1 := hkb i h; omega
      replace hk := hk.upd hx fun i hi h => by have hi := hk_b _ hi; have h1 := hkb i h; omega
      replace hxv := hxv.upd hx fun i hi h => by have hi := hxv_b _ hi; have h1 := hkb i h; omega
      replace hB1 := hB1.upd hx fun h => by have h1 := hkb b1 h; omega
      replace hB2 := hB2.upd hx fun h => by have h1 := hkb b2 h; omega
      replace hB12 := hB12.upd hx fun h => by have h1 := hkb b12 h; omega
      have hE := Upd.refl (fun _ => False) W
      refine id (X_move (v := (.int .i64 (((pa : Nat) : Int)))) rfl ?_)
      exact ⟨Ext.upd hE, rfl⟩
    refine ⟨.det (fun val => xv), ⟨fun _ _ hv => rfl, fun _ _ _ _ _ => trivial⟩, fun val h_ W hx he => ⟨trivial, ?_⟩, ?_⟩
    · replace hx := (Upd.drew _ _).trans hx
      replace hx : Upd (fun b => (obk kv = some b)) w13 W := hx.mono fun b _ h_ => by obtain ⟨j, _, hne, hm_, hS⟩ := h_; rcases hS with ⟨rfl, hS⟩ | ⟨rfl, hS⟩; (· exact hS); (· exact absurd hm_ (by decide))
      replace hs := hs.upd hx fun i h1 h2 h => by have h1 := hkb i h; omega
      replace hk := hk.upd hx fun i hi h => by have hi := hk_b _ hi; have h1 := hkb i h; omega
      replace hxv := hxv.upd hx fun i hi h => by have hi := hxv_b _ hi; have h1 := hkb i h; omega
      replace hB1 := hB1.upd hx fun h => by have h1 := hkb b1 h; omega
      replace hB2 := hB2.upd hx fun h => by have h1 := hkb b2 h; omega
      replace hB12 := hB12.upd hx fun h => by have h1 := hkb b12 h; omega
      have hE := Upd.refl (fun _ => False) W
      refine id (X_move (v := xv) rfl ?_)
      exact ⟨Ext.upd hE, rfl⟩
    refine ⟨.abs (fun _ x_ W_ => Own W_ N7 5 1 x_ x.length (x.map byteV)), ⟨fun _ _ _ => rfl, fun _ _ _ _ hu0 h => have hu : Upd (fun b => (obk vv = some b)) _ _ := hu0.mono fun b _ h_ => (by obtain ⟨j, _, hne, hm_, hS⟩ := h_; rcases hS with ⟨rfl, hS⟩ | ⟨rfl, hS⟩; (· exact absurd hm_ (by decide)); (· exact hS))
       (Own.upd h hu fun b hb h9 => by have h1 := (Own.lt h hb).1; have h2 := hub b (.inr h9); omega)⟩, fun val h_ W hx he => ⟨trivial, ?_⟩, ?_⟩
    · replace hx := (Upd.drew _ _).trans hx
      replace hx : Upd (fun b => (obk kv = some b)) w13 W := hx.mono fun b _ h_ => by obtain ⟨j, _, hne, hm_, hS⟩ := h_; rcases hS with ⟨rfl, hS⟩ | ⟨rfl, hS⟩; (· exact hS); (· exact absurd hm_ (by decide))
      replace hs := hs.upd hx fun i h1 h2 h => by have h1 := hkb i h; omega
      replace hk := hk.upd hx fun i hi h => by have hi := hk_b _ hi; have h1 := hkb i h; omega
      replace hxv := hxv.upd hx fun i hi h => by have hi := hxv_b _ hi; have h1 := hkb i h; omega
      replace hB1 := hB1.upd hx fun h => by have h1 := hkb b1 h; omega
      replace hB2 := hB2.upd hx fun h => by have h1 := hkb b2 h; omega
      replace hB12 := hB12.upd hx fun h => by have h1 := hkb b12 h; omega
      have hE := Upd.refl (fun _ => False) W
      have hxs := hx.size
      have hcr_ := c_copied xv x W hxl hxv
      refine X_fn (vs := [xv]) en16 rfl ?_
      refine CT.mono hcr_ ?_
      rintro v9 w9 ⟨hO9, hu9⟩
      exact ⟨Ext.upd hu9, hO9.1.more (by omega)⟩
    refine ⟨.abs (fun val x_ W => ∃ b, x_ = .slice (some ⟨b, 0, none⟩) 1 1 ∧ N7 ≤ b ∧ Blk W b #[val 11] 23), ⟨fun _ _ hv => (by simp only [hv 11 rfl]), fun _ _ _ _ hu0 h => have hu : Upd (fun b => (obk vv = some b)) _ _ := hu0.mono fun b _ h_ => (by obtain ⟨j, _, hne, hm_, hS⟩ := h_; rcases hS with ⟨rfl, hS⟩ | ⟨rfl, hS⟩; (· exact absurd hm_ (by decide)); (· exact hS))
       (by obtain ⟨b, e1, e2, e3⟩ := h; exact ⟨b, e1, e2, e3.upd hu fun h9 => by have h2 := hub b (by first | exact h9 | exact .inl h9 | exact .inr h9); omega⟩)⟩, fun val h_ W hx he => ⟨trivial, ?_⟩, ?_⟩
    · replace hx := (Upd.drew _ _).trans hx
      replace hx : Upd (fun b => (obk kv = some b)) w13 W := hx.mono fun b _ h_ => by obtain ⟨j, _, hne, hm_, hS⟩ := h_; rcases hS with ⟨rfl, hS⟩ | ⟨rfl, hS⟩; (· exact hS); (· exact absurd hm_ (by decide))
      replace hs := hs.upd hx fun i h1 h2 h => by have h1 := hkb i h; omega
      replace hk := hk.upd hx fun i hi h => by have hi := hk_b _ hi; have h1 := hkb i h; omega
      replace hxv := hxv.upd hx fun i hi h => by have hi := hxv_b _ hi; have h1 := hkb i h; omega
      replace hB1 := hB1.upd hx fun h => by have h1 := hkb b1 h; omega
      replace hB2 := hB2.upd hx fun h => by have h1 := hkb b2 h; omega
      replace hB12 := hB12.upd hx fun h => by have h1 := hkb b12 h; omega
      have hE := Upd.refl (fun _ => False) W
      obtain ⟨hO11, _⟩ := he
      have hxs := hx.size
      refine X_buildSlice1 (vs := [val 11]) S22 (by decide) rfl rfl (List.forall_mem_cons.2 ⟨hO11.sv.cells, fun _ h => by cases h⟩) ?_
      intro b9 w9 hn9
      have hb9 := hn9.num
      exact ⟨Ext.upd hn9.ext, b9, rfl, by omega, hn9.blk⟩
    refine ⟨.abs (fun val x_ W_ => ∃ u, NOwn LB W_ 23 5 M0 u x_ (insD vs pa (val 11, x)) ∧ u ≤ W_.heap.size), ⟨fun _ _ hv => (by simp only [hv 11 rfl]), fun _ _ _ _ hu0 h => have hu : Upd (fun b => False) _ _ := hu0.mono fun b _ h_ => (by obtain ⟨j, _, hne, hm_, hS⟩ := h_; rcases hS with ⟨rfl, hS⟩ | ⟨rfl, hS⟩; (· exact absurd hm_ (by decide)); (· exact absurd rfl hne))
       (by obtain ⟨u9, h1, h2⟩ := h; exact ⟨u9, NOwn.ext h1 hu, Nat.le_trans h2 hu.size⟩)⟩, fun val h_ W hx he => ⟨trivial, ?_⟩, ?_⟩
    · replace hx := (Upd.drew _ _).trans hx
      replace hx : Upd (fun b => (obk kv = some b)) w13 W := hx.mono fun b _ h_ => by obtain ⟨j, _, hne, hm_, hS⟩ := h_; rcases hS with ⟨rfl, hS⟩ | ⟨rfl, hS⟩; (· exact hS); (· exact absurd rfl hne)
      replace hs := hs.upd hx fun i h1 h2 h => by have h1 := hkb i h; omega
      replace hk := hk.upd hx fun i hi h => by have hi := hk_b _ hi; have h1 := hkb i h; omega
      replace hxv := hxv.upd hx fun i hi h => by have hi := hxv_b _ hi; have h1 := hkb i h; omega
      replace hB1 := hB1.upd hx fun h => by have h1 := hkb b1 h; omega
      replace hB2 := hB2.upd hx fun h => by have h1 := hkb b2 h; omega
      replace hB12 := hB12.upd hx fun h => by have h1 := hkb b12 h; omega
      have hE := Upd.refl (fun _ => False) W
      obtain ⟨⟨bq12, hbq12, hnq12, hBq12⟩, hO11, ⟨u6, hNk2, hu6_, hDj6⟩, _, hO4, _⟩ := he
      have hxs := hx.size
      have hNv_ := NOwn.dj hNv hDv hx
      have hcr_ := c_insert vv (vs.map (·.1)) (val 11) pa bq12 W M0 M1 (by omega) (by omega) (by rw [List.length_map]; omega) (by rw [List.length_map]; omega) (hNv_.1.eq (List.length_map _).symm (LB_flat vs)) (nown_one hNv_) hNv_.2.1 hO11.sv.one hBq12 (by omega)
      refine X_fn (vs := [vv, .int .i64 ((pa : Nat) : Int), .slice (some ⟨bq12, 0, none⟩) 1 1]) en15 (by rw [← hbq12]; rfl) ?_
      refine CT.mono hcr_ ?_
      rintro v9 w9 ⟨hO9, hu9, ho9⟩
      have hz9 := hu9.size
      have hN9 := nown_ins (e := (val 11, x)) (hi' := W.heap.size) (by decide) hNv_ hO9 (by omega) hu9 ⟨hO11.more (by omega), fun b hb => (hO11.lt hb).2⟩ (by omega) (by omega)
      exact ⟨hu9.mono fun b _ h => .inr ⟨rfl, h⟩, _, hN9, Nat.le_refl _⟩
    refine ⟨.det (fun val => (ptr b12 (1))), ⟨fun _ _ hv => rfl, fun _ _ _ _ _ => trivial⟩, fun val h_ W hx he => ⟨trivial, ?_⟩, ?_⟩
    · replace hx := (Upd.drew _ _).trans hx
      replace hx : Upd (fun b => (obk kv = some b) ∨ (obk vv = some b)) w13 W := hx.mono fun b _ h_ => by obtain ⟨j, _, hne, hm_, hS⟩ := h_; rcases hS with ⟨rfl, hS⟩ | ⟨rfl, hS⟩; (· exact .inl hS); (· exact .inr (hS))
      replace hs := hs.upd hx fun i h1 h2 h => by have h1 := hub i h; omega
      replace hk := hk.upd hx fun i hi h => by have hi := hk_b _ hi; have h1 := hub i h; omega
      replace hxv := hxv.upd hx fun i hi h => by have hi := hxv_b _ hi; have h1 := hub i h; omega
      replace hB1 := hB1.upd hx fun h => by have h1 := hub b1 h; omega
      replace hB2 := hB2.upd hx fun h => by have h1 := hub b2 h; omega
      replace hB12 := hB12.upd hx fun h => by have h1 := hub b12 h; omega
      have hE := Upd.refl (fun _ => False) W
      obtain ⟨⟨u6, hNk2, hu6_, hDj6⟩, he⟩ := he
      obtain ⟨⟨bq5, hbq5, hnq5, hBq5⟩, he⟩ := he
      obtain ⟨hO4, he⟩ := he
      refine id (X_fldP (b := b12) (o := 0) (r := 1) Fd27_1 rfl rfl ?_)
      exact ⟨Ext.upd hE, rfl⟩
    intro val W14 hx14 he14
    replace hx14 := (Upd.drew _ _).trans hx14
    replace hx14 : Upd (fun b => (obk kv = some b) ∨ (obk vv = some b)) w13 W14 := hx14.mono fun b _ h_ => by obtain ⟨j, _, hS⟩ := h_; rcases hS with ⟨rfl, hS⟩ | ⟨rfl, hS⟩; (· exact .inl hS); (· exact .inr (hS))
    have hz14 := hx14.size
    replace hs := hs.upd hx14 fun i h1 h2 h => by have h1 := hub i h; omega
    replace hk := hk.upd hx14 fun i hi h => by have hi := hk_b _ hi; have h1 := hub i h; omega
    replace hU := hU.trans (hx14.mono fun i _ h => by have h1 := hub i h; show n0 ≤ i; omega)
    replace hxv := hxv.upd hx14 fun i hi h => by have hi := hxv_b _ hi; have h1 := hub i h; omega
    replace hB1 := hB1.upd hx14 fun h => by have h1 := hub b1 h; omega
    replace hB2 := hB2.upd hx14 fun h => by have h1 := hub b2 h; omega
    replace hB12 := hB12.upd hx14 fun h => by have h1 := hub b12 h; omega
    obtain ⟨⟨u13, hNv2, hu13_⟩, he14⟩ := he14
    obtain ⟨⟨bq12, hbq12, hnq12, hBq12⟩, he14⟩ := he14
    obtain ⟨hO11, he14⟩ := he14
    obtain ⟨⟨u6, hNk2, hu6_, hDj6⟩, he14⟩ := he14
    obtain ⟨⟨bq5, hbq5, hnq5, hBq5⟩, he14⟩ := he14
    obtain ⟨hO4, he14⟩ := he14
    refine L_op0 (X_store (b := b12) (o := 1) T22 rfl rfl (hNk2.1.sv.one) hB12 (by show (1 : Nat) < 5; decide) ?_)
    intro w15 hu15 hb15
    have hz15 := hu15.size
    replace hs := hs.upd hu15 fun i h1 h2 h => by have h : i = b12 := h; omega
    replace hk := hk.upd hu15 fun i hi h => by have hi := hk_b _ hi; have h : i = b12 := h; omega
    replace hU := hU.trans (hu15.mono fun i _ h => by have h : i = b12 := h; show n0 ≤ i; omega)
    replace hxv := hxv.upd hu15 fun i hi h => by have hi := hxv_b _ hi; have h : i = b12 := h; omega
    replace hB1 := hB1.upd hu15 fun h => by have h : b1 = b12 := h; omega
    replace hB2 := hB2.upd hu15 fun h => by have h : b2 = b12 := h; omega
    replace hNk2 := nownB hNk2 hB12 hu15 (by decide) (by decide)
    replace hNv2 := nownB hNv2 hB12 hu15 (by decide) (by decide)
    replace hB12 : Blk w15 b12 #[(.int .u32 (s.tx)), (val 6), vv, (.int .u8 (s.mr)), (.int .u8 (s.lv))] 27 := hb15
    refine L_op rfl (X_fldP (b := b12) (o := 0) (r := 2) Fd27_2 rfl rfl ?_)
    refine L_op0 (X_store (b := b12) (o := 2) T22 rfl rfl (hNv2.1.sv.one) hB12 (by show (2 : Nat) < 5; decide) ?_)
    intro w16 hu16 hb16
    have hz16 := hu16.size
    replace hs := hs.upd hu16 fun i h1 h2 h => by have h : i = b12 := h; omega
    replace hk := hk.upd hu16 fun i hi h => by have hi := hk_b _ hi; have h : i = b12 := h; omega
    replace hU := hU.trans (hu16.mono fun i _ h => by have h : i = b12 := h; show n0 ≤ i; omega)
    replace hxv := hxv.upd hu16 fun i hi h => by have hi := hxv_b _ hi; have h : i = b12 := h; omega
    replace hB1 := hB1.upd hu16 fun h => by have h : b1 = b12 := h; omega
    replace hB2 := hB2.upd hu16 fun h => by have h : b2 = b12 := h; omega
    replace hNk2 := nownB hNk2 hB12 hu16 (by decide) (by decide)
    replace hNv2 := nownB hNv2 hB12 hu16 (by decide) (by decide)
    replace hB12 : Blk w16 b12 #[(.int .u32 (s.tx)), (val 6), (val 13), (.int .u8 (s.mr)), (.int .u8 (s.lv))] 27 := hb16
    refine L_nil ?_
    refine T_n ?_
    refine W_seq ?_
    refine W_reg ?_
    refine L_op rfl (X_loadA (p := (ptr b12 (0))) (xs := [(.int .u32 (s.tx)), (val 6), (val 13), (.int .u8 (s.mr)), (.int .u8 (s.lv))]) A27 rfl hB12.atAll rfl ?_)
    refine L_op0 (X_storeW (b := b2) (ys := [(.int .u32 (s.tx)), (val 6), (val 13), (.int .u8 (s.mr)), (.int .u8 (s.lv))]) A27 rfl rfl (List.forall_mem_cons.2 ⟨rfl, (List.forall_mem_cons.2 ⟨(hNk2.1.sv.one), (List.forall_mem_cons.2 ⟨(hNv2.1.sv.one), (List.forall_mem_cons.2 ⟨rfl, (List.forall_mem_cons.2 ⟨rfl, (fun _ h => by cases h)⟩)⟩)⟩)⟩)⟩) rfl hB2 rfl ?_)
    intro w17 hu17 hb17
    have hz17 := hu17.size
    replace hs := hs.upd hu17 fun i h1 h2 h => by have h : i = b2 := h; omega
    replace hk := hk.upd hu17 fun i hi h => by have hi := hk_b _ hi; have h : i = b2 := h; omega
    replace hU := hU.trans (hu17.mono fun i _ h => by have h : i = b2 := h; show n0 ≤ i; omega)
    replace hxv := hxv.upd hu17 fun i hi h => by have hi := hxv_b _ hi; have h : i = b2 := h; omega
    replace hB1 := hB1.upd hu17 fun h => by have h : b1 = b2 := h; omega
    replace hNk2 := nownB hNk2 hB2 hu17 (by decide) (by decide)
    replace hNv2 := nownB hNv2 hB2 hu17 (by decide) (by decide)
    replace hB12 := hB12.upd hu17 fun h => by have h : b12 = b2 := h; omega
    replace hB2 : Blk w17 b2 #[(.int .u32 (s.tx)), (val 6), (val 13), (.int .u8 (s.mr)), (.int .u8 (s.lv))] 27 := hb17
    refine L_nil ?_
    refine T_n ?_
    refine W_ret ?_
    have hdk : bl (insD ks pa (val 4, m)) = (putK (bl s.ks) m) := by rw [bl_ins, hks]; unfold putK; rw [gone_f hpe, hpe]
    have hdv : bl (insD vs pa (val 11, x)) = (putV (bl s.ks) (bl s.vs) m x) := by rw [bl_ins, hvs]; unfold putV; rw [gone_f hpe, hpe]
    exact BQ_r (End_1 Tryd.results7 (RV_A A27 rfl hB2.atAll rfl) ⟨⟨s.tx, val 6, insD ks pa (val 4, m), val 13, insD vs pa (val 11, x), s.mr, s.lv⟩, rfl, ⟨Sn.R.of hNk2 hNv2 (by show (insD ks pa (val 4, m)).length = (insD vs pa (val 11, x)).length; rw [ins_len hgl, ins_len (by omega), hlkv]) (by show LOK (bl (insD ks pa (val 4, m))); rw [bl_ins, hks]; intro y hy; rcases ins_mem hy with rfl | hy; (· exact hm); (· exact hs.ok.l.sub (fun x hx => wo_mem hx) y hy)) (by show LOK (bl (insD vs pa (val 11, x))); rw [bl_ins, hvs]; intro y hy; rcases ins_mem hy with rfl | hy; (· exact hxl); (· exact hs.ov.l.sub (fun x hx => wo_mem hx) y hy)) (by show (insD ks pa (val 4, m)).length ≤ 1048576; rw [ins_len hgl]; omega) (by omega) (by omega) (by omega) (by omega), rfl, rfl, rfl⟩, hdk, hdv, hU.own hn0⟩)
end Go.Proofs.YthncpmablodbjaaDoor
