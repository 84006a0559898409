/-
 Spaces: wakes. (Printed by wip/gen/t13j.py of this repo.)
-/
import Derived.Test.YtmaikcnjgkoghaaSpI
namespace Go.Proofs.Ytmaikcnjgkoghaa
open Go Go.SL Go.Proofs
set_option linter.unusedVariables false

def uW : List Bool := [true, true, true, true] ++ List.replicate 28 false
def uW4 : List Bool := [true, true, true, true, true] ++ List.replicate 27 false
theorem setW : setAll (List.replicate (32 : Int).toNat false) ([0, 1, 2, 3] ++ []) = uW := by decide +kernel
theorem may0 : MayS 32 uW [] := ⟨⟨⟨by decide, by decide, by decide +kernel⟩, by decide +kernel⟩, inL_0⟩
theorem may4 : MayS 32 uW4 [] := ⟨⟨⟨by decide, by decide, by decide +kernel⟩, by decide +kernel⟩, inL_0⟩
theorem may5 : MayS 32 uW4 [(4, 5)] := ⟨⟨⟨by decide, by decide, by decide +kernel⟩, by decide +kernel⟩, (inL_step (k := 0) (x := (4, 5)) rfl).2 ⟨inL_0, by decide, by decide, by decide +kernel, by decide +kernel⟩⟩
theorem not_may : ¬ MayS 0 [] [] := fun h => absurd h.1.1.1 (by decide)
theorem wl1 : (opL 32 uW [] 1 []).length = 28 := by rw [opL_may may0]; decide +kernel
theorem wl8 : (opL 32 uW4 [(4, 5)] 8 []).length = 27 := by rw [opL_may may5]; decide +kernel
theorem wl9 : (opL 32 uW4 [(4, 5)] 9 []).length = 28 := by rw [opL_may may5]; decide +kernel
theorem wl94 : (opL 32 uW4 [(4, 5)] 9 [4]).length = 27 := by rw [opL_may may5]; decide +kernel
theorem wtk : takeD 32 uW [] 1 [] = (4, uW4, [], 0) := take_hit may0 (by rw [opL_may may0]; decide +kernel)

set_option maxRecDepth 10000 in
set_option maxHeartbeats 1000000 in
theorem c_wakes (w : World) : CT Try.prog 8 #[] w fun v w' => v = .bool true ∧ Ext w w' := by
 obtain ⟨n0, hn0⟩ : ∃ n, n = w.heap.size := ⟨_, rfl⟩
 have hU : Upd (fun i => n0 ≤ i) w w := Upd.refl _ _
 refine CT_of Try.func8 rfl rfl rfl ?_
 refine W_seq ?_
 refine W_reg ?_
 refine L_op rfl (X_assign (v := (.bool (false))) rfl ?_)
 refine L_nil ?_
 refine T_n ?_
 refine W_seq ?_
 refine W_reg ?_
 obtain ⟨s1, hs1_⟩ : ∃ n, n = w.heap.size := ⟨_, rfl⟩
 have hcr_ := c_new 32 (.slice none 0 0) [] w 0 0 (Nat.zero_le _) (NRd.nil _ _ _) (by decide)
 refine L_op rfl (X_fn (vs := [.int .i64 32, .slice none 0 0]) en14 rfl ?_)
 refine CT.mono hcr_ ?_
 clear hcr_
 rintro _ w1 ⟨_, hq_, hu1⟩
 obtain ⟨uA, rfl, hA⟩ := hq_ ⟨by decide, by decide, fun _ h => by cases h⟩
 rw [setW] at hA
 have hz1 := hu1.size
 obtain ⟨u1, hu1_⟩ : ∃ n, n = w1.heap.size := ⟨_, rfl⟩
 rw [← hs1_, ← hu1_] at hA
 have hs1 : (⟨32, uA, .slice none 0 0, uW, []⟩ : Sp).Rd w1 s1 u1 := ⟨hA.rd, NRd.nil _ _ _⟩
 replace hU := hU.trans (Ext.upd hu1)
 have hsA := hA.1.sv
 refine L_op rfl (X_move (v := (.tuple #[(.agg #[(.int .i64 (32)), uA, (.slice none 0 0)]), (.int .i64 (0))])) rfl ?_)
 refine L_op rfl (X_extract (l := [(.agg #[(.int .i64 (32)), uA, (.slice none 0 0)]), (.int .i64 (0))]) (v := (.agg #[(.int .i64 (32)), uA, (.slice none 0 0)])) rfl rfl ?_)
 refine L_op rfl (X_extract (l := [(.agg #[(.int .i64 (32)), uA, (.slice none 0 0)]), (.int .i64 (0))]) (v := (.int .i64 (0))) rfl rfl ?_)
 refine L_op rfl (X_alloc (z := (.agg #[(.int .i64 (0)), (.slice none 0 0), (.slice none 0 0)])) (c := #[(.int .i64 (0)), (.slice none 0 0), (.slice none 0 0)]) Zv25 rfl ?_)
 intro b2 w2 hn2
 have hbn2 := hn2.num; have hbs2 := hn2.size
 replace hU := hU.trans (Ext.upd hn2.ext)
 replace hs1 := hs1.ext hn2.ext
 have hB2 := hn2.blk
 refine L_op0 (X_storeW (b := b2) (ys := [(.int .i64 (32)), uA, (.slice none 0 0)]) A25 rfl rfl (List.forall_mem_cons.2 ⟨rfl, (List.forall_mem_cons.2 ⟨(hsA.one), (List.forall_mem_cons.2 ⟨rfl, (fun _ h => by cases h)⟩)⟩)⟩) rfl hB2 rfl ?_)
 intro w3 hu3 hb3
 have hz3 := hu3.size
 replace hU := hU.trans (hu3.mono fun i _ h => by have h : i = b2 := h; show n0 ≤ i; omega)
 replace hs1 := hs1.upd hu3 fun i h1 h2 h => by have h : i = b2 := h; omega
 replace hB2 : Blk w3 b2 #[(.int .i64 (32)), uA, (.slice none 0 0)] 25 := hb3
 refine L_op rfl (X_assign (v := (.int .i64 (0))) rfl ?_)
 refine L_nil ?_
 refine T_n ?_
 refine W_seq ?_
 refine W_reg ?_
 refine L_op rfl (X_loadA (p := (ptr b2 (0))) (xs := [(.int .i64 (32)), uA, (.slice none 0 0)]) A25 rfl hB2.atAll rfl ?_)
 have hcr_ := c_left (⟨32, uA, .slice none 0 0, uW, []⟩ : Sp) 1 (.slice none 0 0) [] w3 s1 u1 0 0 (by omega) (Nat.zero_le _) (by intro x hx; cases hx) (by decide) (by decide) hs1 (NRd.nil _ _ _)
 refine L_op rfl (X_fn (vs := [(.agg ([(.int .i64 (32)), uA, (.slice none 0 0)]).toArray), (.int .u32 (1)), (.slice none 0 0)]) en12 rfl ?_)
 refine CT.mono hcr_ ?_
 clear hcr_
 rintro _ w4 ⟨rfl, hu4⟩
 have hz4 := hu4.size
 replace hU := hU.trans (Ext.upd hu4)
 replace hs1 := hs1.ext hu4
 replace hB2 := hB2.ext hu4
 rw [show (opL ((⟨32, uA, .slice none 0 0, uW, []⟩ : Sp)).sz ((⟨32, uA, .slice none 0 0, uW, []⟩ : Sp)).us ((⟨32, uA, .slice none 0 0, uW, []⟩ : Sp)).ls 1 []).length = 28 from wl1]
 refine L_op rfl (X_assign (v := (.int .i64 (28))) rfl ?_)
 refine L_nil ?_
 refine T_n ?_
 refine W_seq ?_
 refine W_reg ?_
 refine L_op rfl (X_loadA (p := (ptr b2 (0))) (xs := [(.int .i64 (32)), uA, (.slice none 0 0)]) A25 rfl hB2.atAll rfl ?_)
 obtain ⟨s2, hs2_⟩ : ∃ n, n = w4.heap.size := ⟨_, rfl⟩
 have hcr_ := c_take (⟨32, uA, .slice none 0 0, uW, []⟩ : Sp) 1 (.slice none 0 0) [] w4 s1 u1 0 0 (by omega) (Nat.zero_le _) (by intro x hx; cases hx) (by decide) (by decide) hs1 (NRd.nil _ _ _) (by show uW.length ≤ 1048576; decide +kernel) (Nat.zero_le _)
 refine L_op rfl (X_fn (vs := [(.agg ([(.int .i64 (32)), uA, (.slice none 0 0)]).toArray), (.int .u32 (1)), (.slice none 0 0)]) en13 rfl ?_)
 refine CT.mono hcr_ ?_
 clear hcr_
 rintro _ w5 ⟨o, rfl, hoO, hosz, hous, hols, hu5⟩
 have hwtk : takeD (⟨32, uA, .slice none 0 0, uW, []⟩ : Sp).sz (⟨32, uA, .slice none 0 0, uW, []⟩ : Sp).us (⟨32, uA, .slice none 0 0, uW, []⟩ : Sp).ls 1 [] = (4, uW4, [], 0) := wtk
 rw [hwtk] at hous hols ⊢
 replace hosz : o.sz = 32 := hosz
 replace hous : o.us = uW4 := hous
 replace hols : o.ls = [] := hols
 have hz5 := hu5.size
 obtain ⟨u2, hu2_⟩ : ∃ n, n = w5.heap.size := ⟨_, rfl⟩
 rw [← hs2_, ← hu2_] at hoO
 have hoR := hoO.rd
 replace hU := hU.trans (Ext.upd hu5)
 replace hs1 := hs1.ext hu5
 replace hB2 := hB2.ext hu5
 refine L_op rfl (X_move (v := (.tuple #[(.int .i64 (4)), (.agg #[(.int .i64 (o.sz)), o.uv, o.lv]), (.int .i64 (0))])) rfl ?_)
 refine L_op rfl (X_extract (l := [(.int .i64 (4)), (.agg #[(.int .i64 (o.sz)), o.uv, o.lv]), (.int .i64 (0))]) (v := (.int .i64 (4))) rfl rfl ?_)
 refine L_op rfl (X_extract (l := [(.int .i64 (4)), (.agg #[(.int .i64 (o.sz)), o.uv, o.lv]), (.int .i64 (0))]) (v := (.agg #[(.int .i64 (o.sz)), o.uv, o.lv])) rfl rfl ?_)
 refine L_op rfl (X_extract (l := [(.int .i64 (4)), (.agg #[(.int .i64 (o.sz)), o.uv, o.lv]), (.int .i64 (0))]) (v := (.int .i64 (0))) rfl rfl ?_)
 refine L_op rfl (X_alloc (z := (.agg #[(.int .i64 (0)), (.slice none 0 0), (.slice none 0 0)])) (c := #[(.int .i64 (0)), (.slice none 0 0), (.slice none 0 0)]) Zv25 rfl ?_)
 intro b6 w6 hn6
 have hbn6 := hn6.num; have hbs6 := hn6.size
 replace hU := hU.trans (Ext.upd hn6.ext)
 replace hs1 := hs1.ext hn6.ext
 replace hB2 := hB2.ext hn6.ext
 replace hoR := hoR.ext hn6.ext
 have hB6 := hn6.blk
 refine L_op rfl (X_assign (v := (.int .i64 (4))) rfl ?_)
 refine L_op0 (X_storeW (b := b6) (ys := [(.int .i64 (o.sz)), o.uv, o.lv]) A25 rfl rfl (List.forall_mem_cons.2 ⟨rfl, (List.forall_mem_cons.2 ⟨(hoR.1.sv.one), (List.forall_mem_cons.2 ⟨(hoR.2.sv.one), (fun _ h => by cases h)⟩)⟩)⟩) rfl hB6 rfl ?_)
 intro w7 hu7 hb7
 have hz7 := hu7.size
 replace hU := hU.trans (hu7.mono fun i _ h => by have h : i = b6 := h; show n0 ≤ i; omega)
 replace hs1 := hs1.upd hu7 fun i h1 h2 h => by have h : i = b6 := h; omega
 replace hB2 := hB2.upd hu7 fun h => by have h : b2 = b6 := h; omega
 replace hoR := hoR.upd hu7 fun i h1 h2 h => by have h : i = b6 := h; omega
 replace hB6 : Blk w7 b6 #[(.int .i64 (o.sz)), o.uv, o.lv] 25 := hb7
 refine L_op rfl (X_assign (v := (.int .i64 (0))) rfl ?_)
 refine L_nil ?_
 refine T_n ?_
 refine W_seq ?_
 refine W_reg ?_
 refine L_op rfl (X_loadA (p := (ptr b6 (0))) (xs := [(.int .i64 (o.sz)), o.uv, o.lv]) A25 rfl hB6.atAll rfl ?_)
 refine L_op rfl (X_move (v := (.int .i64 (4))) rfl ?_)
 obtain ⟨s3, hs3_⟩ : ∃ n, n = w7.heap.size := ⟨_, rfl⟩
 have hHe : HeldS o 4 := ⟨by rw [hosz, hous, hols]; exact may4, by decide, by rw [hosz]; decide, by rw [hous]; decide +kernel, by rw [hols]; rfl⟩
 have hcr_ := c_free0 o 4 5 w7 s2 u2 (by omega) hoR (by rw [hous]; decide +kernel) hols (by rw [hols]; decide)
 refine L_op rfl (X_fn (vs := [(.agg ([(.int .i64 (o.sz)), o.uv, o.lv]).toArray), (.int .i64 (4)), (.int .u32 (5))]) en9 rfl ?_)
 refine CT.mono hcr_ ?_
 clear hcr_
 rintro _ w8 ⟨_, hq_, hu8⟩
 obtain ⟨o2, rfl, ho2, hosz2, hous2, hols2⟩ := hq_ hHe
 rw [hosz] at hosz2; rw [hous] at hous2; rw [hols] at hols2
 replace hols2 : o2.ls = [(4, 5)] := hols2
 have hz8 := hu8.size
 obtain ⟨u3, hu3_⟩ : ∃ n, n = w8.heap.size := ⟨_, rfl⟩
 rw [← hs3_, ← hu3_] at ho2
 have hoR2 := ho2.rd
 replace hU := hU.trans (Ext.upd hu8)
 replace hs1 := hs1.ext hu8
 replace hB2 := hB2.ext hu8
 replace hoR := hoR.ext hu8
 replace hB6 := hB6.ext hu8
 refine L_op rfl (X_move (v := (.tuple #[(.agg #[(.int .i64 (o2.sz)), o2.uv, o2.lv]), (.int .i64 (0))])) rfl ?_)
 refine L_op rfl (X_extract (l := [(.agg #[(.int .i64 (o2.sz)), o2.uv, o2.lv]), (.int .i64 (0))]) (v := (.agg #[(.int .i64 (o2.sz)), o2.uv, o2.lv])) rfl rfl ?_)
 refine L_op rfl (X_extract (l := [(.agg #[(.int .i64 (o2.sz)), o2.uv, o2.lv]), (.int .i64 (0))]) (v := (.int .i64 (0))) rfl rfl ?_)
 refine L_op rfl (X_alloc (z := (.agg #[(.int .i64 (0)), (.slice none 0 0), (.slice none 0 0)])) (c := #[(.int .i64 (0)), (.slice none 0 0), (.slice none 0 0)]) Zv25 rfl ?_)
 intro b9 w9 hn9
 have hbn9 := hn9.num; have hbs9 := hn9.size
 replace hU := hU.trans (Ext.upd hn9.ext)
 replace hs1 := hs1.ext hn9.ext
 replace hB2 := hB2.ext hn9.ext
 replace hoR := hoR.ext hn9.ext
 replace hB6 := hB6.ext hn9.ext
 replace hoR2 := hoR2.ext hn9.ext
 have hB9 := hn9.blk
 refine L_op0 (X_storeW (b := b9) (ys := [(.int .i64 (o2.sz)), o2.uv, o2.lv]) A25 rfl rfl (List.forall_mem_cons.2 ⟨rfl, (List.forall_mem_cons.2 ⟨(hoR2.1.sv.one), (List.forall_mem_cons.2 ⟨(hoR2.2.sv.one), (fun _ h => by cases h)⟩)⟩)⟩) rfl hB9 rfl ?_)
 intro w10 hu10 hb10
 have hz10 := hu10.size
 replace hU := hU.trans (hu10.mono fun i _ h => by have h : i = b9 := h; show n0 ≤ i; omega)
 replace hs1 := hs1.upd hu10 fun i h1 h2 h => by have h : i = b9 := h; omega
 replace hB2 := hB2.upd hu10 fun h => by have h : b2 = b9 := h; omega
 replace hoR := hoR.upd hu10 fun i h1 h2 h => by have h : i = b9 := h; omega
 replace hB6 := hB6.upd hu10 fun h => by have h : b6 = b9 := h; omega
 replace hoR2 := hoR2.upd hu10 fun i h1 h2 h => by have h : i = b9 := h; omega
 replace hB9 : Blk w10 b9 #[(.int .i64 (o2.sz)), o2.uv, o2.lv] 25 := hb10
 refine L_op rfl (X_assign (v := (.int .i64 (0))) rfl ?_)
 refine L_nil ?_
 refine T_n ?_
 refine W_seq ?_
 refine W_reg ?_
 have hcr_ := c_new 31 (.slice none 0 0) [] w10 0 0 (Nat.zero_le _) (NRd.nil _ _ _) (by decide)
 refine L_op rfl (X_fn (vs := [.int .i64 31, .slice none 0 0]) en14 rfl ?_)
 refine CT.mono hcr_ ?_
 clear hcr_
 rintro _ w11 ⟨hq_, _, hu11⟩
 obtain rfl := hq_ (.inl (by decide))
 have hz11 := hu11.size
 replace hU := hU.trans (Ext.upd hu11)
 replace hs1 := hs1.ext hu11
 replace hB2 := hB2.ext hu11
 replace hoR := hoR.ext hu11
 replace hB6 := hB6.ext hu11
 replace hoR2 := hoR2.ext hu11
 replace hB9 := hB9.ext hu11
 refine L_op rfl (X_move (v := (.tuple #[(.agg #[(.int .i64 (0)), (.slice none 0 0), (.slice none 0 0)]), (.int .i64 (2))])) rfl ?_)
 refine L_op rfl (X_extract (l := [(.agg #[(.int .i64 (0)), (.slice none 0 0), (.slice none 0 0)]), (.int .i64 (2))]) (v := (.agg #[(.int .i64 (0)), (.slice none 0 0), (.slice none 0 0)])) rfl rfl ?_)
 refine L_op rfl (X_extract (l := [(.agg #[(.int .i64 (0)), (.slice none 0 0), (.slice none 0 0)]), (.int .i64 (2))]) (v := (.int .i64 (2))) rfl rfl ?_)
 refine L_op rfl (X_alloc (z := (.agg #[(.int .i64 (0)), (.slice none 0 0), (.slice none 0 0)])) (c := #[(.int .i64 (0)), (.slice none 0 0), (.slice none 0 0)]) Zv25 rfl ?_)
 intro b12 w12 hn12
 have hbn12 := hn12.num; have hbs12 := hn12.size
 replace hU := hU.trans (Ext.upd hn12.ext)
 replace hs1 := hs1.ext hn12.ext
 replace hB2 := hB2.ext hn12.ext
 replace hoR := hoR.ext hn12.ext
 replace hB6 := hB6.ext hn12.ext
 replace hoR2 := hoR2.ext hn12.ext
 replace hB9 := hB9.ext hn12.ext
 have hB12 := hn12.blk
 refine L_op0 (X_storeW (b := b12) (ys := [(.int .i64 (0)), (.slice none 0 0), (.slice none 0 0)]) A25 rfl rfl (List.forall_mem_cons.2 ⟨rfl, (List.forall_mem_cons.2 ⟨rfl, (List.forall_mem_cons.2 ⟨rfl, (fun _ h => by cases h)⟩)⟩)⟩) rfl hB12 rfl ?_)
 intro w13 hu13 hb13
 have hz13 := hu13.size
 replace hU := hU.trans (hu13.mono fun i _ h => by have h : i = b12 := h; show n0 ≤ i; omega)
 replace hs1 := hs1.upd hu13 fun i h1 h2 h => by have h : i = b12 := h; omega
 replace hB2 := hB2.upd hu13 fun h => by have h : b2 = b12 := h; omega
 replace hoR := hoR.upd hu13 fun i h1 h2 h => by have h : i = b12 := h; omega
 replace hB6 := hB6.upd hu13 fun h => by have h : b6 = b12 := h; omega
 replace hoR2 := hoR2.upd hu13 fun i h1 h2 h => by have h : i = b12 := h; omega
 replace hB9 := hB9.upd hu13 fun h => by have h : b9 = b12 := h; omega
 replace hB12 : Blk w13 b12 #[(.int .i64 (0)), (.slice none 0 0), (.slice none 0 0)] 25 := hb13
 refine L_op rfl (X_assign (v := (.int .i64 (2))) rfl ?_)
 refine L_nil ?_
 refine T_n ?_
 refine W_seq ?_
 refine W_reg ?_
 refine L_op rfl (X_move (v := (.int .i64 (0))) rfl ?_)
 refine L_op rfl (X_cmp (k := .i64) (a := 0) (b := 0) (r := true) rfl rfl rfl rfl ?_)
 refine L_op rfl (X_move (v := (.bool (true))) rfl ?_)
 refine L_gy (dj := 35) rfl rfl rfl (X_move (v := (.int .i64 (28))) rfl ?_)
 refine L_gy (dj := 35) rfl rfl rfl (X_cmp (k := .i64) (a := 28) (b := 28) (r := true) rfl rfl rfl rfl ?_)
 refine L_op rfl (X_pick (t := true) (v := (.bool (true))) rfl rfl ?_)
 refine L_op rfl (X_move (v := (.bool (true))) rfl ?_)
 refine L_gy (dj := 39) rfl rfl rfl (X_move (v := (.int .i64 (4))) rfl ?_)
 refine L_gy (dj := 39) rfl rfl rfl (X_cmp (k := .i64) (a := 4) (b := 4) (r := true) rfl rfl rfl rfl ?_)
 refine L_op rfl (X_pick (t := true) (v := (.bool (true))) rfl rfl ?_)
 refine L_op rfl (X_move (v := (.bool (true))) rfl ?_)
 refine L_gy (dj := 43) rfl rfl rfl (X_move (v := (.int .i64 (0))) rfl ?_)
 refine L_gy (dj := 43) rfl rfl rfl (X_cmp (k := .i64) (a := 0) (b := 0) (r := true) rfl rfl rfl rfl ?_)
 refine L_op rfl (X_pick (t := true) (v := (.bool (true))) rfl rfl ?_)
 refine L_op rfl (X_move (v := (.bool (true))) rfl ?_)
 refine L_gy (dj := 47) rfl rfl rfl (X_move (v := (.int .i64 (0))) rfl ?_)
 refine L_gy (dj := 47) rfl rfl rfl (X_cmp (k := .i64) (a := 0) (b := 0) (r := true) rfl rfl rfl rfl ?_)
 refine L_op rfl (X_pick (t := true) (v := (.bool (true))) rfl rfl ?_)
 refine L_op rfl (X_move (v := (.bool (true))) rfl ?_)
 refine L_gy (dj := 51) rfl rfl rfl (X_loadA (p := (ptr b9 (0))) (xs := [(.int .i64 (o2.sz)), o2.uv, o2.lv]) A25 rfl hB9.atAll rfl ?_)
 have hcr_ := c_left o2 8 (.slice none 0 0) [] w13 s3 u3 0 0 (by omega) (Nat.zero_le _) (by intro x hx; rw [hols2] at hx; rcases List.mem_singleton.1 hx with rfl; exact ⟨by decide, by decide⟩) (by decide) (by decide) hoR2 (NRd.nil _ _ _)
 refine L_gy (dj := 51) rfl rfl rfl (X_fn (vs := [(.agg ([(.int .i64 (o2.sz)), o2.uv, o2.lv]).toArray), (.int .u32 (8)), (.slice none 0 0)]) en12 rfl ?_)
 refine CT.mono hcr_ ?_
 clear hcr_
 rintro _ w14 ⟨rfl, hu14⟩
 have hz14 := hu14.size
 replace hU := hU.trans (Ext.upd hu14)
 replace hs1 := hs1.ext hu14
 replace hB2 := hB2.ext hu14
 replace hoR := hoR.ext hu14
 replace hB6 := hB6.ext hu14
 replace hoR2 := hoR2.ext hu14
 replace hB9 := hB9.ext hu14
 replace hB12 := hB12.ext hu14
 rw [hosz2, hous2, hols2, wl8]
 refine L_gy (dj := 51) rfl rfl rfl (X_cmp (k := .i64) (a := 27) (b := 27) (r := true) rfl rfl rfl rfl ?_)
 refine L_op rfl (X_pick (t := true) (v := (.bool (true))) rfl rfl ?_)
 refine L_op rfl (X_move (v := (.bool (true))) rfl ?_)
 refine L_gy (dj := 56) rfl rfl rfl (X_loadA (p := (ptr b9 (0))) (xs := [(.int .i64 (o2.sz)), o2.uv, o2.lv]) A25 rfl hB9.atAll rfl ?_)
 have hcr_ := c_left o2 9 (.slice none 0 0) [] w14 s3 u3 0 0 (by omega) (Nat.zero_le _) (by intro x hx; rw [hols2] at hx; rcases List.mem_singleton.1 hx with rfl; exact ⟨by decide, by decide⟩) (by decide) (by decide) hoR2 (NRd.nil _ _ _)
 refine L_gy (dj := 56) rfl rfl rfl (X_fn (vs := [(.agg ([(.int .i64 (o2.sz)), o2.uv, o2.lv]).toArray), (.int .u32 (9)), (.slice none 0 0)]) en12 rfl ?_)
 refine CT.mono hcr_ ?_
 clear hcr_
 rintro _ w15 ⟨rfl, hu15⟩
 have hz15 := hu15.size
 replace hU := hU.trans (Ext.upd hu15)
 replace hs1 := hs1.ext hu15
 replace hB2 := hB2.ext hu15
 replace hoR := hoR.ext hu15
 replace hB6 := hB6.ext hu15
 replace hoR2 := hoR2.ext hu15
 replace hB9 := hB9.ext hu15
 replace hB12 := hB12.ext hu15
 rw [hosz2, hous2, hols2, wl9]
 refine L_gy (dj := 56) rfl rfl rfl (X_cmp (k := .i64) (a := 28) (b := 28) (r := true) rfl rfl rfl rfl ?_)
 refine L_op rfl (X_pick (t := true) (v := (.bool (true))) rfl rfl ?_)
 refine L_op rfl (X_move (v := (.bool (true))) rfl ?_)
 refine L_gy (dj := 61) rfl rfl rfl (X_loadA (p := (ptr b9 (0))) (xs := [(.int .i64 (o2.sz)), o2.uv, o2.lv]) A25 rfl hB9.atAll rfl ?_)
 refine L_gy (dj := 61) rfl rfl rfl (X_buildSlice1 (vs := [(.int .u32 (4))]) S52 (by decide) rfl rfl (List.forall_mem_cons.2 ⟨rfl, (fun _ h => by cases h)⟩) ?_)
 intro b16 w16 hn16
 have hbn16 := hn16.num; have hbs16 := hn16.size
 replace hU := hU.trans (Ext.upd hn16.ext)
 replace hs1 := hs1.ext hn16.ext
 replace hB2 := hB2.ext hn16.ext
 replace hoR := hoR.ext hn16.ext
 replace hB6 := hB6.ext hn16.ext
 replace hoR2 := hoR2.ext hn16.ext
 replace hB9 := hB9.ext hn16.ext
 replace hB12 := hB12.ext hn16.ext
 have hB16 := hn16.blk
 have hcr_ := c_left o2 9 (.slice (some ⟨b16, 0, none⟩) 1 1) [4] w16 s3 u3 0 w16.heap.size (by omega) (Nat.le_refl _) (by intro x hx; rw [hols2] at hx; rcases List.mem_singleton.1 hx with rfl; exact ⟨by decide, by decide⟩) (by decide) (by decide) hoR2 (NRd.of (es := [4]) (fun _ => rfl) (hB16.rd (o := 0) (n := 1) (c := 1) (sz := 1) (by decide) (by decide) rfl (fun j u hj => by rw [Nat.zero_add]; simpa [LU] using hj)) (fun b hb => by cases hb; exact ⟨Nat.zero_le _, hB16.lt⟩))
 refine L_gy (dj := 61) rfl rfl rfl (X_fn (vs := [(.agg ([(.int .i64 (o2.sz)), o2.uv, o2.lv]).toArray), (.int .u32 (9)), (.slice (some ⟨b16, 0, none⟩) 1 1)]) en12 rfl ?_)
 refine CT.mono hcr_ ?_
 clear hcr_
 rintro _ w17 ⟨rfl, hu17⟩
 have hz17 := hu17.size
 replace hU := hU.trans (Ext.upd hu17)
 replace hs1 := hs1.ext hu17
 replace hB2 := hB2.ext hu17
 replace hoR := hoR.ext hu17
 replace hB6 := hB6.ext hu17
 replace hoR2 := hoR2.ext hu17
 replace hB9 := hB9.ext hu17
 replace hB12 := hB12.ext hu17
 replace hB16 := hB16.ext hu17
 rw [hosz2, hous2, hols2, wl94]
 refine L_gy (dj := 61) rfl rfl rfl (X_cmp (k := .i64) (a := 27) (b := 27) (r := true) rfl rfl rfl rfl ?_)
 refine L_op rfl (X_pick (t := true) (v := (.bool (true))) rfl rfl ?_)
 refine L_op rfl (X_move (v := (.bool (true))) rfl ?_)
 refine L_gy (dj := 67) rfl rfl rfl (X_move (v := (.int .i64 (2))) rfl ?_)
 refine L_gy (dj := 67) rfl rfl rfl (X_cmp (k := .i64) (a := 2) (b := 2) (r := true) rfl rfl rfl rfl ?_)
 refine L_op rfl (X_pick (t := true) (v := (.bool (true))) rfl rfl ?_)
 refine L_op rfl (X_move (v := (.bool (true))) rfl ?_)
 refine L_gy (dj := 71) rfl rfl rfl (X_loadA (p := (ptr b9 (0))) (xs := [(.int .i64 (o2.sz)), o2.uv, o2.lv]) A25 rfl hB9.atAll rfl ?_)
 have hcr_ := c_may o2 w17 s3 u3 (by omega) hoR2
 refine L_gy (dj := 71) rfl rfl rfl (X_fn (vs := [(.agg ([(.int .i64 (o2.sz)), o2.uv, o2.lv]).toArray)]) en11 rfl ?_)
 refine CT.mono hcr_ ?_
 clear hcr_
 rintro _ w18 ⟨⟨g18, rfl, hg18⟩, hu18⟩
 have hz18 := hu18.size
 replace hU := hU.trans (Ext.upd hu18)
 replace hs1 := hs1.ext hu18
 replace hB2 := hB2.ext hu18
 replace hoR := hoR.ext hu18
 replace hB6 := hB6.ext hu18
 replace hoR2 := hoR2.ext hu18
 replace hB9 := hB9.ext hu18
 replace hB12 := hB12.ext hu18
 replace hB16 := hB16.ext hu18
 obtain rfl : g18 = true := hg18.2 (by rw [hosz2, hous2, hols2]; exact may5)
 refine L_op rfl (X_pick (t := true) (v := (.bool (true))) rfl rfl ?_)
 refine L_op rfl (X_move (v := (.bool (true))) rfl ?_)
 refine L_gy (dj := 75) rfl rfl rfl (X_build (c := ([(.int .i64 (0)), (.slice none 0 0), (.slice none 0 0)]).toArray) rfl ?_)
 have hcr_ := c_may (⟨0, .slice none 0 0, .slice none 0 0, [], []⟩ : Sp) w18 0 0 (by omega) ⟨NRd.nil _ _ _, NRd.nil _ _ _⟩
 refine L_gy (dj := 75) rfl rfl rfl (X_fn (vs := [(.agg ([(.int .i64 (0)), (.slice none 0 0), (.slice none 0 0)]).toArray)]) en11 rfl ?_)
 refine CT.mono hcr_ ?_
 clear hcr_
 rintro _ w19 ⟨⟨g19, rfl, hg19⟩, hu19⟩
 have hz19 := hu19.size
 replace hU := hU.trans (Ext.upd hu19)
 replace hs1 := hs1.ext hu19
 replace hB2 := hB2.ext hu19
 replace hoR := hoR.ext hu19
 replace hB6 := hB6.ext hu19
 replace hoR2 := hoR2.ext hu19
 replace hB9 := hB9.ext hu19
 replace hB12 := hB12.ext hu19
 replace hB16 := hB16.ext hu19
 obtain rfl : g19 = false := (Bool.eq_false_iff).2 fun h_ => not_may (hg19.1 h_)
 refine L_gy (dj := 75) rfl rfl rfl (X_not (b := false) (r := true) rfl rfl ?_)
 refine L_op rfl (X_pick (t := true) (v := (.bool (true))) rfl rfl ?_)
 refine L_op rfl (X_assign (v := (.bool (true))) rfl ?_)
 refine L_nil ?_
 refine T_n ?_
 refine W_ret ?_
 exact BQ_r (End_1 Try.results8 (v := .bool true) rfl ⟨rfl, hU.own hn0⟩)
end Go.Proofs.Ytmaikcnjgkoghaa
