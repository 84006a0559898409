/-
  The contracts of branches: wakes. (Printed by wip/gen/t07k.py of this repo.)
-/
import Derived.Test.YtbgpegccnalkeaaDoorKidsLaw
import Derived.Test.YtbgpegccnalkeaaDoorBaseN
namespace Go.Proofs.YtbgpegccnalkeaaDoor
open Go Go.SL Go.Proofs
set_option linter.unusedVariables false

theorem u16_add {a : Int} (h : 0 ≤ a ∧ a < 60000) : iop .add .u16 a 1 = a + 1 := by
  have e : (2 : Int) ^ 16 = 65536 := by decide
  show IntKind.u16.wrap (a + 1) = a + 1
  simp only [IntKind.wrap, IntKind.signed, IntKind.bits, e, Bool.false_and, Bool.false_eq_true, if_false]
  omega
theorem built41k (a b c : Int) : Tryd.prog.built 41 [(0, .int .u8 1), (1, .agg #[.int .u16 a, .int .u16 b]), (2, .int .u32 c)] = some (ptC (1, a, b, c, 0)).toArray := by kernel_rfl
def KW1 : List KD := [([], (1, 4, 5, 1, 0))]
def KW : List KD := [([], (1, 4, 5, 1, 0)), ([97], (1, 6, 7, 7, 0))]
theorem KW_right : RightK KW := by decide +kernel
theorem KW1_not : ¬ RightK KW1 := by decide +kernel
theorem KW_pts : ∀ d ∈ KW, PtOk d.2 := by
  intro d hd
  simp only [KW, List.mem_cons, List.not_mem_nil, or_false] at hd
  rcases hd with rfl | rfl <;> exact ⟨by decide, by decide, by decide, by decide, by decide⟩
theorem enc_0 : (encP KW)[0]? = some 2 := by rw [show encP KW = encK KW from if_pos KW_right, encK_eq KW_right]; rfl
theorem enc_1 : (encP KW)[1]? = some 2 := by rw [show encP KW = encK KW from if_pos KW_right, encK_eq KW_right]; rfl
theorem dec_zero : decE (List.replicate 256 0) = 50 := if_neg fun h => by
  have h1 := h.1
  have h2 : (List.replicate 256 (0 : UInt8)).getD 0 0 = 0 := rfl
  rw [h2] at h1
  cases h1
theorem KW_birth : birthK KW = 7 := by decide +kernel

theorem c_kid (s : List UInt8) (a b : Int) (w : World) (hs : s.length ≤ 1000) (ha : 0 ≤ a ∧ a < 60000) : CT Tryd.prog 22 #[(strV (s)), (.int .u16 (a)), (.int .u32 (b))] w fun v w' => ∃ kv, v = kidV (kv, s, (1, a, a + 1, b, 0)) ∧ Rd w' 1 kv s.length (s.map byteV) ∧ (∀ b, rbk kv = some b → w.heap.size ≤ b ∧ b < w'.heap.size) ∧ Ext w w' := by
  obtain ⟨n0, hn0⟩ : ∃ n, n = w.heap.size := ⟨_, rfl⟩
  have hU : Upd (fun i => n0 ≤ i) w w := Upd.refl _ _
  refine CT_of Tryd.func22 rfl rfl rfl ?_
  refine W_seq ?_
  refine W_reg ?_
  refine L_op rfl (X_alloc (z := (.agg #[(.slice none 0 0), (.int .u8 (0)), (.int .u16 (0)), (.int .u16 (0)), (.int .u32 (0)), (.int .u64 (0))])) (c := #[(.slice none 0 0), (.int .u8 (0)), (.int .u16 (0)), (.int .u16 (0)), (.int .u32 (0)), (.int .u64 (0))]) Zv44 rfl ?_)
  intro b1 w1 hn1
  have hbn1 := hn1.num; have hbs1 := hn1.size
  replace hU := hU.trans (Ext.upd hn1.ext)
  have hB1 := hn1.blk
  refine L_nil ?_
  refine T_n ?_
  refine W_seq ?_
  refine W_reg ?_
  refine L_op rfl (X_move (v := (strV (s))) rfl ?_)
  refine L_op rfl (X_bytesStr (l := s) Tryd.underlying9 Tryd.underlying42 Tryd.underlying5 rfl (by unfold maxLen; omega) ?_)
  intro kv w4 hkv hu4 hkb hz4
  replace hU := hU.trans (Ext.upd hu4)
  replace hB1 := hB1.ext hu4
  have hkv_b : ∀ b, rbk kv = some b → b = w1.heap.size := hkb
  refine L_op rfl (X_move (v := (.int .u16 (a))) rfl ?_)
  refine L_op rfl (X_move (v := (.int .u16 (a))) rfl ?_)
  refine L_op rfl (X_arith (k := .u16) (a := a) (b := 1) (r := a + 1) rfl rfl rfl (u16_add ha) ?_)
  refine L_op rfl (X_build (built38 a (a + 1)) ?_)
  refine L_op rfl (X_move (v := (.int .u32 (b))) rfl ?_)
  refine L_op rfl (X_build (built41k a (a + 1) b) ?_)
  refine L_op rfl (X_build (built44' hkv.sv (1, a, a + 1, b, 0)) ?_)
  refine L_op0 (X_storeW (b := b1) (ys := kv :: ptC (1, a, a + 1, b, 0)) A44 rfl rfl (hkv.sv.kone _) rfl hB1 rfl ?_)
  intro w5 hu5 hb5
  have hz5 := hu5.size
  replace hU := hU.trans (hu5.mono fun i _ h => by have h : i = b1 := h; show n0 ≤ i; omega)
  replace hkv := hkv.upd hu5 fun i hi h => by have hi := hkv_b _ hi; have h : i = b1 := h; omega
  replace hB1 := hb5
  refine L_nil ?_
  refine T_n ?_
  refine W_ret ?_
  exact BQ_r (End_1 Tryd.results22 (RV_A A44 rfl hB1.atAll rfl) ⟨kv, rfl, hkv, fun b hb => by have := hkv_b b hb; omega, hU.own hn0⟩)

theorem c_wakes (w : World) (hT : TabR w) : CT Tryd.prog 9 #[] w fun v w' => v = .bool true ∧ Ext w w' := by
  obtain ⟨n0, hn0⟩ : ∃ n, n = w.heap.size := ⟨_, rfl⟩
  have hU : Upd (fun i => n0 ≤ i) w w := Upd.refl _ _
  have hn1 := tab_pos hT
  refine CT_of Tryd.func9 rfl rfl rfl ?_
  refine W_seq ?_
  refine W_reg ?_
  refine L_op rfl (X_assign (v := (.bool (false))) rfl ?_)
  refine L_nil ?_
  refine T_n ?_
  refine W_seq ?_
  refine W_reg ?_
  obtain ⟨z1, hz1⟩ : ∃ n, n = w.heap.size := ⟨_, rfl⟩
  refine L_op rfl (X_fn (vs := [(.string ⟨#[]⟩), (.int .u16 (4)), (.int .u32 (1))]) en22 rfl (CT.mono (c_kid [] 4 1 _ (by decide) (by decide)) ?_))
  rintro _ wk1 ⟨kv1, rfl, hkv1, hkb1, huk1⟩
  have hzk1 := huk1.size
  rw [← hz1] at hkb1
  replace hU := hU.trans (Ext.upd huk1)
  replace hT := hT.ext huk1
  obtain ⟨z2, hz2⟩ : ∃ n, n = wk1.heap.size := ⟨_, rfl⟩
  refine L_op rfl (X_fn (vs := [(.string ⟨#[97]⟩), (.int .u16 (6)), (.int .u32 (7))]) en22 rfl (CT.mono (c_kid [97] 6 7 _ (by decide) (by decide)) ?_))
  rintro _ wk2 ⟨kv2, rfl, hkv2, hkb2, huk2⟩
  have hzk2 := huk2.size
  rw [← hz2] at hkb2
  replace hU := hU.trans (Ext.upd huk2)
  replace hT := hT.ext huk2
  replace hkv1 := hkv1.ext huk2
  refine L_op rfl (X_buildSliceL (vs := [kidV (kv1, [], ((1 : Int), (4 : Int), (5 : Int), (1 : Int), (0 : Int))), kidV (kv2, [97], ((1 : Int), (6 : Int), (7 : Int), (7 : Int), (0 : Int)))]) (c := [((kv1, [], ((1 : Int), (4 : Int), (5 : Int), (1 : Int), (0 : Int))) : KE), (kv2, [97], ((1 : Int), (6 : Int), (7 : Int), (7 : Int), (0 : Int)))].flatMap LK.cel) S22 (by decide) rfl rfl (List.forall_mem_cons.2 ⟨rfl, List.forall_mem_cons.2 ⟨rfl, fun _ h => by cases h⟩⟩) rfl ?_)
  intro bl wl hnl
  have hbnl := hnl.num; have hbsl := hnl.size
  replace hU := hU.trans (Ext.upd hnl.ext)
  replace hT := hT.ext hnl.ext
  replace hkv1 := hkv1.ext hnl.ext
  replace hkv2 := hkv2.ext hnl.ext
  have hBl := hnl.blk
  obtain ⟨up, hup⟩ : ∃ n, n = wl.heap.size := ⟨_, rfl⟩
  obtain ⟨es, hes⟩ : ∃ es : List KE, es = [(kv1, [], ((1 : Int), (4 : Int), (5 : Int), (1 : Int), (0 : Int))), (kv2, [97], ((1 : Int), (6 : Int), (7 : Int), (7 : Int), (0 : Int)))] := ⟨_, rfl⟩
  have hl : NRd LK wl 0 up (.slice (some ⟨bl, 0, none⟩) 2 2) es := by rw [hes]; exact ⟨hBl.rd (o := 0) (n := 2) (c := 2) (sz := 6) (by decide) (by decide) rfl (fun j u hj => by rw [Nat.zero_add]; simpa using hj), fun b hb => by { have hb : bl = b := Option.some.inj hb; omega }, fun e he s hs => by { have hs : s = (e.1, e.2.1) := by { simpa [LK] using hs }; subst hs; rcases List.mem_cons.1 he with rfl | he; (· exact ⟨hkv1, fun b hb => by have := hkb1 b hb; omega⟩); (· rcases List.mem_cons.1 he with rfl | he; (· exact ⟨hkv2, fun b hb => by have := hkb2 b hb; omega⟩); (· cases he)) }⟩
  have hks : es.map (fun (x : KE) => x.2) = KW := by rw [hes]; rfl
  have hel : es.length = 2 := by rw [hes]; rfl
  have hpt : ∀ e ∈ es, PtOk e.2.2 := fun e he => KW_pts e.2 (hks ▸ List.mem_map_of_mem he)
  skip
  refine L_op rfl (X_assign (v := (.slice (some ⟨bl, 0, none⟩) 2 2)) rfl ?_)
  refine L_nil ?_
  refine T_n ?_
  refine W_seq ?_
  refine W_reg ?_
  refine L_op rfl (X_move (v := (.slice (some ⟨bl, 0, none⟩) 2 2)) rfl ?_)
  refine L_op rfl (X_fn (vs := [(.slice (some ⟨bl, 0, none⟩) 2 2)]) en10 rfl (CT.mono (c_encodeK _ es _ 0 up (by omega) hl hpt hT) ?_))
  rintro _ w1 ⟨rfl, hu1⟩
  have hz1 := hu1.size
  replace hU := hU.trans (Ext.upd hu1)
  replace hT := hT.ext hu1
  replace hl := hl.ext hu1
  rw [hks, encE_ok KW_right]
  refine L_op rfl (X_move (v := (.tuple #[(.agg (((encP KW)).map byteV).toArray), (.int .i64 (0))])) rfl ?_)
  refine L_op rfl (X_extract (l := [(.agg (((encP KW)).map byteV).toArray), (.int .i64 (0))]) (v := (.agg (((encP KW)).map byteV).toArray)) rfl rfl ?_)
  refine L_op rfl (X_extract (l := [(.agg (((encP KW)).map byteV).toArray), (.int .i64 (0))]) (v := (.int .i64 (0))) rfl rfl ?_)
  refine L_op rfl (X_alloc (z := zv26) (c := zc26.toArray) Zv26 rfl ?_)
  intro b2 w2 hn2
  have hbn2 := hn2.num; have hbs2 := hn2.size
  replace hU := hU.trans (Ext.upd hn2.ext)
  replace hT := hT.ext hn2.ext
  replace hl := hl.ext hn2.ext
  have hB2 := hn2.blk
  rw [zc26_eq] at hB2
  refine L_op0 (X_storeW (b := b2) (ys := (((encP KW)).map byteV)) A26 rfl rfl (byteV_one _) (by rw [List.length_map]; exact (encP_len _)) hB2 (by rw [List.size_toArray]; exact (by rw [List.length_map]; exact List.length_replicate)) ?_)
  intro w3 hu3 hb3
  have hz3 := hu3.size
  replace hU := hU.trans (hu3.mono fun i _ h => by have h : i = b2 := h; show n0 ≤ i; omega)
  replace hT := hT.upd hu3 fun i h1 h2 h => by have h : i = b2 := h; omega
  replace hl := hl.upd hu3 fun i h1 h2 h => by have h : i = b2 := h; omega
  replace hB2 := hb3
  refine L_op rfl (X_assign (v := (.int .i64 (0))) rfl ?_)
  refine L_nil ?_
  refine T_n ?_
  refine W_seq ?_
  refine W_reg ?_
  refine L_op rfl (X_loadA (p := (ptr b2 (0))) (xs := (((encP KW)).map byteV)) A26 rfl hB2.atAll (by rw [List.length_map]; exact (encP_len _)) ?_)
  obtain ⟨sd, hsd⟩ : ∃ n, n = w3.heap.size := ⟨_, rfl⟩
  refine L_op rfl (X_fn (vs := [(.agg ((((encP KW)).map byteV)).toArray)]) en12 rfl (CT.mono (c_decodeK (encP KW) _ (encP_len _) hT) ?_))
  rintro _ w4 ⟨vd, rfl, esd, hNd, hdid, hksd, hu4⟩
  have hz4 := hu4.size
  obtain ⟨ud, hupd⟩ : ∃ n, n = w4.heap.size := ⟨_, rfl⟩
  rw [← hsd, ← hupd] at hNd
  replace hU := hU.trans (Ext.upd hu4)
  replace hT := hT.ext hu4
  replace hl := hl.ext hu4
  replace hB2 := hB2.ext hu4
  rw [(dec_encP KW_right KW_pts).1]
  rw [(dec_encP KW_right KW_pts).2] at hksd
  refine L_op rfl (X_move (v := (.tuple #[vd, (.int .i64 (0))])) rfl ?_)
  refine L_op rfl (X_extract (l := [vd, (.int .i64 (0))]) (v := vd) rfl rfl ?_)
  refine L_op rfl (X_extract (l := [vd, (.int .i64 (0))]) (v := (.int .i64 (0))) rfl rfl ?_)
  refine L_op rfl (X_assign (v := vd) rfl ?_)
  refine L_op rfl (X_assign (v := (.int .i64 (0))) rfl ?_)
  refine L_nil ?_
  refine T_n ?_
  refine W_seq ?_
  refine W_reg ?_
  refine L_op rfl (X_build built26z ?_)
  obtain ⟨sz, hsz⟩ : ∃ n, n = w4.heap.size := ⟨_, rfl⟩
  refine L_op rfl (X_fn (vs := [(.agg ((((List.replicate 256 (0 : UInt8))).map byteV)).toArray)]) en12 rfl (CT.mono (c_decodeK (List.replicate 256 (0 : UInt8)) _ List.length_replicate hT) ?_))
  rintro _ w5 ⟨vz, rfl, esz, hNz, hdiz, hksz, hu5⟩
  have hz5 := hu5.size
  obtain ⟨uz, hupz⟩ : ∃ n, n = w5.heap.size := ⟨_, rfl⟩
  rw [← hsz, ← hupz] at hNz
  replace hU := hU.trans (Ext.upd hu5)
  replace hT := hT.ext hu5
  replace hl := hl.ext hu5
  replace hB2 := hB2.ext hu5
  replace hNd := hNd.ext hu5
  rw [dec_zero]
  refine L_op rfl (X_move (v := (.tuple #[vz, (.int .i64 (50))])) rfl ?_)
  refine L_op rfl (X_extract (l := [vz, (.int .i64 (50))]) (v := vz) rfl rfl ?_)
  refine L_op rfl (X_extract (l := [vz, (.int .i64 (50))]) (v := (.int .i64 (50))) rfl rfl ?_)
  refine L_op rfl (X_assign (v := vz) rfl ?_)
  refine L_op rfl (X_assign (v := (.int .i64 (50))) rfl ?_)
  refine L_nil ?_
  refine T_n ?_
  refine W_seq ?_
  refine W_reg ?_
  refine L_op rfl (X_move (v := (.slice (some ⟨bl, 0, none⟩) 2 2)) rfl ?_)
  refine L_op rfl (X_slice (n := es.length) (l := 0) (h' := 1) (kl := .i64) (kh := .i64) S22 rfl hl.sv rfl rfl (by omega) (by omega) ?_)
  have hl1 := hl.cut (l := 0) (h := 1) (by omega) (by omega)
  have hks1 : ((es.drop 0).take (1 - 0)).map (fun (x : KE) => x.2) = KW1 := by rw [hes]; rfl
  refine L_op rfl (X_fn (vs := [(cutv (.slice (some ⟨bl, 0, none⟩) 2 2) 6 0 1)]) en11 rfl (CT.mono (c_rightK _ ((es.drop 0).take (1 - 0)) _ 0 up (by omega) hl1 (fun e he => hpt e (List.mem_of_mem_drop (List.mem_of_mem_take he)))) ?_))
  rintro _ w6 ⟨rfl, hu6⟩
  have hz6 := hu6.size
  replace hU := hU.trans (Ext.upd hu6)
  replace hT := hT.ext hu6
  replace hl := hl.ext hu6
  replace hB2 := hB2.ext hu6
  replace hNd := hNd.ext hu6
  replace hNz := hNz.ext hu6
  replace hl1 := hl1.ext hu6
  rw [hks1, decide_eq_false KW1_not]
  refine L_op rfl (X_not (b := false) (r := true) rfl rfl ?_)
  refine L_op rfl (X_move (v := (.bool (true))) rfl ?_)
  refine L_gy (dj := 30) rfl rfl rfl (X_move (v := (.slice (some ⟨bl, 0, none⟩) 2 2)) rfl ?_)
  refine L_gy (dj := 30) rfl rfl rfl (X_fn (vs := [(.slice (some ⟨bl, 0, none⟩) 2 2)]) en11 rfl (CT.mono (c_rightK _ es _ 0 up (by omega) hl (fun e he => hpt e he)) ?_))
  rintro _ w7 ⟨rfl, hu7⟩
  have hz7 := hu7.size
  replace hU := hU.trans (Ext.upd hu7)
  replace hT := hT.ext hu7
  replace hl := hl.ext hu7
  replace hB2 := hB2.ext hu7
  replace hNd := hNd.ext hu7
  replace hNz := hNz.ext hu7
  replace hl1 := hl1.ext hu7
  rw [hks, decide_eq_true KW_right]
  refine L_op rfl (X_pick (t := true) (v := (.bool (true))) rfl rfl ?_)
  refine L_op rfl (X_move (v := (.bool (true))) rfl ?_)
  refine L_gy (dj := 34) rfl rfl rfl (X_move (v := (.int .i64 (0))) rfl ?_)
  refine L_gy (dj := 34) rfl rfl rfl (X_cmp (k := .i64) (a := 0) (b := 0) (r := true) rfl rfl rfl rfl ?_)
  refine L_op rfl (X_pick (t := true) (v := (.bool (true))) rfl rfl ?_)
  refine L_op rfl (X_move (v := (.bool (true))) rfl ?_)
  refine L_gy (dj := 38) rfl rfl rfl (X_idxAP (len := 256) (sz := 1) (b := b2) (o := 0) (k := .i64) (i := 0) (r := 0) Tryd.underlying26 Z5 rfl rfl (by omega) (by omega) rfl ?_)
  refine L_gy (dj := 38) rfl rfl rfl (X_load (p := (ptr b2 (0))) (v := .int .u8 2) T5 rfl (hB2.at1 (by rw [List.getElem?_toArray, List.getElem?_map, enc_0]; rfl)) ?_)
  refine L_gy (dj := 38) rfl rfl rfl (X_cmp (k := .u8) (a := 2) (b := 2) (r := true) rfl rfl rfl rfl ?_)
  refine L_op rfl (X_pick (t := true) (v := (.bool (true))) rfl rfl ?_)
  refine L_op rfl (X_move (v := (.bool (true))) rfl ?_)
  refine L_gy (dj := 43) rfl rfl rfl (X_idxAP (len := 256) (sz := 1) (b := b2) (o := 0) (k := .i64) (i := 1) (r := 1) Tryd.underlying26 Z5 rfl rfl (by omega) (by omega) rfl ?_)
  refine L_gy (dj := 43) rfl rfl rfl (X_load (p := (ptr b2 (1))) (v := .int .u8 2) T5 rfl (hB2.at1 (by rw [List.getElem?_toArray, List.getElem?_map, enc_1]; rfl)) ?_)
  refine L_gy (dj := 43) rfl rfl rfl (X_cmp (k := .u8) (a := 2) (b := 2) (r := true) rfl rfl rfl rfl ?_)
  refine L_op rfl (X_pick (t := true) (v := (.bool (true))) rfl rfl ?_)
  refine L_op rfl (X_move (v := (.bool (true))) rfl ?_)
  refine L_gy (dj := 48) rfl rfl rfl (X_move (v := (.int .i64 (0))) rfl ?_)
  refine L_gy (dj := 48) rfl rfl rfl (X_cmp (k := .i64) (a := 0) (b := 0) (r := true) rfl rfl rfl rfl ?_)
  refine L_op rfl (X_pick (t := true) (v := (.bool (true))) rfl rfl ?_)
  refine L_op rfl (X_move (v := (.bool (true))) rfl ?_)
  refine L_gy (dj := 52) rfl rfl rfl (X_move (v := vd) rfl ?_)
  refine L_gy (dj := 52) rfl rfl rfl (X_move (v := (.slice (some ⟨bl, 0, none⟩) 2 2)) rfl ?_)
  refine L_gy (dj := 52) rfl rfl rfl (X_fn (vs := [vd, (.slice (some ⟨bl, 0, none⟩) 2 2)]) en13 rfl (CT.mono (c_sameL vd (.slice (some ⟨bl, 0, none⟩) 2 2) esd es _ sd ud 0 up hNd.rd hl) ?_))
  rintro _ w8 ⟨⟨g8, rfl, hg8⟩, hu8⟩
  have hz8 := hu8.size
  replace hU := hU.trans (Ext.upd hu8)
  replace hT := hT.ext hu8
  replace hl := hl.ext hu8
  replace hB2 := hB2.ext hu8
  replace hNd := hNd.ext hu8
  replace hNz := hNz.ext hu8
  replace hl1 := hl1.ext hu8
  obtain rfl : g8 = true := hg8.2 (hksd.trans hks.symm)
  refine L_op rfl (X_pick (t := true) (v := (.bool (true))) rfl rfl ?_)
  refine L_op rfl (X_move (v := (.bool (true))) rfl ?_)
  refine L_gy (dj := 57) rfl rfl rfl (X_move (v := (.int .i64 (50))) rfl ?_)
  refine L_gy (dj := 57) rfl rfl rfl (X_cmp (k := .i64) (a := 50) (b := 50) (r := true) rfl rfl rfl rfl ?_)
  refine L_op rfl (X_pick (t := true) (v := (.bool (true))) rfl rfl ?_)
  refine L_op rfl (X_move (v := (.bool (true))) rfl ?_)
  refine L_gy (dj := 61) rfl rfl rfl (X_move (v := (.slice (some ⟨bl, 0, none⟩) 2 2)) rfl ?_)
  refine L_gy (dj := 61) rfl rfl rfl (X_fn (vs := [(.slice (some ⟨bl, 0, none⟩) 2 2)]) en14 rfl (CT.mono (c_birth _ es _ 0 up (by omega) hl) ?_))
  rintro _ w9 ⟨rfl, hu9⟩
  have hz9 := hu9.size
  replace hU := hU.trans (Ext.upd hu9)
  replace hT := hT.ext hu9
  replace hl := hl.ext hu9
  replace hB2 := hB2.ext hu9
  replace hNd := hNd.ext hu9
  replace hNz := hNz.ext hu9
  replace hl1 := hl1.ext hu9
  rw [hks, KW_birth]
  refine L_gy (dj := 61) rfl rfl rfl (X_cmp (k := .u32) (a := 7) (b := 7) (r := true) rfl rfl rfl rfl ?_)
  refine L_op rfl (X_pick (t := true) (v := (.bool (true))) rfl rfl ?_)
  refine L_op rfl (X_assign (v := (.bool (true))) rfl ?_)
  refine L_nil ?_
  refine T_n ?_
  refine W_ret ?_
  exact BQ_r (End_1 Tryd.results9 (v := .bool true) rfl ⟨rfl, hU.own hn0⟩)
end Go.Proofs.YtbgpegccnalkeaaDoor
