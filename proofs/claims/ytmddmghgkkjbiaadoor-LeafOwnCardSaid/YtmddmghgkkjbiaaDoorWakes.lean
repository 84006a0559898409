/-
  The contracts of leaves: wakes. (Printed by wip/gen/t06l.py of this repo.)
-/
import Derived.Test.YtmddmghgkkjbiaaDoorDecode
import Derived.Test.YtmddmghgkkjbiaaDoorBaseN
namespace Go.Proofs.YtmddmghgkkjbiaaDoor
open Go Go.SL Go.Proofs
set_option linter.unusedVariables false

section conv
variable {ρ : Option Nat} {P : Program} {ty : TypeId} {f : Fr} {w : World} {K : Value → World → Prop}
theorem X_convMark {t e b n : Nat} {cs : Array Value} {te : TypeId} {l : List UInt8} {x : Operand} (hs : P.underlying t = some (.slice e)) (he : P.underlying e = some (.int .u8)) (hx : ev f x = .slice (some ⟨b, 0, none⟩) n n) (hB : Blk w b cs te)
    (hcs : ∀ (j : Nat) (u : Value), (l.map byteV)[j]? = some u → cs[j]? = some u) (hn : l.length = n) (hm : n ≤ 9223372036854775807)
    (h : ∀ w', Upd (fun i => i = b) w w' → Rd w' 1 (.slice (some ⟨b, 0, none⟩) n n) l.length (l.map byteV) → K (.slice (some ⟨b, 0, none⟩) n n) w') : Exec ρ P (.convert t t x) ty f w K := by
  subst hn
  have hsh : w.shape? b = some (te, cs.size) := by
    unfold Blk at hB
    simp [World.shape?, hB]
  have hfz : (w.freeze ⟨b, cs.size, none⟩ 1).heap[b]? = some (.cells cs te (cs.size, cs.size + 1)) := by
    unfold Blk at hB
    simp [World.freeze, Array.getElem?_modify, hB]
  refine X_sv (convert t t (ev f x)) (fun _ => by simp) (fun o ho _ => by unfold execOp; rw [ho]) (w' := w.freeze ⟨b, cs.size, none⟩ 1) ?_ (h _ ?_ ?_)
  · rw [hx]
    simp [convert, run_underlying hs, run_underlying he, markStringish, hsh]
  · refine ⟨rfl, rfl, rfl, by simp [World.freeze], fun i hi hd => ?_⟩
    simp only [World.freeze]
    simp [Array.getElem?_modify]
    intro h2
    exact absurd h2.symm hd
  · refine ⟨by simp, _, _, rfl, Nat.le_refl _, by unfold maxLen; omega, fun _ => ⟨b, 0, rfl, fun j u hj => ?_⟩⟩
    rw [Nat.zero_add]
    unfold World.cell?
    simp only [hfz]
    simpa using hcs j u hj
end conv

theorem built43z : Tryd.prog.built 43 [] = some (itC (.slice none 0 0, .slice none 0 0, [], [], ptZ, 0)).toArray := by kernel_rfl
theorem built24k : Tryd.prog.built 24 [(0, .int .u8 1), (1, .int .u8 0)] = some (((1 : UInt8) :: List.replicate 255 0).map byteV).toArray := by
  rw [List.map_cons, List.map_replicate]; kernel_rfl
def IW0 : List ID := []
def IWZ : List ID := [([], [], ptZ, 0)]
def IWA : List ID := [([97], [], ptZ, 0)]
theorem IW0_right : RightI IW0 := by decide +kernel
theorem IWZ_not : ¬ RightI IWZ := by decide +kernel
theorem IWA_right : RightI IWA := by decide +kernel
theorem IW0_pts : ∀ d ∈ IW0, ItOk d := fun d h => by cases h
theorem ItZ (k : List UInt8) : ItOk (k, [], ptZ, 0) := ⟨ptZ_ok, (Int.le_refl 0 : (0 : Int) ≤ 0), (by decide : (0 : Int) < 65536)⟩
theorem enc_nil : encP IW0 = (1 : UInt8) :: List.replicate 255 0 := by rw [show encP IW0 = encI IW0 from if_pos IW0_right, encI_eq IW0_right]; decide +kernel
theorem dec_zero : decE (List.replicate 256 0) = 50 := if_neg fun h => by
  have h1 := h.1
  have h2 : (List.replicate 256 (0 : UInt8)).getD 0 0 = 0 := rfl
  rw [h2] at h1
  cases h1
theorem one_row {w : World} {b up : Nat} {e : IE} (hB : Blk w b (itC e).toArray 43) (hb : b < up) (hk : BRd w 0 up (e.1, e.2.2.1)) (hv : BRd w 0 up (e.2.1, e.2.2.2.1)) : NRd LT w 0 up (.slice (some ⟨b, 0, none⟩) 1 1) [e] := by
  refine ⟨?_, fun b' hb' => ?_, fun e' he s hs => ?_⟩
  · exact hB.rd (o := 0) (n := 1) (c := 1) (sz := 8) (by decide) (by decide) rfl (fun j u hj => by rw [Nat.zero_add]; simpa [LT] using hj)
  · have h : b = b' := Option.some.inj hb'
    omega
  · have he : e' = e := by simpa using he
    subst he
    have h1 : s = (e'.1, e'.2.2.1) ∨ s = (e'.2.1, e'.2.2.2.1) := by simpa [LT] using hs
    rcases h1 with rfl | rfl
    · exact hk
    · exact hv

theorem c_wakes (w : World) (hT : TabR w) : CT Tryd.prog 9 #[] w fun v w' => v = .bool true ∧ Ext w w' := by
  obtain ⟨n0, hn0⟩ : ∃ n, n = w.heap.size := ⟨_, rfl⟩
  have hU : Upd (fun i => n0 ≤ i) w w := Upd.refl _ _
  have hn1 := tab_pos hT
  refine CT_of Tryd.func9 rfl rfl rfl ?_
  refine W_seq ?_
  refine W_reg ?_
  refine L_op rfl (X_assign (v := (.bool (false))) rfl ?_)
  refine L_nil ?_
  refine T_n ?_
  refine W_seq ?_
  refine W_reg ?_
  refine L_op rfl (X_fn (vs := [(.slice none 0 0)]) en10 rfl (CT.mono (c_encodeI _ [] _ 0 0 (Nat.zero_le _) (NRd.nil _ _ _) (fun e he => by cases he) hT) ?_))
  rintro _ w1 ⟨rfl, hu1⟩
  have hz1 := hu1.size
  replace hU := hU.trans (Ext.upd hu1)
  replace hT := hT.ext hu1
  rw [show encE (dsI []) = 0 from encE_ok IW0_right]
  refine L_op rfl (X_move (v := (.tuple #[(.agg (((encP (dsI []))).map byteV).toArray), (.int .i64 (0))])) rfl ?_)
  refine L_op rfl (X_extract (l := [(.agg (((encP (dsI []))).map byteV).toArray), (.int .i64 (0))]) (v := (.agg (((encP (dsI []))).map byteV).toArray)) rfl rfl ?_)
  refine L_op rfl (X_extract (l := [(.agg (((encP (dsI []))).map byteV).toArray), (.int .i64 (0))]) (v := (.int .i64 (0))) rfl rfl ?_)
  refine L_op rfl (X_alloc (z := zv24) (c := zc24.toArray) Zv24 rfl ?_)
  intro b2 w2 hn2
  have hbn2 := hn2.num; have hbs2 := hn2.size
  replace hU := hU.trans (Ext.upd hn2.ext)
  replace hT := hT.ext hn2.ext
  have hB2 := hn2.blk
  rw [zc24_eq] at hB2
  refine L_op0 (X_storeW (b := b2) (ys := (((encP (dsI []))).map byteV)) A24 rfl rfl (byteV_one _) (by rw [List.length_map]; exact (encP_len _)) hB2 (by rw [List.size_toArray]; exact (by rw [List.length_map]; exact List.length_replicate)) ?_)
  intro w3 hu3 hb3
  have hz3 := hu3.size
  replace hU := hU.trans (hu3.mono fun i _ h => by have h : i = b2 := h; show n0 ≤ i; omega)
  replace hT := hT.upd hu3 fun i h1 h2 h => by have h : i = b2 := h; omega
  replace hB2 := hb3
  refine L_op rfl (X_assign (v := (.int .i64 (0))) rfl ?_)
  refine L_nil ?_
  refine T_n ?_
  refine W_seq ?_
  refine W_reg ?_
  refine L_op rfl (X_loadA (p := (ptr b2 (0))) (xs := (((encP (dsI []))).map byteV)) A24 rfl hB2.atAll (by rw [List.length_map]; exact (encP_len _)) ?_)
  obtain ⟨sd, hsd⟩ : ∃ n, n = w3.heap.size := ⟨_, rfl⟩
  refine L_op rfl (X_fn (vs := [(.agg ((((encP (dsI []))).map byteV)).toArray)]) en12 rfl (CT.mono (c_decodeI (encP (dsI [])) _ (encP_len _) hT) ?_))
  rintro _ w4 ⟨vd, rfl, esd, hNd, hksd, hu4⟩
  have hz4 := hu4.size
  obtain ⟨ud, hupd⟩ : ∃ n, n = w4.heap.size := ⟨_, rfl⟩
  rw [← hsd, ← hupd] at hNd
  replace hU := hU.trans (Ext.upd hu4)
  replace hT := hT.ext hu4
  replace hB2 := hB2.ext hu4
  rw [show decE (encP (dsI [])) = 0 from (dec_encP IW0_right IW0_pts).1]
  rw [show decL (encP (dsI [])) = [] from (dec_encP IW0_right IW0_pts).2] at hksd
  refine L_op rfl (X_move (v := (.tuple #[vd, (.int .i64 (0))])) rfl ?_)
  refine L_op rfl (X_extract (l := [vd, (.int .i64 (0))]) (v := vd) rfl rfl ?_)
  refine L_op rfl (X_extract (l := [vd, (.int .i64 (0))]) (v := (.int .i64 (0))) rfl rfl ?_)
  refine L_op rfl (X_assign (v := vd) rfl ?_)
  refine L_op rfl (X_assign (v := (.int .i64 (0))) rfl ?_)
  refine L_nil ?_
  refine T_n ?_
  refine W_seq ?_
  refine W_reg ?_
  refine L_op rfl (X_build built24z ?_)
  obtain ⟨sq, hsq⟩ : ∃ n, n = w4.heap.size := ⟨_, rfl⟩
  refine L_op rfl (X_fn (vs := [(.agg ((((List.replicate 256 (0 : UInt8))).map byteV)).toArray)]) en12 rfl (CT.mono (c_decodeI (List.replicate 256 (0 : UInt8)) _ List.length_replicate hT) ?_))
  rintro _ w5 ⟨vq, rfl, esq, hNq, hksq, hu5⟩
  have hz5 := hu5.size
  obtain ⟨uq, hupq⟩ : ∃ n, n = w5.heap.size := ⟨_, rfl⟩
  rw [← hsq, ← hupq] at hNq
  replace hU := hU.trans (Ext.upd hu5)
  replace hT := hT.ext hu5
  replace hB2 := hB2.ext hu5
  replace hNd := hNd.ext hu5
  rw [dec_zero]
  refine L_op rfl (X_move (v := (.tuple #[vq, (.int .i64 (50))])) rfl ?_)
  refine L_op rfl (X_extract (l := [vq, (.int .i64 (50))]) (v := vq) rfl rfl ?_)
  refine L_op rfl (X_extract (l := [vq, (.int .i64 (50))]) (v := (.int .i64 (50))) rfl rfl ?_)
  refine L_op rfl (X_assign (v := vq) rfl ?_)
  refine L_op rfl (X_assign (v := (.int .i64 (50))) rfl ?_)
  refine L_nil ?_
  refine T_n ?_
  refine W_seq ?_
  refine W_reg ?_
  refine L_op rfl (X_build built43z ?_)
  refine L_op rfl (X_buildSliceL (vs := [.agg (itC ((.slice none 0 0, .slice none 0 0, [], [], ptZ, 0))).toArray]) (c := itC ((.slice none 0 0, .slice none 0 0, [], [], ptZ, 0))) S22 (by decide) rfl rfl (List.forall_mem_cons.2 ⟨rfl, fun _ h => by cases h⟩) rfl ?_)
  intro bz wz hnz
  have hbnz := hnz.num; have hbsz := hnz.size
  replace hU := hU.trans (Ext.upd hnz.ext)
  replace hT := hT.ext hnz.ext
  replace hB2 := hB2.ext hnz.ext
  replace hNd := hNd.ext hnz.ext
  replace hNq := hNq.ext hnz.ext
  have hBz := hnz.blk
  obtain ⟨uz, huz_⟩ : ∃ n, n = wz.heap.size := ⟨_, rfl⟩
  have hlz := one_row (e := ((.slice none 0 0, .slice none 0 0, [], [], ptZ, 0))) (up := uz) hBz (by omega) (BRd.nil _ _ _) (BRd.nil _ _ _)
  refine L_op rfl (X_fn (vs := [(.slice (some ⟨bz, 0, none⟩) 1 1)]) en10 rfl (CT.mono (c_encodeI _ [((.slice none 0 0, .slice none 0 0, [], [], ptZ, 0) : IE)] _ 0 uz (by omega) hlz (fun e he => by have h : e = ((.slice none 0 0, .slice none 0 0, [], [], ptZ, 0) : IE) := (by simpa using he); subst h; exact ItZ _) hT) ?_))
  rintro _ w6 ⟨rfl, hu6⟩
  have hz6 := hu6.size
  replace hU := hU.trans (Ext.upd hu6)
  replace hT := hT.ext hu6
  replace hB2 := hB2.ext hu6
  replace hNd := hNd.ext hu6
  replace hNq := hNq.ext hu6
  replace hlz := hlz.ext hu6
  rw [show encE (dsI [((.slice none 0 0, .slice none 0 0, [], [], ptZ, 0) : IE)]) = 2 from encE_no IWZ_not]
  refine L_op rfl (X_move (v := (.tuple #[(.agg (((encP (dsI [((.slice none 0 0, .slice none 0 0, [], [], ptZ, 0) : IE)]))).map byteV).toArray), (.int .i64 (2))])) rfl ?_)
  refine L_op rfl (X_extract (l := [(.agg (((encP (dsI [((.slice none 0 0, .slice none 0 0, [], [], ptZ, 0) : IE)]))).map byteV).toArray), (.int .i64 (2))]) (v := (.agg (((encP (dsI [((.slice none 0 0, .slice none 0 0, [], [], ptZ, 0) : IE)]))).map byteV).toArray)) rfl rfl ?_)
  refine L_op rfl (X_extract (l := [(.agg (((encP (dsI [((.slice none 0 0, .slice none 0 0, [], [], ptZ, 0) : IE)]))).map byteV).toArray), (.int .i64 (2))]) (v := (.int .i64 (2))) rfl rfl ?_)
  refine L_op rfl (X_alloc (z := zv24) (c := zc24.toArray) Zv24 rfl ?_)
  intro b7 w7 hn7
  have hbn7 := hn7.num; have hbs7 := hn7.size
  replace hU := hU.trans (Ext.upd hn7.ext)
  replace hT := hT.ext hn7.ext
  replace hB2 := hB2.ext hn7.ext
  replace hNd := hNd.ext hn7.ext
  replace hNq := hNq.ext hn7.ext
  replace hlz := hlz.ext hn7.ext
  have hB7 := hn7.blk
  rw [zc24_eq] at hB7
  refine L_op0 (X_storeW (b := b7) (ys := (((encP (dsI [((.slice none 0 0, .slice none 0 0, [], [], ptZ, 0) : IE)]))).map byteV)) A24 rfl rfl (byteV_one _) (by rw [List.length_map]; exact (encP_len _)) hB7 (by rw [List.size_toArray]; exact (by rw [List.length_map]; exact List.length_replicate)) ?_)
  intro w8 hu8 hb8
  have hz8 := hu8.size
  replace hU := hU.trans (hu8.mono fun i _ h => by have h : i = b7 := h; show n0 ≤ i; omega)
  replace hT := hT.upd hu8 fun i h1 h2 h => by have h : i = b7 := h; omega
  replace hB2 := hB2.upd hu8 fun h => by have h : b2 = b7 := h; omega
  replace hNd := hNd.upd hu8 fun i h1 h2 h => by have h : i = b7 := h; omega
  replace hNq := hNq.upd hu8 fun i h1 h2 h => by have h : i = b7 := h; omega
  replace hlz := hlz.upd hu8 fun i h1 h2 h => by have h : i = b7 := h; omega
  replace hB7 := hb8
  refine L_op rfl (X_assign (v := (.int .i64 (2))) rfl ?_)
  refine L_nil ?_
  refine T_n ?_
  refine W_seq ?_
  refine W_reg ?_
  refine L_op rfl (X_move (v := (.int .i64 (0))) rfl ?_)
  refine L_op rfl (X_cmp (k := .i64) (a := 0) (b := 0) (r := true) rfl rfl rfl rfl ?_)
  refine L_op rfl (X_move (v := (.bool (true))) rfl ?_)
  refine L_gy (dj := 31) rfl rfl rfl (X_loadA (p := (ptr b2 (0))) (xs := (((encP (dsI []))).map byteV)) A24 rfl hB2.atAll (by rw [List.length_map]; exact (encP_len _)) ?_)
  refine L_gy (dj := 31) rfl rfl rfl (X_build built24k ?_)
  refine L_gy (dj := 31) rfl rfl rfl (X_eqA (n := 256) (l := (encP (dsI []))) (m := ((1 : UInt8) :: List.replicate 255 0)) (r := true) Tryd.underlying24 Tryd.underlying5 (by kernel_rfl) (by kernel_rfl) (by kernel_rfl) rfl rfl ((encP_len _)) ((by rw [List.length_cons, List.length_replicate])) (.inl ⟨rfl, (beq_iff_eq.2 enc_nil)⟩) ?_)
  refine L_op rfl (X_pick (t := true) (v := (.bool (true))) rfl rfl ?_)
  refine L_op rfl (X_move (v := (.bool (true))) rfl ?_)
  refine L_gy (dj := 36) rfl rfl rfl (X_move (v := (.int .i64 (0))) rfl ?_)
  refine L_gy (dj := 36) rfl rfl rfl (X_cmp (k := .i64) (a := 0) (b := 0) (r := true) rfl rfl rfl rfl ?_)
  refine L_op rfl (X_pick (t := true) (v := (.bool (true))) rfl rfl ?_)
  refine L_op rfl (X_move (v := (.bool (true))) rfl ?_)
  refine L_gy (dj := 40) rfl rfl rfl (X_move (v := vd) rfl ?_)
  refine L_gy (dj := 40) rfl rfl rfl (X_len (v := vd) (n := esd.length) Tryd.underlying22 rfl hNd.1.sv ?_)
  have hl0 : esd.length = 0 := by have h := congrArg List.length hksd; rw [dsI_len] at h; exact h
  refine L_gy (dj := 40) rfl rfl rfl (X_cmp (k := .i64) (a := ((esd.length : Nat) : Int)) (b := 0) (r := true) rfl rfl rfl (decide_eq_true (p := ((((esd.length : Nat) : Int)) : Int) = ((0) : Int)) (by omega)) ?_)
  refine L_op rfl (X_pick (t := true) (v := (.bool (true))) rfl rfl ?_)
  refine L_op rfl (X_move (v := (.bool (true))) rfl ?_)
  refine L_gy (dj := 45) rfl rfl rfl (X_move (v := (.int .i64 (50))) rfl ?_)
  refine L_gy (dj := 45) rfl rfl rfl (X_cmp (k := .i64) (a := 50) (b := 50) (r := true) rfl rfl rfl rfl ?_)
  refine L_op rfl (X_pick (t := true) (v := (.bool (true))) rfl rfl ?_)
  refine L_op rfl (X_move (v := (.bool (true))) rfl ?_)
  refine L_gy (dj := 49) rfl rfl rfl (X_move (v := (.int .i64 (2))) rfl ?_)
  refine L_gy (dj := 49) rfl rfl rfl (X_cmp (k := .i64) (a := 2) (b := 2) (r := true) rfl rfl rfl rfl ?_)
  refine L_op rfl (X_pick (t := true) (v := (.bool (true))) rfl rfl ?_)
  refine L_op rfl (X_move (v := (.bool (true))) rfl ?_)
  refine L_gy (dj := 53) rfl rfl rfl (X_buildSlice1 (vs := [(.int .u8 (97))]) S35 (by decide) rfl rfl (List.forall_mem_cons.2 ⟨rfl, (fun _ h => by cases h)⟩) ?_)
  intro b9 w9 hn9
  have hbn9 := hn9.num; have hbs9 := hn9.size
  replace hU := hU.trans (Ext.upd hn9.ext)
  replace hT := hT.ext hn9.ext
  replace hB2 := hB2.ext hn9.ext
  replace hNd := hNd.ext hn9.ext
  replace hNq := hNq.ext hn9.ext
  replace hlz := hlz.ext hn9.ext
  replace hB7 := hB7.ext hn9.ext
  have hB9 := hn9.blk
  refine L_gy (dj := 53) rfl rfl rfl (X_convMark (l := [(97 : UInt8)]) Tryd.underlying35 Tryd.underlying5 rfl hB9 (fun j u hj => by simpa [byteV] using hj) rfl (by decide) ?_)
  intro w10 hu10 hc10
  have hz10 := hu10.size
  replace hU := hU.trans (hu10.mono fun i _ h => by have h : i = b9 := h; show n0 ≤ i; omega)
  replace hT := hT.upd hu10 fun i h1 h2 h => by have h : i = b9 := h; omega
  replace hB2 := hB2.upd hu10 fun h => by have h : b2 = b9 := h; omega
  replace hNd := hNd.upd hu10 fun i h1 h2 h => by have h : i = b9 := h; omega
  replace hNq := hNq.upd hu10 fun i h1 h2 h => by have h : i = b9 := h; omega
  replace hlz := hlz.upd hu10 fun i h1 h2 h => by have h : i = b9 := h; omega
  replace hB7 := hB7.upd hu10 fun h => by have h : b7 = b9 := h; omega
  have hc10_b : ∀ i, rbk (.slice (some ⟨b9, 0, none⟩) 1 1) = some i → i < w10.heap.size := fun i hi => hc10.bound (by decide) hi
  refine L_gy (dj := 53) rfl rfl rfl (X_build (built43' hc10.sv [97]) ?_)
  obtain ⟨ka, hka⟩ : ∃ x : Value, x = (.slice (some ⟨b9, 0, none⟩) 1 1) := ⟨_, rfl⟩
  have hkr := hc10; rw [← hka] at hkr; rw [← hka]
  have hkr_b : ∀ b, rbk ka = some b → b < w10.heap.size := fun b hb => hkr.bound (by decide) hb
  refine L_gy (dj := 53) rfl rfl rfl (X_buildSliceL (vs := [.agg (itC ((ka, .slice none 0 0, [97], [], ptZ, 0))).toArray]) (c := itC ((ka, .slice none 0 0, [97], [], ptZ, 0))) S22 (by decide) rfl rfl (List.forall_mem_cons.2 ⟨rfl, fun _ h => by cases h⟩) rfl ?_)
  intro ba wa hna
  have hbna := hna.num; have hbsa := hna.size
  replace hU := hU.trans (Ext.upd hna.ext)
  replace hT := hT.ext hna.ext
  replace hB2 := hB2.ext hna.ext
  replace hNd := hNd.ext hna.ext
  replace hNq := hNq.ext hna.ext
  replace hlz := hlz.ext hna.ext
  replace hB7 := hB7.ext hna.ext
  replace hkr := hkr.ext hna.ext
  have hBa := hna.blk
  obtain ⟨ua, hua_⟩ : ∃ n, n = wa.heap.size := ⟨_, rfl⟩
  have hla := one_row (e := ((ka, .slice none 0 0, [97], [], ptZ, 0))) (up := ua) hBa (by omega) ⟨hkr, fun b hb => ⟨Nat.zero_le _, by have := hkr_b b hb; omega⟩⟩ (BRd.nil _ _ _)
  refine L_gy (dj := 53) rfl rfl rfl (X_fn (vs := [(.slice (some ⟨ba, 0, none⟩) 1 1)]) en14 rfl (CT.mono (c_rightI _ [((ka, .slice none 0 0, [97], [], ptZ, 0) : IE)] _ 0 ua (by omega) hla (fun e he => by have h : e = ((ka, .slice none 0 0, [97], [], ptZ, 0) : IE) := (by simpa using he); subst h; exact ItZ _)) ?_))
  rintro _ w11 ⟨rfl, hu11⟩
  have hz11 := hu11.size
  replace hU := hU.trans (Ext.upd hu11)
  replace hT := hT.ext hu11
  replace hB2 := hB2.ext hu11
  replace hNd := hNd.ext hu11
  replace hNq := hNq.ext hu11
  replace hlz := hlz.ext hu11
  replace hB7 := hB7.ext hu11
  replace hkr := hkr.ext hu11
  replace hla := hla.ext hu11
  rw [show decide (RightI (dsI [((ka, .slice none 0 0, [97], [], ptZ, 0) : IE)])) = true from decide_eq_true IWA_right]
  refine L_op rfl (X_pick (t := true) (v := (.bool (true))) rfl rfl ?_)
  refine L_op rfl (X_assign (v := (.bool (true))) rfl ?_)
  refine L_nil ?_
  refine T_n ?_
  refine W_ret ?_
  exact BQ_r (End_1 Tryd.results9 (v := .bool true) rfl ⟨rfl, hU.own hn0⟩)
end Go.Proofs.YtmddmghgkkjbiaaDoor
