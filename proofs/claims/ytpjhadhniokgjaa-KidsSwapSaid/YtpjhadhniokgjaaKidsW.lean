/-
  The contract of chapter 16: wakes. (Printed by wip/gen/t16w.py of this repo.)
-/
import Derived.Test.YtpjhadhniokgjaaKidsH
namespace Go.Proofs.Ytpjhadhniokgjaa
open Go Go.SL Go.Proofs

section conv
variable {ρ : Option Nat} {P : Program} {ty : TypeId} {f : Fr} {w : World} {K : Value → World → Prop}
theorem X_convMark {t e b n : Nat} {cs : Array Value} {te : TypeId} {l : List UInt8} {x : Operand} (hs : P.underlying t = some (.slice e)) (he : P.underlying e = some (.int .u8)) (hx : ev f x = .slice (some ⟨b, 0, none⟩) n n) (hB : Blk w b cs te)
    (hcs : ∀ (j : Nat) (u : Value), (l.map byteV)[j]? = some u → cs[j]? = some u) (hn : l.length = n) (hm : n ≤ 9223372036854775807)
    (h : ∀ w', Upd (fun i => i = b) w w' → Rd w' 1 (.slice (some ⟨b, 0, none⟩) n n) l.length (l.map byteV) → K (.slice (some ⟨b, 0, none⟩) n n) w') : Exec ρ P (.convert t t x) ty f w K := by
  subst hn
  have hsh : w.shape? b = some (te, cs.size) := by
    unfold Blk at hB
    simp [World.shape?, hB]
  have hfz : (w.freeze ⟨b, cs.size, none⟩ 1).heap[b]? = some (.cells cs te (cs.size, cs.size + 1)) := by
    unfold Blk at hB
    simp [World.freeze, Array.getElem?_modify, hB]
  refine X_sv (convert t t (ev f x)) (fun _ => by simp) (fun o ho _ => by unfold execOp; rw [ho]) (w' := w.freeze ⟨b, cs.size, none⟩ 1) ?_ (h _ ?_ ?_)
  · rw [hx]
    simp [convert, run_underlying hs, run_underlying he, markStringish, hsh]
  · refine ⟨rfl, rfl, rfl, by simp [World.freeze], fun i hi hd => ?_⟩
    simp only [World.freeze]
    simp [Array.getElem?_modify]
    intro h2
    exact absurd h2.symm hd
  · refine ⟨by simp, _, _, rfl, Nat.le_refl _, by unfold maxLen; omega, fun _ => ⟨b, 0, rfl, fun j u hj => ?_⟩⟩
    rw [Nat.zero_add]
    unfold World.cell?
    simp only [hfz]
    simpa using hcs j u hj
end conv
theorem find_uniq {es : List KE} {m : List UInt8} {a b : Nat} (ha : FindSpec es m a) (hb : FindSpec es m b) : a = b := by
  rcases ha with ⟨e, he, hle, hgt⟩ | ⟨rfl, hgt⟩
  · rcases hb with ⟨e2, he2, hle2, hgt2⟩ | ⟨rfl, hgt2⟩
    · rcases Nat.lt_trichotomy a b with h | h | h
      · have := hgt b e2 h he2; omega
      · exact h
      · have := hgt2 a e h he; omega
    · have := hgt2 a e he; omega
  · rcases hb with ⟨e2, he2, hle2, hgt2⟩ | ⟨rfl, hgt2⟩
    · have := hgt b e2 he2; omega
    · rfl
def findD (ks : List KD) (m : List UInt8) (at_ : Nat) : Bool :=
  (match ks[at_]? with | some d => decide (cmpB d.1 m ≤ 0) | none => false) && (List.range ks.length).all fun j => decide (j ≤ at_) || (match ks[j]? with | some d => decide (0 < cmpB d.1 m) | none => true)
theorem find_of {es : List KE} {ks : List KD} {m : List UInt8} {at_ : Nat} (h : es.map (·.2) = ks) (hf : findD ks m at_ = true) : FindSpec es m at_ := by
  subst h
  unfold findD at hf
  rw [Bool.and_eq_true, List.all_eq_true] at hf
  obtain ⟨h1, h2⟩ := hf
  rw [List.getElem?_map] at h1
  cases he : es[at_]? with
  | none => rw [he] at h1; cases h1
  | some e =>
    rw [he] at h1
    refine .inl ⟨e, he, of_decide_eq_true h1, fun j e' hj he' => ?_⟩
    have h3 := h2 j (by rw [List.mem_range, List.length_map]; exact (List.getElem?_eq_some_iff.1 he').1)
    rw [List.getElem?_map, he'] at h3
    simp only [Option.map_some, Bool.or_eq_true, decide_eq_true_eq] at h3
    rcases h3 with h3 | h3
    · omega
    · exact h3
abbrev S3 : List (List UInt8) := [[], [100], [109]]
def D3 : List KD := [([], (1, 0, 0, 1, 0)), ([100], (1, 0, 0, 2, 0)), ([109], (1, 0, 0, 3, 0))]
theorem row3 : rowK S3 3 = D3 := rfl

theorem c_wakes (w : World) : CT Try.prog 9 #[] w fun v w' => v = .bool true ∧ Ext w w' := by
  obtain ⟨n0, hn0⟩ : ∃ n, n = w.heap.size := ⟨_, rfl⟩
  have hU : Upd (fun i => n0 ≤ i) w w := Upd.refl _ _
  refine CT_of Try.func9 rfl rfl rfl ?_
  refine W_seq ?_
  refine W_reg ?_
  refine L_op rfl (X_assign (v := (.bool (false))) rfl ?_)
  refine L_nil ?_
  refine T_n ?_
  refine W_seq ?_
  refine W_reg ?_
  refine L_op rfl (X_buildSlice1 (vs := [(.string ⟨#[]⟩), (.string ⟨#[100]⟩), (.string ⟨#[109]⟩)]) S58 (by decide) rfl rfl (List.forall_mem_cons.2 ⟨rfl, (List.forall_mem_cons.2 ⟨rfl, (List.forall_mem_cons.2 ⟨rfl, (fun _ h => by cases h)⟩)⟩)⟩) ?_)
  intro b1 w1 hn1
  have hbn1 := hn1.num; have hbs1 := hn1.size
  replace hU := hU.trans (Ext.upd hn1.ext)
  have hB1 := hn1.blk
  refine L_op rfl (X_fn (vs := [(.slice (some ⟨b1, 0, none⟩) 3 3)]) en17 rfl (CT.mono (c_row _ S3 _ (hB1.rd (o := 0) (n := 3) (c := 3) (sz := 1) (xs := S3.map strV) (by decide) (by decide) rfl (fun j u hj => by rw [Nat.zero_add]; simpa [strV] using hj)) (List.forall_mem_cons.2 ⟨by decide, List.forall_mem_cons.2 ⟨by decide, List.forall_mem_cons.2 ⟨by decide, fun _ h => by cases h⟩⟩⟩) (by decide)) ?_))
  rintro l w2 ⟨es, hl, hes, hu2⟩
  have hz2 := hu2.size
  replace hU := hU.trans (Ext.upd hu2)
  replace hB1 := hB1.ext hu2
  replace hes : es.map (·.2) = D3 := hes.trans row3
  have hel : es.length = 3 := by have h := congrArg List.length hes; rwa [List.length_map] at h
  have hkl : KeyOK es := KeyOK.of fun e he => by have h1 : e.2 ∈ D3 := by { rw [← hes]; exact List.mem_map_of_mem he }; have h2 : ∀ d ∈ D3, d.1.length ≤ 140737488355328 := by { decide }; exact h2 _ h1
  obtain ⟨upl, hupl⟩ : ∃ n, n = w2.heap.size := ⟨_, rfl⟩
  rw [← hupl] at hl
  refine L_op rfl (X_assign (v := l) rfl ?_)
  refine L_nil ?_
  refine T_n ?_
  refine W_seq ?_
  refine W_reg ?_
  refine L_op rfl (X_move (v := l) rfl ?_)
  refine L_op rfl (X_fn (vs := [l]) en10 rfl (CT.mono (c_split l es _ _ upl (by omega) hl hkl (by omega)) ?_))
  rintro _ w3 ⟨a, s, b, as_, bs, sl, rfl, ha, hs, hb, has, hbs, hsl, hu3⟩
  have hz3 := hu3.size
  replace hU := hU.trans (Ext.upd hu3)
  replace hB1 := hB1.ext hu3
  replace hl := hl.ext hu3
  rw [hes, hel] at has hbs hsl
  have hal : as_.length = 2 := by have h := congrArg List.length has; rw [List.length_map] at h; exact h
  have hbl : bs.length = 1 := by have h := congrArg List.length hbs; rw [List.length_map] at h; exact h
  replace hsl : sl = [109] := hsl
  subst hsl
  obtain ⟨ups, hups⟩ : ∃ n, n = w3.heap.size := ⟨_, rfl⟩
  rw [← hups] at ha hs hb
  refine L_op rfl (X_move (v := (.tuple #[a, s, b])) rfl ?_)
  refine L_op rfl (X_extract (l := [a, s, b]) (v := a) rfl rfl ?_)
  refine L_op rfl (X_extract (l := [a, s, b]) (v := s) rfl rfl ?_)
  refine L_op rfl (X_extract (l := [a, s, b]) (v := b) rfl rfl ?_)
  refine L_op rfl (X_assign (v := a) rfl ?_)
  refine L_op rfl (X_assign (v := s) rfl ?_)
  refine L_op rfl (X_assign (v := b) rfl ?_)
  refine L_nil ?_
  refine T_n ?_
  refine W_seq ?_
  refine W_reg ?_
  refine L_op rfl (X_move (v := l) rfl ?_)
  refine L_op rfl (X_buildSlice1 (vs := [(.int .u8 (99))]) S23 (by decide) rfl rfl (List.forall_mem_cons.2 ⟨rfl, (fun _ h => by cases h)⟩) ?_)
  intro b4 w4 hn4
  have hbn4 := hn4.num; have hbs4 := hn4.size
  replace hU := hU.trans (Ext.upd hn4.ext)
  replace hB1 := hB1.ext hn4.ext
  replace hl := hl.ext hn4.ext
  replace ha := ha.ext hn4.ext
  replace hb := hb.ext hn4.ext
  replace hs := hs.ext hn4.ext
  have hB4 := hn4.blk
  refine L_op rfl (X_convMark (l := [(99 : UInt8)]) Try.underlying23 Try.underlying5 rfl hB4 (fun j u hj => by simpa [byteV] using hj) rfl (by decide) ?_)
  intro w5 hu5 hc5
  have hz5 := hu5.size
  replace hU := hU.trans (hu5.mono fun i _ h => by have h : i = b4 := h; show n0 ≤ i; omega)
  replace hB1 := hB1.upd hu5 fun h => by have h : b1 = b4 := h; omega
  replace hl := hl.upd hu5 fun i h1 h2 h => by have h : i = b4 := h; omega
  replace ha := ha.upd hu5 fun i h1 h2 h => by have h : i = b4 := h; omega
  replace hb := hb.upd hu5 fun i h1 h2 h => by have h : i = b4 := h; omega
  replace hs := hs.upd hu5 fun i h1 h2 h => by have h : i = b4 := h; omega
  have hc5_b : ∀ i, rbk (.slice (some ⟨b4, 0, none⟩) 1 1) = some i → i < w5.heap.size := fun i hi => hc5.bound (by decide) hi
  refine L_op rfl (X_fn (vs := [l, (.slice (some ⟨b4, 0, none⟩) 1 1)]) en14 rfl (CT.mono (c_find l _ es [99] _ _ upl (by omega) hl hc5) ?_))
  rintro _ w6 ⟨⟨at6, rfl, hF6⟩, hu6⟩
  have hz6 := hu6.size
  replace hU := hU.trans (Ext.upd hu6)
  replace hB1 := hB1.ext hu6
  replace hl := hl.ext hu6
  replace ha := ha.ext hu6
  replace hb := hb.ext hu6
  replace hs := hs.ext hu6
  replace hc5 := hc5.ext hu6
  obtain rfl := find_uniq hF6 (find_of (at_ := 0) hes (by decide +kernel))
  refine L_op rfl (X_cmp (k := .i64) (a := ((0 : Nat) : Int)) (b := 0) (r := true) rfl rfl rfl (decide_eq_true (p := (((0 : Nat) : Int) : Int) = 0) (by omega)) ?_)
  refine L_op rfl (X_move (v := (.bool (true))) rfl ?_)
  refine L_gy (dj := 18) rfl rfl rfl (X_move (v := l) rfl ?_)
  refine L_gy (dj := 18) rfl rfl rfl (X_buildSlice1 (vs := [(.int .u8 (100))]) S23 (by decide) rfl rfl (List.forall_mem_cons.2 ⟨rfl, (fun _ h => by cases h)⟩) ?_)
  intro b7 w7 hn7
  have hbn7 := hn7.num; have hbs7 := hn7.size
  replace hU := hU.trans (Ext.upd hn7.ext)
  replace hB1 := hB1.ext hn7.ext
  replace hl := hl.ext hn7.ext
  replace ha := ha.ext hn7.ext
  replace hb := hb.ext hn7.ext
  replace hs := hs.ext hn7.ext
  replace hc5 := hc5.ext hn7.ext
  have hB7 := hn7.blk
  refine L_gy (dj := 18) rfl rfl rfl (X_convMark (l := [(100 : UInt8)]) Try.underlying23 Try.underlying5 rfl hB7 (fun j u hj => by simpa [byteV] using hj) rfl (by decide) ?_)
  intro w8 hu8 hc8
  have hz8 := hu8.size
  replace hU := hU.trans (hu8.mono fun i _ h => by have h : i = b7 := h; show n0 ≤ i; omega)
  replace hB1 := hB1.upd hu8 fun h => by have h : b1 = b7 := h; omega
  replace hl := hl.upd hu8 fun i h1 h2 h => by have h : i = b7 := h; omega
  replace ha := ha.upd hu8 fun i h1 h2 h => by have h : i = b7 := h; omega
  replace hb := hb.upd hu8 fun i h1 h2 h => by have h : i = b7 := h; omega
  replace hs := hs.upd hu8 fun i h1 h2 h => by have h : i = b7 := h; omega
  replace hc5 := hc5.upd hu8 fun i hi h => by have hi := hc5_b _ hi; have h : i = b7 := h; omega
  have hc8_b : ∀ i, rbk (.slice (some ⟨b7, 0, none⟩) 1 1) = some i → i < w8.heap.size := fun i hi => hc8.bound (by decide) hi
  refine L_gy (dj := 18) rfl rfl rfl (X_fn (vs := [l, (.slice (some ⟨b7, 0, none⟩) 1 1)]) en14 rfl (CT.mono (c_find l _ es [100] _ _ upl (by omega) hl hc8) ?_))
  rintro _ w9 ⟨⟨at9, rfl, hF9⟩, hu9⟩
  have hz9 := hu9.size
  replace hU := hU.trans (Ext.upd hu9)
  replace hB1 := hB1.ext hu9
  replace hl := hl.ext hu9
  replace ha := ha.ext hu9
  replace hb := hb.ext hu9
  replace hs := hs.ext hu9
  replace hc5 := hc5.ext hu9
  replace hc8 := hc8.ext hu9
  obtain rfl := find_uniq hF9 (find_of (at_ := 1) hes (by decide +kernel))
  refine L_gy (dj := 18) rfl rfl rfl (X_cmp (k := .i64) (a := ((1 : Nat) : Int)) (b := 1) (r := true) rfl rfl rfl (decide_eq_true (p := (((1 : Nat) : Int) : Int) = 1) (by omega)) ?_)
  refine L_op rfl (X_pick (t := true) (v := (.bool (true))) rfl rfl ?_)
  refine L_op rfl (X_move (v := (.bool (true))) rfl ?_)
  refine L_gy (dj := 25) rfl rfl rfl (X_move (v := l) rfl ?_)
  refine L_gy (dj := 25) rfl rfl rfl (X_buildSlice1 (vs := [(.int .u8 (122))]) S23 (by decide) rfl rfl (List.forall_mem_cons.2 ⟨rfl, (fun _ h => by cases h)⟩) ?_)
  intro b10 w10 hn10
  have hbn10 := hn10.num; have hbs10 := hn10.size
  replace hU := hU.trans (Ext.upd hn10.ext)
  replace hB1 := hB1.ext hn10.ext
  replace hl := hl.ext hn10.ext
  replace ha := ha.ext hn10.ext
  replace hb := hb.ext hn10.ext
  replace hs := hs.ext hn10.ext
  replace hc5 := hc5.ext hn10.ext
  replace hc8 := hc8.ext hn10.ext
  have hB10 := hn10.blk
  refine L_gy (dj := 25) rfl rfl rfl (X_convMark (l := [(122 : UInt8)]) Try.underlying23 Try.underlying5 rfl hB10 (fun j u hj => by simpa [byteV] using hj) rfl (by decide) ?_)
  intro w11 hu11 hc11
  have hz11 := hu11.size
  replace hU := hU.trans (hu11.mono fun i _ h => by have h : i = b10 := h; show n0 ≤ i; omega)
  replace hB1 := hB1.upd hu11 fun h => by have h : b1 = b10 := h; omega
  replace hl := hl.upd hu11 fun i h1 h2 h => by have h : i = b10 := h; omega
  replace ha := ha.upd hu11 fun i h1 h2 h => by have h : i = b10 := h; omega
  replace hb := hb.upd hu11 fun i h1 h2 h => by have h : i = b10 := h; omega
  replace hs := hs.upd hu11 fun i h1 h2 h => by have h : i = b10 := h; omega
  replace hc5 := hc5.upd hu11 fun i hi h => by have hi := hc5_b _ hi; have h : i = b10 := h; omega
  replace hc8 := hc8.upd hu11 fun i hi h => by have hi := hc8_b _ hi; have h : i = b10 := h; omega
  have hc11_b : ∀ i, rbk (.slice (some ⟨b10, 0, none⟩) 1 1) = some i → i < w11.heap.size := fun i hi => hc11.bound (by decide) hi
  refine L_gy (dj := 25) rfl rfl rfl (X_fn (vs := [l, (.slice (some ⟨b10, 0, none⟩) 1 1)]) en14 rfl (CT.mono (c_find l _ es [122] _ _ upl (by omega) hl hc11) ?_))
  rintro _ w12 ⟨⟨at12, rfl, hF12⟩, hu12⟩
  have hz12 := hu12.size
  replace hU := hU.trans (Ext.upd hu12)
  replace hB1 := hB1.ext hu12
  replace hl := hl.ext hu12
  replace ha := ha.ext hu12
  replace hb := hb.ext hu12
  replace hs := hs.ext hu12
  replace hc5 := hc5.ext hu12
  replace hc8 := hc8.ext hu12
  replace hc11 := hc11.ext hu12
  obtain rfl := find_uniq hF12 (find_of (at_ := 2) hes (by decide +kernel))
  refine L_gy (dj := 25) rfl rfl rfl (X_cmp (k := .i64) (a := ((2 : Nat) : Int)) (b := 2) (r := true) rfl rfl rfl (decide_eq_true (p := (((2 : Nat) : Int) : Int) = 2) (by omega)) ?_)
  refine L_op rfl (X_pick (t := true) (v := (.bool (true))) rfl rfl ?_)
  refine L_op rfl (X_move (v := (.bool (true))) rfl ?_)
  refine L_gy (dj := 32) rfl rfl rfl (X_move (v := a) rfl ?_)
  refine L_gy (dj := 32) rfl rfl rfl (X_len (v := a) (n := as_.length) Try.underlying22 rfl ha.sv ?_)
  refine L_gy (dj := 32) rfl rfl rfl (X_cmp (k := .i64) (a := ((as_.length : Nat) : Int)) (b := 2) (r := true) rfl rfl rfl (decide_eq_true (p := (((as_.length : Nat) : Int) : Int) = 2) (by omega)) ?_)
  refine L_op rfl (X_pick (t := true) (v := (.bool (true))) rfl rfl ?_)
  refine L_op rfl (X_move (v := (.bool (true))) rfl ?_)
  refine L_gy (dj := 37) rfl rfl rfl (X_move (v := s) rfl ?_)
  refine L_gy (dj := 37) rfl rfl rfl (X_str (v := s) (l := [109]) Try.underlying23 Try.underlying5 Try.underlying9 rfl hs.1 ?_)
  refine L_gy (dj := 37) rfl rfl rfl (X_scmp (a := [109]) (b := [109]) (r := true) rfl rfl rfl (by decide) ?_)
  refine L_op rfl (X_pick (t := true) (v := (.bool (true))) rfl rfl ?_)
  refine L_op rfl (X_move (v := (.bool (true))) rfl ?_)
  refine L_gy (dj := 42) rfl rfl rfl (X_move (v := b) rfl ?_)
  refine L_gy (dj := 42) rfl rfl rfl (X_len (v := b) (n := bs.length) Try.underlying22 rfl hb.sv ?_)
  refine L_gy (dj := 42) rfl rfl rfl (X_cmp (k := .i64) (a := ((bs.length : Nat) : Int)) (b := 1) (r := true) rfl rfl rfl (decide_eq_true (p := (((bs.length : Nat) : Int) : Int) = 1) (by omega)) ?_)
  refine L_op rfl (X_pick (t := true) (v := (.bool (true))) rfl rfl ?_)
  refine L_op rfl (X_move (v := (.bool (true))) rfl ?_)
  refine L_gy (dj := 47) rfl rfl rfl (X_move (v := b) rfl ?_)
  refine L_gy (dj := 47) rfl rfl rfl (X_idx (v := b) (n := bs.length) (k := .i64) (i := 0) S22 rfl hb.sv rfl (by omega) (by omega) ?_)
  refine L_gy (dj := 47) rfl rfl rfl (X_fldS (v := b) (o := (0 : Int).toNat * 6) Fd39_0 rfl hb.sv (by omega) ?_)
  obtain ⟨e0, he0⟩ : ∃ e, bs[0]? = some e := ⟨_, List.getElem?_eq_getElem (by omega)⟩
  have he0l : e0.2.1.length = 0 := by have h := congrArg (fun l => l[0]?) hbs; rw [List.getElem?_map, he0] at h; have h2 : e0.2 = ([], (1, 0, 0, 3, 0)) := Option.some.inj h; rw [h2]; rfl
  refine L_gy (dj := 47) rfl rfl rfl (X_load (v := e0.1) T23 rfl (kkey hb (rfl) he0) ?_)
  refine L_gy (dj := 47) rfl rfl rfl (X_len (v := e0.1) (n := e0.2.1.length) Try.underlying23 rfl (krd hb he0).sv ?_)
  refine L_gy (dj := 47) rfl rfl rfl (X_cmp (k := .i64) (a := ((e0.2.1.length : Nat) : Int)) (b := 0) (r := true) rfl rfl rfl (decide_eq_true (p := (((e0.2.1.length : Nat) : Int) : Int) = 0) (by omega)) ?_)
  refine L_op rfl (X_pick (t := true) (v := (.bool (true))) rfl rfl ?_)
  refine L_op rfl (X_move (v := (.bool (true))) rfl ?_)
  refine L_gy (dj := 55) rfl rfl rfl (X_move (v := l) rfl ?_)
  refine L_gy (dj := 55) rfl rfl rfl (X_fn (vs := [l, (.int .i64 (1)), (.slice none 0 0)]) en15 rfl (CT.mono (c_swap l 1 (.slice none 0 0) es [] _ _ upl 0 0 (by omega) (Nat.zero_le _) hl (NRd.nil _ _ _) hkl (KeyOK.of fun e he => by cases he) (by omega) (by decide)) ?_))
  rintro vw w14 ⟨gs, hG, _, hgs, hu14⟩
  have hz14 := hu14.size
  replace hU := hU.trans (Ext.upd hu14)
  replace hB1 := hB1.ext hu14
  replace hl := hl.ext hu14
  replace ha := ha.ext hu14
  replace hb := hb.ext hu14
  replace hs := hs.ext hu14
  replace hc5 := hc5.ext hu14
  replace hc8 := hc8.ext hu14
  replace hc11 := hc11.ext hu14
  rw [hes, hel] at hgs
  have hgl : gs.length = 2 := by have h := congrArg List.length hgs; rw [List.length_map] at h; exact h
  refine L_gy (dj := 55) rfl rfl rfl (X_len (v := vw) (n := gs.length) Try.underlying22 rfl hG.1.sv ?_)
  refine L_gy (dj := 55) rfl rfl rfl (X_cmp (k := .i64) (a := ((gs.length : Nat) : Int)) (b := 2) (r := true) rfl rfl rfl (decide_eq_true (p := (((gs.length : Nat) : Int) : Int) = 2) (by omega)) ?_)
  refine L_op rfl (X_pick (t := true) (v := (.bool (true))) rfl rfl ?_)
  refine L_op rfl (X_move (v := (.bool (true))) rfl ?_)
  refine L_gy (dj := 61) rfl rfl rfl (X_move (v := a) rfl ?_)
  refine L_gy (dj := 61) rfl rfl rfl (X_move (v := s) rfl ?_)
  refine L_gy (dj := 61) rfl rfl rfl (X_move (v := b) rfl ?_)
  have hka : KeyOK as_ := KeyOK.of fun e he => by have h1 : e.2 ∈ D3.take ((3 + 1) / 2) := by { rw [← has]; exact List.mem_map_of_mem he }; have h2 : ∀ d ∈ D3.take ((3 + 1) / 2), d.1.length ≤ 140737488355328 := by { decide }; exact h2 _ h1
  have hkb : KeyOK bs := KeyOK.of fun e he => by have h1 : e.2 ∈ bareK (D3.drop ((3 + 1) / 2)) := by { rw [← hbs]; exact List.mem_map_of_mem he }; have h2 : ∀ d ∈ bareK (D3.drop ((3 + 1) / 2)), d.1.length ≤ 140737488355328 := by { decide }; exact h2 _ h1
  refine L_gy (dj := 61) rfl rfl rfl (X_fn (vs := [a, s, b]) en12 rfl (CT.mono (c_join a s b as_ bs [109] _ _ ups _ ups (by omega) (by omega) ha hb hs.1 hka hkb (by decide) (by omega) (by omega)) ?_))
  rintro vj w15 ⟨js, hJ, hjs, hu15⟩
  have hz15 := hu15.size
  replace hU := hU.trans (Ext.upd hu15)
  replace hB1 := hB1.ext hu15
  replace hl := hl.ext hu15
  replace ha := ha.ext hu15
  replace hb := hb.ext hu15
  replace hs := hs.ext hu15
  replace hc5 := hc5.ext hu15
  replace hc8 := hc8.ext hu15
  replace hc11 := hc11.ext hu15
  rw [has, hbs, hal] at hjs
  refine L_gy (dj := 61) rfl rfl rfl (X_move (v := l) rfl ?_)
  refine L_gy (dj := 61) rfl rfl rfl (X_fn (vs := [vj, l]) en11 rfl (CT.mono (c_same _ _ js es _ _ _ _ _ hJ hl) ?_))
  rintro _ w16 ⟨⟨g_, rfl, hg_⟩, hu16⟩
  have hz16 := hu16.size
  replace hU := hU.trans (Ext.upd hu16)
  replace hB1 := hB1.ext hu16
  replace hl := hl.ext hu16
  replace ha := ha.ext hu16
  replace hb := hb.ext hu16
  replace hs := hs.ext hu16
  replace hc5 := hc5.ext hu16
  replace hc8 := hc8.ext hu16
  replace hc11 := hc11.ext hu16
  replace hJ := hJ.ext hu16
  obtain rfl : g_ = true := hg_.2 (by rw [hjs, hes]; rfl)
  refine L_op rfl (X_pick (t := true) (v := (.bool (true))) rfl rfl ?_)
  refine L_op rfl (X_assign (v := (.bool (true))) rfl ?_)
  refine L_nil ?_
  refine T_n ?_
  refine W_ret ?_
  exact BQ_r (End_1 Try.results9 (v := .bool true) rfl ⟨rfl, hU.own hn0⟩)
end Go.Proofs.Ytpjhadhniokgjaa
