/-
  More contracts of chapter 16: collecting. (Printed by wip/gen/t16d.py of this repo.)
-/
import Derived.Test.YtpjhadhniokgjaaKidsC
import Derived.Test.YtpjhadhniokgjaaBaseK
namespace Go.Proofs.Ytpjhadhniokgjaa
open Go Go.SL Go.Proofs

theorem c_appendSeq {gf : FuncId} {lb : List Value} {w0 : World} (ks : List KE) (w : World) (hit : IterG Try.prog gf lb ks.length (YK ks) w0 (fun b => b < w0.heap.size) (fun _ => False)) (eg : ∀ args w, (callFunc gf args).run Try.prog w = .ok (.enter gf args) w) (hw0 : Ext w0 w) (hlen : ks.length ≤ 1099511627776) : CT Try.prog 28 #[.slice none 0 0, .func (.func gf) #[] lb.toArray] w fun v w' => ∃ es, NOwn LK w' 39 5 w.heap.size w'.heap.size v es ∧ Dist es ∧ es.map (·.2) = (ks).map (·.2) ∧ Ext w w' := by
  obtain ⟨n0, hn0⟩ : ∃ n, n = w.heap.size := ⟨_, rfl⟩
  have hw0s := hw0.size
  refine CT_of Try.func28 rfl rfl rfl ?_
  refine W_seq ?_
  refine W_reg ?_
  refine L_op rfl (X_box (v := (.slice none 0 0)) (c := #[(.slice none 0 0)]) rfl rfl ?_)
  intro b1 w1 hn1
  have hbn1 := hn1.num; have hbs1 := hn1.size
  have hB1 := hn1.blk
  obtain rfl : n0 = b1 := by omega
  refine L_op rfl (X_assign (v := (.slice none 0 0)) rfl ?_)
  refine L_nil ?_
  refine T_n ?_
  refine W_seq ?_
  refine W_seq ?_
  refine W_reg ?_
  refine L_op rfl (X_move (v := (.func (.func gf) #[] lb.toArray)) rfl ?_)
  refine L_nil ?_
  refine T_n ?_
  refine W_block ?_
  obtain ⟨nL, hnL⟩ : ∃ n, n = w1.heap.size := ⟨_, rfl⟩
  refine W_rangeG (n := ks.length) (Y := (YK ks)) rfl eg hit ((Ext.upd hw0).trans (Ext.upd hn1.ext)) rfl (fun k x W0 W h => by obtain ⟨kv, e, _, rfl, _⟩ := h; rfl) (fun b => b = n0 ∨ n0 + 3 ≤ b) (fun b hb => by rcases hb with h | h; (· exact ⟨by omega, by omega, by omega⟩); (· exact ⟨by omega, by omega, by omega⟩)) (fun b hb h => by omega) (fun b h => h.elim) (fun k W => ∃ v_ es up, Blk W n0 #[v_] 22 ∧ NOwn LK W 39 5 (n0 + 3) up v_ es ∧ up ≤ W.heap.size ∧ Dist es ∧ es.map (·.2) = (ks.take k).map (·.2) ∧ Upd (fun i => n0 ≤ i) w W) (fun k e W => False) (fun k W W2 hI hu => by obtain ⟨v_, es, up, hB, hN, hup, hdi, hes, hU⟩ := hI; have hz := hu.size; exact ⟨v_, es, up, hB.upd hu fun h => by { rcases h with h | h; (· exact h); (· omega) }, hN.upd hu fun i h1 h2 h => by { rcases h with h | h; (· exact h); (· omega) }, by omega, hdi, hes, hU.trans (hu.mono fun i _ h => by { rcases h with h | h; (· exact h.elim); (· show n0 ≤ i; omega) })⟩) (fun _ _ _ _ h _ => h) ?_ ?_ ?_ ?_
  · intro W hx_ hs_
    exact ⟨.slice none 0 0, [], n0 + 3, hB1.ext hx_, NOwn.nil _ _ _ _ _, by omega, List.Pairwise.nil, rfl, (Ext.upd hn1.ext).trans (Ext.upd hx_)⟩
  · intro k x W0 W hk_ hI_ hu0_ hsz0_ hsz_ hlp_
    obtain ⟨v_, es, up, hB, hN, hup, hdi, hes, hU⟩ := hI_
    obtain ⟨hkn, kv, e, hke, rfl, hK⟩ := hk_
    have hel : es.length = k := by have h := congrArg List.length hes; rw [List.length_map, List.length_map, List.length_take] at h; omega
    replace hB := hB.upd hu0_ fun h => by rcases h with h | h; (· exact h); (· omega)
    replace hN := hN.upd hu0_ fun i h1 h2 h => by rcases h with h | h; (· exact h); (· omega)
    replace hU := hU.trans (hu0_.mono fun i _ h => by rcases h with h | h <;> first | exact h.elim | (show n0 ≤ i; omega))
    have hsz01_ := hu0_.size
    have hD := Upd.refl (fun b => b = n0 ∨ n0 + 3 ≤ b) W
    refine W_reg ?_
    refine L_op rfl (X_alloc (z := (.agg #[(.slice none 0 0), (.int .u8 (0)), (.int .u16 (0)), (.int .u16 (0)), (.int .u32 (0)), (.int .u64 (0))])) (c := #[(.slice none 0 0), (.int .u8 (0)), (.int .u16 (0)), (.int .u16 (0)), (.int .u32 (0)), (.int .u64 (0))]) Zv39 rfl ?_)
    intro b2 w2 hn2
    have hbn2 := hn2.num; have hbs2 := hn2.size
    replace hB := hB.ext hn2.ext
    replace hN := hN.ext hn2.ext
    replace hK := hK.ext hn2.ext
    replace hU := hU.trans (Ext.upd hn2.ext)
    replace hD := hD.trans (Ext.upd hn2.ext)
    have hB2 := hn2.blk
    refine L_op0 (X_storeW (b := b2) (ys := kv :: ptC e.2.2) A39 rfl rfl (hK.1.sv.kone _) rfl hB2 rfl ?_)
    intro w3 hu3 hb3
    have hz3 := hu3.size
    replace hB := hB.upd hu3 fun h => by have h : n0 = b2 := h; omega
    replace hN := hN.upd hu3 fun i h1 h2 h => by have h : i = b2 := h; omega
    replace hK := hK.upd hu3 fun i h1 h2 h => by have h : i = b2 := h; omega
    replace hU := hU.trans (hu3.mono fun i _ h => by have h : i = b2 := h; show n0 ≤ i; omega)
    replace hD := hD.trans (hu3.mono fun i _ h => by have h : i = b2 := h; show i = n0 ∨ n0 + 3 ≤ i; omega)
    replace hB2 := hb3
    refine L_nil ?_
    refine T_n ⟨hD, fun W2 hu2_ hlp2_ => ?_⟩
    have hsz2_ := hu2_.size
    replace hB := hB.upd hu2_ fun h => by have h : n0 = nL + 1 := (by rw [hnL]; exact h); omega
    replace hN := hN.upd hu2_ fun i h1 h2 h => by have h : i = nL + 1 := (by rw [hnL]; exact h); omega
    replace hK := hK.upd hu2_ fun i h1 h2 h => by have h : i = nL + 1 := (by rw [hnL]; exact h); omega
    replace hU := hU.trans (hu2_.mono fun i _ h => by have h : i = nL + 1 := (by rw [hnL]; exact h); show n0 ≤ i; omega)
    replace hB2 := hB2.upd hu2_ fun h => by have h : b2 = nL + 1 := (by rw [hnL]; exact h); omega
    have hD := Upd.refl (fun b => b = n0 ∨ n0 + 3 ≤ b) W2
    refine W_block ?_
    refine W_reg ?_
    refine L_op rfl (X_load (p := (ptr n0 (0))) (v := v_) T22 rfl (hB.at1 rfl) ?_)
    refine L_op rfl (X_loadA (p := (ptr b2 (0))) (xs := kv :: ptC e.2.2) A39 rfl hB2.atAll rfl ?_)
    refine L_op rfl (X_buildSliceL (vs := [kidV (kv, e.2)]) (c := kv :: ptC e.2.2) S22 (by decide) rfl rfl (List.forall_mem_cons.2 ⟨rfl, fun _ h => by cases h⟩) rfl ?_)
    intro b4 w4 hn4
    have hbn4 := hn4.num; have hbs4 := hn4.size
    replace hB := hB.ext hn4.ext
    replace hN := hN.ext hn4.ext
    replace hK := hK.ext hn4.ext
    replace hU := hU.trans (Ext.upd hn4.ext)
    replace hB2 := hB2.ext hn4.ext
    replace hD := hD.trans (Ext.upd hn4.ext)
    have hB4 := hn4.blk
    refine L_op rfl (X_append (B := n0 + 3) (n := es.length) (s := v_) (x := (.slice (some ⟨b4, 0, none⟩) 1 1)) S22 ⟨_, Try.underlying22⟩ rfl rfl hN.1 (m := 1) (ys := kv :: ptC e.2.2) (hB4.rd (o := 0) (n := 1) (c := 1) (sz := 6) (by decide) (by decide) rfl (fun j u hj => by rw [Nat.zero_add]; simpa using hj)) (hK.1.sv.kone _) (by unfold maxLen; omega) (by omega) (by omega) ?_)
    intro v5 w5 hO5 hu5 ho5
    have hz5 := hu5.size
    replace hB := hB.upd hu5 fun h => by have := (hN.1.lt h).1; omega
    have hN5 := NOwn.push (L := LK) (e := (kv, e.2)) (by decide) hN hO5 hu5 (fun s hs => by have h1 : s = (kv, e.2.1) := by { simpa [LK] using hs }; subst h1; exact hK.mono (by omega) (Nat.le_refl _)) (by omega) (by omega)
    have hdi5 : Dist (es ++ [(kv, e.2)]) := hdi.push (m := W0.heap.size) (fun a ha k hk => by have := (hN.2.2 a ha (a.1, a.2.1) (by simp [LK])).2 k hk; omega) fun k hk => (hK.1.lt hk).1
    replace hU := hU.trans (hu5.mono fun i _ h => by have := (hN.1.lt h).1; show n0 ≤ i; omega)
    replace hD := hD.trans (hu5.mono fun i _ h => by have := (hN.1.lt h).1; show i = n0 ∨ n0 + 3 ≤ i; omega)
    refine L_op0 (X_store (b := n0) (o := 0) (v := v5) T22 rfl rfl hO5.sv.one hB (by show (0 : Nat) < 1; decide) ?_)
    intro w6 hu6 hB6
    have hz6 := hu6.size
    replace hU := hU.trans (hu6.mono fun i _ h => by have h : i = n0 := h; show n0 ≤ i; omega)
    replace hD := hD.trans (hu6.mono fun i _ h => by have h : i = n0 := h; show i = n0 ∨ n0 + 3 ≤ i; omega)
    replace hN5 := hN5.upd hu6 fun i h1 h2 h => by have h : i = n0 := h; omega
    refine L_nil ?_
    refine B_n ?_
    exact RQ_n hD ⟨v5, es ++ [(kv, e.2)], w5.heap.size, hB6, hN5, by omega, hdi5, by rw [List.map_append, hes, List.take_add_one, hke, List.map_append]; rfl, hU⟩
  · intro W hI_ hd_
    obtain ⟨v_, es, up, hB, hN, hup, hdi, hes, hU⟩ := hI_
    rw [List.take_length] at hes
    have hd : Dfd W nL := by rw [hnL]; exact hd_
    refine B_n ?_
    refine T_n ?_
    refine W_seq ?_
    refine W_reg ?_
    refine L_op rfl (X_load (p := (ptr n0 (0))) (v := v_) T22 rfl (hB.at1 rfl) ?_)
    refine L_op rfl (X_assign (v := v_) rfl ?_)
    refine L_nil ?_
    refine T_n ?_
    refine W_ret ?_
    refine BQ_n (End_m hd_ fun w9 hu9 => End_1 Try.results28 (v := v_) rfl ?_)
    have hz9 := hu9.size
    exact ⟨es, (hN.upd hu9 fun i h1 h2 h => by have h : i = nL := (by rw [hnL]; exact h); omega).mono (by omega) (by omega), hdi, hes, (hU.trans (hu9.mono fun i _ h => by have h : i = nL := (by rw [hnL]; exact h); show n0 ≤ i; omega)).own hn0⟩
  · intro k e W hk_ hI_ hd_ he_
    exact hI_.elim

theorem c_collect {gf : FuncId} {lb : List Value} {w0 : World} (ks : List KE) (w : World) (hit : IterG Try.prog gf lb ks.length (YK ks) w0 (fun b => b < w0.heap.size) (fun _ => False)) (eg : ∀ args w, (callFunc gf args).run Try.prog w = .ok (.enter gf args) w) (hw0 : Ext w0 w) (hlen : ks.length ≤ 1099511627776) : CT Try.prog 23 #[.func (.func gf) #[] lb.toArray] w fun v w' => ∃ es, NOwn LK w' 39 5 w.heap.size w'.heap.size v es ∧ Dist es ∧ es.map (·.2) = (ks).map (·.2) ∧ Ext w w' := by
  refine CT_of Try.func23 rfl rfl rfl ?_
  refine W_seq ?_
  refine W_reg ?_
  refine L_op rfl (X_assign (v := (.slice none 0 0)) rfl ?_)
  refine L_nil ?_
  refine T_n ?_
  refine W_seq ?_
  refine W_reg ?_
  refine L_op rfl (X_move (v := (.func (.func gf) #[] lb.toArray)) rfl ?_)
  refine L_op rfl (X_fn (vs := [(.slice none 0 0), (.func (.func gf) #[] lb.toArray)]) en28 rfl (CT.mono (c_appendSeq ks _ hit eg hw0 hlen) ?_))
  rintro v1 w1 ⟨es, hN, hdi, hes, hu1⟩
  refine L_op rfl (X_assign (v := v1) rfl ?_)
  refine L_nil ?_
  refine T_n ?_
  refine W_ret ?_
  exact BQ_r (End_1 Try.results23 (v := v1) rfl ⟨es, hN, hdi, hes, hu1⟩)
end Go.Proofs.Ytpjhadhniokgjaa
