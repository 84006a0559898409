/-
  The contracts of chains: Cut. (Printed by wip/gen/t08o.py of this repo.)
-/
import Derived.Test.YtmggaahkfidfaaaDoorCutB
import Derived.Test.YtmggaahkfidfaaaDoorBaseX
namespace Go.Proofs.YtmggaahkfidfaaaDoor
open Go Go.SL Go.Proofs
set_option linter.unusedVariables false

theorem c_appendSeqB {gf : FuncId} {lb : List Value} {w0 : World} (l : List UInt8) (w : World) (hit : IterK Tryd.prog gf lb (pcN l) (YC l) w0 (fun b => b < w0.heap.size) 5) (eg : ∀ args w, (callFunc gf args).run Tryd.prog w = .ok (.enter gf args) w) (hw0 : Ext w0 w) (hlen : pcN l ≤ 1099511627776) : CT Tryd.prog 40 #[.slice none 0 0, .func (.func gf) #[] lb.toArray] w fun v w' => ∃ es, NOwn LB w' 22 5 w.heap.size w'.heap.size v es ∧ DistB es ∧ es.map (·.2) = (List.range (pcN l)).map (pcL l) ∧ Ext w w' := by
  obtain ⟨n0, hn0⟩ : ∃ n, n = w.heap.size := ⟨_, rfl⟩
  have hw0s := hw0.size
  refine CT_of Tryd.func40 rfl rfl rfl ?_
  refine W_seq ?_
  refine W_reg ?_
  refine L_op rfl (X_box (v := (.slice none 0 0)) (c := #[(.slice none 0 0)]) rfl rfl ?_)
  intro b1 w1 hn1
  have hbn1 := hn1.num; have hbs1 := hn1.size
  have hB1 := hn1.blk
  obtain rfl : n0 = b1 := by omega
  refine L_op rfl (X_assign (v := (.slice none 0 0)) rfl ?_)
  refine L_nil ?_
  refine T_n ?_
  refine W_seq ?_
  refine W_seq ?_
  refine W_reg ?_
  refine L_op rfl (X_move (v := (.func (.func gf) #[] lb.toArray)) rfl ?_)
  refine L_nil ?_
  refine T_n ?_
  refine W_block ?_
  obtain ⟨nL, hnL⟩ : ∃ n, n = w1.heap.size := ⟨_, rfl⟩
  refine W_rangeK (n := (pcN l)) (Y := (YC l)) rfl eg hit ((Ext.upd hw0).trans (Ext.upd hn1.ext)) rfl (fun k x W0 W h => by obtain ⟨kv, rfl, _⟩ := h; rfl) (fun b => b = n0 ∨ n0 + 8 ≤ b) (fun b hb => by rcases hb with h | h; (· exact ⟨⟨by omega, by omega⟩, by omega, by omega⟩); (· exact ⟨⟨by omega, by omega⟩, by omega, by omega⟩)) (fun b hb h => by omega) (fun k W => ∃ v_ es up, Blk W n0 #[v_] 41 ∧ NOwn LB W 22 5 (n0 + 8) up v_ es ∧ up ≤ W.heap.size ∧ DistB es ∧ es.map (·.2) = (List.range k).map (pcL l) ∧ Upd (fun i => n0 ≤ i) w W) (fun k e W => False) (fun k W W2 hI hu => by obtain ⟨v_, es, up, hB, hN, hup, hdi, hes, hU⟩ := hI; have hz := hu.size; exact ⟨v_, es, up, hB.upd hu fun h => by { rcases h with h | h <;> omega }, hN.upd hu fun i h1 h2 h => by { rcases h with h | h <;> omega }, by omega, hdi, hes, hU.trans (hu.mono fun i _ h => by { rcases h with h | h <;> (show n0 ≤ i; omega) })⟩) (fun _ _ _ _ h _ => h) ?_ ?_ ?_ ?_
  · intro W hx_ hs_
    exact ⟨.slice none 0 0, [], n0, hB1.ext hx_, NOwn.nil _ _ _ _ _, by omega, List.Pairwise.nil, rfl, (Ext.upd hn1.ext).trans (Ext.upd hx_)⟩
  · intro k x W0 W hk_ hI_ hu0_ hsz0_ hsz_ hlp_
    obtain ⟨v_, es, up, hB, hN, hup, hdi, hes, hU⟩ := hI_
    obtain ⟨hkn, kv, rfl, hK⟩ := hk_
    have hel : es.length = k := by have h := congrArg List.length hes; rw [List.length_map, List.length_map, List.length_range] at h; exact h
    have hkle : k ≤ 1099511627776 := by omega
    replace hB := hB.upd hu0_ fun h => by rcases h with h | h <;> omega
    replace hN := hN.upd hu0_ fun i h1 h2 h => by rcases h with h | h <;> omega
    replace hU := hU.trans (hu0_.mono fun i _ h => by rcases h with h | h <;> (show n0 ≤ i; omega))
    have hsz01_ := hu0_.size
    have hD := Upd.refl (fun b => b = n0 ∨ n0 + 8 ≤ b) W
    refine W_reg ?_
    refine L_op rfl (X_assign (v := kv) rfl ?_)
    refine L_nil ?_
    refine T_n ⟨hD, fun W2 hu2_ hlp2_ => ?_⟩
    have hsz2_ := hu2_.size
    replace hB := hB.upd hu2_ fun h => by have h : n0 = nL + 1 := (by rw [hnL]; exact h); omega
    replace hN := hN.upd hu2_ fun i h1 h2 h => by have h : i = nL + 1 := (by rw [hnL]; exact h); omega
    replace hK := hK.upd hu2_ fun i h1 h2 h => by have h : i = nL + 1 := (by rw [hnL]; exact h); omega
    replace hU := hU.trans (hu2_.mono fun i _ h => by have h : i = nL + 1 := (by rw [hnL]; exact h); show n0 ≤ i; omega)
    have hD := Upd.refl (fun b => b = n0 ∨ n0 + 8 ≤ b) W2
    refine W_block ?_
    refine W_reg ?_
    refine L_op rfl (X_load (p := (ptr n0 (0))) (v := v_) T41 rfl (hB.at1 rfl) ?_)
    refine L_op rfl (X_move (v := kv) rfl ?_)
    refine L_op rfl (X_buildSlice1 (vs := [kv]) S41 (by decide) rfl rfl (List.forall_mem_cons.2 ⟨(hK.1.sv.cells), (fun _ h => by cases h)⟩) ?_)
    intro b2 w2 hn2
    have hbn2 := hn2.num; have hbs2 := hn2.size
    replace hB := hB.ext hn2.ext
    replace hN := hN.ext hn2.ext
    replace hK := hK.ext hn2.ext
    replace hU := hU.trans (Ext.upd hn2.ext)
    replace hD := hD.trans (Ext.upd hn2.ext)
    have hB2 := hn2.blk
    refine L_op rfl (X_append (B := n0 + 8) (n := es.length) (s := v_) (x := (.slice (some ⟨b2, 0, none⟩) 1 1)) S41 ⟨_, Tryd.underlying41⟩ rfl rfl hN.1 (m := 1) (ys := [kv]) (hB2.rd (o := 0) (n := 1) (c := 1) (sz := 1) (by decide) (by decide) rfl (fun j u hj => by rw [Nat.zero_add]; simpa using hj)) (List.forall_mem_cons.2 ⟨hK.1.sv.one, fun _ h => by cases h⟩) (by unfold maxLen; omega) (by omega) (by omega) ?_)
    intro v5 w5 hO5 hu5 ho5
    have hz5 := hu5.size
    replace hB := hB.upd hu5 fun h => by have := (hN.1.lt h).1; omega
    have hN5 := NOwn.push (L := LB) (e := (kv, pcL l k)) (by decide) hN hO5 hu5 (fun s hs => by have h1 : s = (kv, pcL l k) := by { simpa [LB] using hs }; subst h1; exact hK.mono (by omega) (Nat.le_refl _)) (by omega) (by omega)
    have hdi5 : DistB (es ++ [(kv, pcL l k)]) := hdi.push (m := W0.heap.size) (fun a ha k hk => by have := (hN.2.2 a ha a (by simp [LB])).2 k hk; omega) fun k hk => (hK.1.lt hk).1
    replace hU := hU.trans (hu5.mono fun i _ h => by have := (hN.1.lt h).1; show n0 ≤ i; omega)
    replace hD := hD.trans (hu5.mono fun i _ h => by have := (hN.1.lt h).1; show i = n0 ∨ n0 + 8 ≤ i; omega)
    refine L_op0 (X_store (b := n0) (o := 0) (v := v5) T41 rfl rfl hO5.sv.one hB (by show (0 : Nat) < 1; decide) ?_)
    intro w6 hu6 hB6
    have hz6 := hu6.size
    replace hU := hU.trans (hu6.mono fun i _ h => by have h : i = n0 := h; show n0 ≤ i; omega)
    replace hD := hD.trans (hu6.mono fun i _ h => by have h : i = n0 := h; show i = n0 ∨ n0 + 8 ≤ i; omega)
    replace hN5 := hN5.upd hu6 fun i h1 h2 h => by have h : i = n0 := h; omega
    refine L_nil ?_
    refine B_n ?_
    exact RQ_n hD ⟨v5, es ++ [(kv, pcL l k)], w5.heap.size, hB6, hN5, by omega, hdi5, by rw [List.map_append, hes, List.range_succ, List.map_append]; rfl, hU⟩
  · intro W hI_ hd_
    obtain ⟨v_, es, up, hB, hN, hup, hdi, hes, hU⟩ := hI_
    have hd : Dfd W nL := by rw [hnL]; exact hd_
    refine B_n ?_
    refine T_n ?_
    refine W_seq ?_
    refine W_reg ?_
    refine L_op rfl (X_load (p := (ptr n0 (0))) (v := v_) T41 rfl (hB.at1 rfl) ?_)
    refine L_op rfl (X_assign (v := v_) rfl ?_)
    refine L_nil ?_
    refine T_n ?_
    refine W_ret ?_
    refine BQ_n (End_m hd_ fun w9 hu9 => End_1 Tryd.results40 (v := v_) rfl ?_)
    have hz9 := hu9.size
    exact ⟨es, (hN.upd hu9 fun i h1 h2 h => by have h : i = nL := (by rw [hnL]; exact h); omega).mono (by omega) (by omega), hdi, hes, (hU.trans (hu9.mono fun i _ h => by have h : i = nL := (by rw [hnL]; exact h); show n0 ≤ i; omega)).own hn0⟩
  · intro k e W hk_ hI_ hd_ he_
    exact hI_.elim

theorem c_collectB {gf : FuncId} {lb : List Value} {w0 : World} (l : List UInt8) (w : World) (hit : IterK Tryd.prog gf lb (pcN l) (YC l) w0 (fun b => b < w0.heap.size) 5) (eg : ∀ args w, (callFunc gf args).run Tryd.prog w = .ok (.enter gf args) w) (hw0 : Ext w0 w) (hlen : pcN l ≤ 1099511627776) : CT Tryd.prog 31 #[.func (.func gf) #[] lb.toArray] w fun v w' => ∃ es, NOwn LB w' 22 5 w.heap.size w'.heap.size v es ∧ DistB es ∧ es.map (·.2) = (List.range (pcN l)).map (pcL l) ∧ Ext w w' := by
  refine CT_of Tryd.func31 rfl rfl rfl ?_
  refine W_seq ?_
  refine W_reg ?_
  refine L_op rfl (X_assign (v := (.slice none 0 0)) rfl ?_)
  refine L_nil ?_
  refine T_n ?_
  refine W_seq ?_
  refine W_reg ?_
  refine L_op rfl (X_move (v := (.func (.func gf) #[] lb.toArray)) rfl ?_)
  refine L_op rfl (X_fn (vs := [(.slice none 0 0), (.func (.func gf) #[] lb.toArray)]) en40 rfl (CT.mono (c_appendSeqB l _ hit eg hw0 hlen) ?_))
  rintro v1 w1 ⟨es, hN, hdi, hes, hu1⟩
  refine L_op rfl (X_assign (v := v1) rfl ?_)
  refine L_nil ?_
  refine T_n ?_
  refine W_ret ?_
  exact BQ_r (End_1 Tryd.results31 (v := v1) rfl ⟨es, hN, hdi, hes, hu1⟩)

theorem c_cut (s : Value) (l : List UInt8) (w : World) (hlb : l.length ≤ 1099511627776) (hs : Rd w 1 s l.length (l.map byteV)) : CT Tryd.prog 15 #[s] w fun v w' => ∃ es, NOwn LB w' 22 5 w.heap.size w'.heap.size v es ∧ DistB es ∧ es.map (·.2) = (List.range (pcN l)).map (pcL l) ∧ Ext w w' := by
  obtain ⟨n0, hn0⟩ : ∃ n, n = w.heap.size := ⟨_, rfl⟩
  have hU : Upd (fun i => n0 ≤ i) w w := Upd.refl _ _
  have hs_b : ∀ i, rbk s = some i → i < n0 := by rw [hn0]; exact fun i hi => hs.bound (by decide) hi
  refine CT_of Tryd.func15 rfl rfl rfl ?_
  refine W_seq ?_
  refine W_reg ?_
  refine L_op rfl (X_assign (v := (.slice none 0 0)) rfl ?_)
  refine L_nil ?_
  refine T_n ?_
  refine W_seq ?_
  refine W_reg ?_
  refine L_op rfl (X_move (v := s) rfl ?_)
  obtain ⟨x1, hx1⟩ : ∃ n, n = w.heap.size := ⟨_, rfl⟩
  refine L_op rfl (X_fn (vs := [s]) en32 rfl (CT.mono (c_pieces s l.length _ hs.sv) ?_))
  rintro _ w5 ⟨rfl, hK1, hu5, hz5⟩
  rw [← hx1] at hK1 ⊢
  have hxn : x1 = n0 := by omega
  replace hs := hs.ext hu5
  replace hU := hU.trans (Ext.upd hu5)
  have hpN : pcN l ≤ 1099511627776 := by unfold pcN; omega
  refine L_op rfl (X_fn (vs := [.func (.func 41) #[] #[ptr x1 0]]) en31 rfl (CT.mono (c_collectB (lb := [ptr x1 0]) l _ (c_pieces1 s l x1 _ (by omega) hK1 hs) en41 (Upd.refl _ _) hpN) ?_))
  rintro v6 w6 ⟨es, hN, hdi, hes, hu6⟩
  have hz6 := hu6.size
  replace hN := hN.mono (lo' := n0) (by omega) (Nat.le_refl _)
  replace hs := hs.ext hu6
  replace hU := hU.trans (Ext.upd hu6)
  refine L_op rfl (X_assign (v := v6) rfl ?_)
  refine L_nil ?_
  refine T_n ?_
  refine W_ret ?_
  exact BQ_r (End_1 Tryd.results15 (v := v6) rfl ⟨es, by rw [← hxn] at hN; exact hN, hdi, hes, hU.own hn0⟩)
end Go.Proofs.YtmggaahkfidfaaaDoor
