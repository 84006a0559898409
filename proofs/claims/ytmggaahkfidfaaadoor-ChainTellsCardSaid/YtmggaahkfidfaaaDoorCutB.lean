/-
  The contracts of chains: the iterator of pieces. (Printed by wip/gen/t08n.py of this repo.)
-/
import Derived.Test.YtmggaahkfidfaaaDoorCut
namespace Go.Proofs.YtmggaahkfidfaaaDoor
open Go Go.SL Go.Proofs
set_option linter.unusedVariables false

def YC (l : List UInt8) : Nat → List Value → World → World → Prop := fun k x W0 W => ∃ kv, x = [kv] ∧ BOwn W 5 W0.heap.size W.heap.size (kv, pcL l k)

theorem c_pieces1 (s : Value) (l : List UInt8) (x1 : Nat) (w : World) (hlb : l.length ≤ 140737488355328) (hB : Blk w x1 #[s] 22) (hs : Rd w 1 s l.length (l.map byteV)) :
    IterK Tryd.prog 41 [ptr x1 0] (pcN l) (YC l) w (fun b => b < w.heap.size) 5 := by
  intro lp J Jx W Db hu0 hDb hJs hJxs hy hJ
  obtain ⟨n0, hn0⟩ : ∃ n, n = w.heap.size := ⟨_, rfl⟩
  obtain ⟨N1, hN1⟩ : ∃ n, n = W.heap.size := ⟨_, rfl⟩
  have hU : Upd (fun i => n0 ≤ i) w W := hu0.mono fun i _ h => by rw [hn0]; exact Nat.not_lt.1 h
  replace hDb : ∀ b, Db b → ¬ b < n0 ∧ ¬ (N1 ≤ b ∧ b < N1 + 5) := by rw [hn0, hN1]; exact hDb
  rw [← hN1] at hJs hJxs hy
  have hb1 : x1 < n0 := by rw [hn0]; exact hB.lt
  have hNn := hU.size
  replace hB := hB.upd hU fun h => by have h : n0 ≤ x1 := h; omega
  have hsW := hs.old (by decide) (hn0 ▸ hU)
  show CT Tryd.prog 41 #[.func (.yield lp) #[] #[], ptr x1 0] W _
  refine CT_of Tryd.func41 rfl rfl rfl ?_
  refine W_seq ?_
  refine W_reg ?_
  refine L_op rfl (X_box (v := (.func (.yield lp) #[] #[])) (c := #[(.func (.yield lp) #[] #[])]) rfl rfl ?_)
  intro b9 w9 hn9
  have hbn9 := hn9.num; have hbs9 := hn9.size
  replace hU := hU.trans (Ext.upd hn9.ext)
  replace hB := hB.ext hn9.ext
  replace hJ := hJs _ _ _ hJ (hn9.ext.mono fun _ _ h => h.elim)
  have hBy := hn9.blk
  obtain rfl : N1 = b9 := by omega
  refine L_nil ?_
  refine T_n ?_
  refine W_seq ?_
  refine W_reg ?_
  refine L_op rfl (X_load (p := (ptr x1 (0))) (v := s) T22 rfl (hB.at1 rfl) ?_)
  obtain ⟨x2, hx2⟩ : ∃ n, n = w9.heap.size := ⟨_, rfl⟩
  refine L_op rfl (X_fn (vs := [s, (.int .i64 (200))]) en42 rfl (CT.mono (c_chunk s l.length _ hs.sv) ?_))
  rintro _ w5 ⟨rfl, hK1, hK2, hu5, hz5⟩
  rw [← hx2] at hK1 hK2 ⊢
  have hx2e : x2 = N1 + 1 := by omega
  replace hU := hU.trans (Ext.upd hu5)
  replace hB := hB.ext hu5
  replace hJ := hJs _ _ _ hJ (hu5.mono fun _ _ h => h.elim)
  replace hBy := hBy.ext hu5
  refine L_nil ?_
  refine T_n ?_
  refine W_block ?_
  obtain ⟨nL, hnL⟩ : ∃ n, n = w5.heap.size := ⟨_, rfl⟩
  refine W_range (xs := (chX s l)) rfl en51 (c_chunk1 s l x2 (x2 + 1) _ w hlb hK1 hK2 hs) (Upd.refl _ _) rfl (fun x hx => by unfold chX at hx; obtain ⟨k, _, rfl⟩ := List.mem_map.1 hx; rfl) (fun b => Db b) (fun b hb => ⟨fun h => by { have h : b = x2 ∨ b = x2 + 1 := h; have := (hDb b hb).2; omega }, by { have := (hDb b hb).2; omega }, by { have := (hDb b hb).2; omega }⟩) (fun b hb h => by have h : b = x2 ∨ b = x2 + 1 := h; omega) (fun b h => h.elim) (fun k W => J k W ∧ Blk W N1 #[(.func (.yield lp) #[] #[])] 44 ∧ Upd (fun i => n0 ≤ i) w W ∧ N1 + 5 ≤ W.heap.size) (fun k e W => e = .ret ∧ Jx k W) (fun k W W2 hI hu => by obtain ⟨hJ, hB, hU, hz⟩ := hI; have := hu.size; exact ⟨hJs _ _ _ hJ (hu.mono fun i _ h => by rcases h with h | h; (· exact h.elim); (· exact ⟨by omega, by omega⟩)), hB.upd hu fun h => by { rcases h with h | h; (· exact h.elim); (· omega) }, hU.trans (hu.mono fun i _ h => by { rcases h with h | h; (· exact h.elim); (· show n0 ≤ i; omega) }), by omega⟩) (fun k e W W2 hI hu => ⟨hI.1, hJxs _ _ _ hI.2 (hu.mono fun i _ h => by rcases h with h | h; (· exact h.elim); (· exact ⟨by omega, by omega⟩))⟩) ?_ ?_ ?_ ?_
  · intro W hx_ hs_
    exact ⟨hJs _ _ _ hJ (hx_.mono fun _ _ h => h.elim), hBy.ext hx_, hU.trans (Ext.upd hx_), by omega⟩
  · intro k x W hk_ hI_ hsz_ hlp_
    obtain ⟨hJ, hBy, hU, hsz5_⟩ := hI_
    have hk : k < pcN l := by have h1 := (List.getElem?_eq_some_iff.1 hk_).1; rw [chX_length] at h1; exact h1
    obtain rfl : x = [cut3v s 1 (200 * k) (200 * k + (pcL l k).length) (200 * k + (pcL l k).length)] := by rw [chX_at hk] at hk_; exact (Option.some.inj hk_).symm
    have hpc0 := pc_rd hs hk
    have hpc_b : ∀ i, rbk (cut3v s 1 (200 * k) (200 * k + (pcL l k).length) (200 * k + (pcL l k).length)) = some i → i < n0 := fun i hi => hn0 ▸ hpc0.bound (by decide) hi
    have hpc := hpc0.old (by decide) (hn0 ▸ hU)
    have hpl := pcL_len l k
    refine W_reg ?_
    refine L_op rfl (X_assign (v := (cut3v s 1 (200 * k) (200 * k + (pcL l k).length) (200 * k + (pcL l k).length))) rfl ?_)
    refine L_nil ?_
    refine T_n ⟨Upd.refl _ _, fun W2 hu2_ hlp2_ => ?_⟩
    have hsz2_ := hu2_.size
    replace hU := hU.trans (hu2_.mono fun i _ h => by have h : i = nL + 1 := (by rw [hnL]; exact h); show n0 ≤ i; omega)
    replace hpc := hpc.upd hu2_ fun i hi h => by have hi := hpc_b _ hi; have h : i = nL + 1 := (by rw [hnL]; exact h); omega
    replace hBy := hBy.upd hu2_ fun h => by have h : N1 = nL + 1 := (by rw [hnL]; exact h); omega
    replace hJ := hJs _ _ _ hJ (hu2_.mono fun i _ h => by have h : i = nL + 1 := (by rw [hnL]; exact h); exact ⟨by omega, by omega⟩)
    refine W_block ?_
    refine W_seq ?_
    obtain ⟨W3, hW3⟩ : ∃ u, u = W2 := ⟨_, rfl⟩
    refine W_draw 3 [[], [], [1], [0, 1, 2], [0, 1, 2, 3]] mixed (by kernel_rfl) ?_
    refine ⟨.det (fun val => (.func (.yield lp) #[] #[])), ⟨fun _ _ hv => rfl, fun _ _ _ _ _ => trivial⟩, fun val h_ W hx he => ⟨trivial, ?_⟩, ?_⟩
    · replace hx := (Upd.drew _ _).trans hx
      replace hpc := hpc.ext hx
      replace hBy := hBy.ext hx
      have hE := Upd.refl (fun _ => False) W
      refine id (X_load (p := (ptr N1 (0))) (v := (.func (.yield lp) #[] #[])) T44 rfl (hBy.at1 rfl) ?_)
      exact ⟨hE, rfl⟩
    refine ⟨.det (fun val => (cut3v s 1 (200 * k) (200 * k + (pcL l k).length) (200 * k + (pcL l k).length))), ⟨fun _ _ hv => rfl, fun _ _ _ _ _ => trivial⟩, fun val h_ W hx he => ⟨trivial, ?_⟩, ?_⟩
    · replace hx := (Upd.drew _ _).trans hx
      replace hpc := hpc.ext hx
      replace hBy := hBy.ext hx
      have hE := Upd.refl (fun _ => False) W
      refine id (X_move (v := (cut3v s 1 (200 * k) (200 * k + (pcL l k).length) (200 * k + (pcL l k).length))) rfl ?_)
      exact ⟨hE, rfl⟩
    refine ⟨.abs (fun _ x_ W_ => Own W_ W2.heap.size 5 1 x_ (pcL l k).length ((pcL l k).map byteV)), ⟨fun _ _ _ => rfl, fun _ _ _ _ hu h => (by have h2 := Own.ext h hu; exact h2)⟩, fun val h_ W hx he => ⟨trivial, ?_⟩, ?_⟩
    · replace hx := (Upd.drew _ _).trans hx
      replace hpc := hpc.ext hx
      replace hBy := hBy.ext hx
      have hE := Upd.refl (fun _ => False) W
      have hz9 := hx.size
      refine X_fn (vs := [cut3v s 1 (200 * k) (200 * k + (pcL l k).length) (200 * k + (pcL l k).length)]) en43 rfl (CT.mono (c_clone _ (pcL l k) _ (by omega) hpc) ?_)
      rintro v9 w9 ⟨hO9, hu9⟩
      exact ⟨hu9, hO9.more (by omega)⟩
    intro val W1 hx1 he1
    replace hx1 := (Upd.drew _ _).trans hx1
    have hz1 := hx1.size
    replace hU := hU.trans (Ext.upd hx1)
    replace hpc := hpc.ext hx1
    replace hBy := hBy.ext hx1
    obtain ⟨hO, he1⟩ := he1
    refine L_op rfl (X_yield (vs := [val 2]) rfl rfl (YieldC.mono (hy k _ _ _ ⟨hk, val 2, rfl, hO, fun b hb => (hO.lt hb).2⟩ hJ (by omega) (hx1.mono fun _ _ h => h.elim)) ?_))
    rintro _ W5 (⟨rfl, hJ2, hu5⟩ | ⟨rfl, hJx, hu5⟩)
    · have hD5 := (Ext.upd hx1).trans hu5
      have hz5_ := hu5.size
      have hDe : ∀ b, Db b → n0 ≤ b ∧ ¬ (N1 ≤ b ∧ b < N1 + 5) := fun b hb => ⟨Nat.not_lt.1 (hDb b hb).1, (hDb b hb).2⟩
      replace hBy := hBy.upd hu5 fun h => by have h1 := hDe _ h; omega
      replace hU := hU.trans (hu5.mono fun i _ h => (hDe i h).1)
      refine L_op rfl (X_not (b := true) (r := false) rfl rfl ?_)
      refine L_nil ?_
      refine T_n ?_
      refine W_cf rfl ?_
      refine W_skip ?_
      refine B_n ?_
      exact RQ_n hD5 ⟨hJ2, hBy, hU, by omega⟩
    · have hD5 := (Ext.upd hx1).trans hu5
      have hz5_ := hu5.size
      have hDe : ∀ b, Db b → n0 ≤ b ∧ ¬ (N1 ≤ b ∧ b < N1 + 5) := fun b hb => ⟨Nat.not_lt.1 (hDb b hb).1, (hDb b hb).2⟩
      refine L_op rfl (X_not (b := false) (r := true) rfl rfl ?_)
      refine L_nil ?_
      refine T_n ?_
      refine W_ct rfl ?_
      refine W_ret ?_
      refine B_r ?_
      exact RQ_r hD5 ⟨rfl, hJx⟩
  · intro W hI_ hd_
    obtain ⟨hJ, _, _, _⟩ := hI_
    rw [chX_length] at hJ
    have hd : Dfd W nL := by rw [hnL]; exact hd_
    refine B_n ?_
    refine BQ_n (End_m (hnL ▸ hd) fun w9 hu9 => ?_)
    exact End_0 Tryd.results41 (.inl (hJs _ _ _ hJ (hu9.mono fun i _ h => by have h : i = nL := (by rw [hnL]; exact h); exact ⟨by omega, by omega⟩)))
  · intro k e W hk_ hI_ hd_ he_
    obtain ⟨rfl, hJx⟩ := hI_
    rw [chX_length] at hk_
    have hd : Dfd W nL := by rw [hnL]; exact hd_
    refine B_r ?_
    refine BQ_r (End_m (hnL ▸ hd) fun w9 hu9 => ?_)
    exact End_0 Tryd.results41 (.inr ⟨k, hk_, hJxs _ _ _ hJx (hu9.mono fun i _ h => by have h : i = nL := (by rw [hnL]; exact h); exact ⟨by omega, by omega⟩)⟩)
end Go.Proofs.YtmggaahkfidfaaaDoor
