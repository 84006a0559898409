import Derived.Test.YthncpmablodbjaaDoorBaseP
import Derived.Laws.MakeOwn
import Derived.Laws.Strings
namespace Go.SL
open Go

/-! ### Cuts -/
theorem Out.suf {ks : List Nat} {l l' : List (Nat × Value)} {b : Nat → Value} (h1 : keysIn ks (l.take (l.length - l'.length)) = true) (h2 : l.drop (l.length - l'.length) = l') : Out ks ⟨l, b⟩ ⟨l', b⟩ := by
  have h3 := Out.pre (ks := ks) (l' := l') (b := b) h1
  have h4 : l.take (l.length - l'.length) ++ l' = l := by
    have h5 := List.take_append_drop (l.length - l'.length) l
    rwa [h2] at h5
  rwa [h4] at h3

/-! ### Iterators that keep blocks of their own -/
/-- AN ITERATOR, as IterC, but it turns the blocks that it has laid itself since it was called -/
def IterS (P : Program) (gf : FuncId) (lb : List Value) (xs : List (List Value)) (w0 : World) (Dep : Nat → Prop) : Prop :=
  ∀ (l : Nat) (J Jx : Nat → World → Prop) (W : World) (Db : Nat → Prop), Upd (fun b => ¬ Dep b) w0 W → (∀ b, Db b → ¬ Dep b ∧ b < W.heap.size) →
    (∀ k W1 W2, J k W1 → Upd (fun b => W.heap.size ≤ b) W1 W2 → J k W2) → (∀ k W1 W2, Jx k W1 → Upd (fun b => W.heap.size ≤ b) W1 W2 → Jx k W2) →
    (∀ k x W1, xs[k]? = some x → J k W1 → YieldC P l x.toArray W1 fun v W' => (v = .bool true ∧ J (k + 1) W' ∧ Upd Db W1 W') ∨ (v = .bool false ∧ Jx k W' ∧ Upd Db W1 W')) →
    J 0 W → CT P gf (.func (.yield l) #[] #[] :: lb).toArray W fun _ W' => J xs.length W' ∨ ∃ k, k < xs.length ∧ Jx k W'
section rangeS
variable {P : Program} {N : Nat} {Q : Post} {ds : List Deferred} {f : Fr} {w : World}
variable {g : Operand} {ps : List Nat} {assign body : Code} {gf : FuncId} {lb : List Value} {xs : List (List Value)} {w0 : World} {Dep : Nat → Prop}
theorem rounds_ofS {l : Nat} {fn : FuncId} {tmps : Array Value} {rec : LoopState → Option Code → Loop} {dd : Nat}
    (hrec : rec = fun st pe => { state := st, pending := pe, fn := fn, tmps := tmps, params := ps.toArray, assign := assign, body := body, defers := dd })
    (hag : Ag N ([] : List Deferred) f { tmps := tmps, defers := [] })
    (hit : IterS P gf lb xs w0 Dep) (hpn : ps.all (fun p => Nat.blt p N) = true) (hps : ∀ x ∈ xs, x.length = ps.length)
    (Db : Nat → Prop) (hDb : ∀ b, Db b → ¬ Dep b ∧ b ≠ l) (hDl : ¬ Dep l) {B : Nat} (hlB : l < B) (hDB : ∀ b, Db b → b < B)
    (X : World → Prop) (hX : ∀ W W', X W → Upd (fun b => Db b ∨ B ≤ b ∨ b = l) W W' → X W')
    (I : Nat → World → Prop) (Ix : Nat → Exit → World → Prop)
    (hI : ∀ k W W', I k W → Upd (fun b => B ≤ b ∨ b = l) W W' → I k W') (hIx : ∀ k e W W', Ix k e W → Upd (fun b => B ≤ b ∨ b = l) W W' → Ix k e W')
    (hbody : ∀ k x W, xs[k]? = some x → I k W → X W → (∃ r, W.heap[l]? = some (.loop r)) →
      Wp (some l) P N assign (thenQ (fun ds' f1 W1 => Upd Db W W1 ∧ ∀ W2, Upd (fun b => b = l) W1 W2 → (∃ r, W2.heap[l]? = some (.loop r)) → Wp (some l) P N body (roundQ Db W2 (I (k + 1)) (Ix k)) ds' f1 W2) fun _ _ _ _ => False) [] (putAll f ps x) W)
    {W : World} (hWB : W.heap.size = B) (hW : Upd (fun b => ¬ Dep b) w0 W) (h0 : I 0 W) (hX0 : X W) (hl : W.heap[l]? = some (.loop (rec .ready none))) :
    CT P gf (.func (.yield l) #[] #[] :: lb).toArray W fun _ W' => ∃ jump W'', (Instr.endLoop l).run P W' = .ok jump W'' ∧ X W'' ∧
      ((jump = none ∧ I xs.length W'') ∨ (∃ k e c, k < xs.length ∧ jump = some c ∧ (c = .ret ∧ e = .ret ∨ ∃ id, c = .exit id ∧ e = .exit id) ∧ Ix k e W'')) := by
  have hlt : ∀ {W : World} {o : Obj}, W.heap[l]? = some o → l < W.heap.size := fun h => (Array.getElem?_eq_some_iff.1 h).1
  have keepL : ∀ {D : Nat → Prop} {W W' : World} {o : Obj}, Upd D W W' → ¬ D l → W.heap[l]? = some o → W'.heap[l]? = some o := fun hu hd h => (hu.blk l (hlt h) hd).trans h
  have hDi : ¬ B ≤ l := by omega
  refine CT.mono (hit l (fun k W => I k W ∧ X W ∧ W.heap[l]? = some (.loop (rec .ready none)))
    (fun k W => ∃ e c, (c = .ret ∧ e = .ret ∨ ∃ id, c = .exit id ∧ e = .exit id) ∧ Ix k e W ∧ X W ∧ W.heap[l]? = some (.loop (rec .done (some c)))) W (fun b => Db b ∨ b = l) hW
    (fun b hb => by rw [hWB]; rcases hb with h | rfl; exact ⟨(hDb b h).1, hDB b h⟩; exact ⟨hDl, hlB⟩) ?_ ?_ ?_ ⟨h0, hX0, hl⟩) ?_
  · rw [hWB]; rintro k W1 W2 ⟨hi, hx, hl1⟩ hu
    exact ⟨hI k _ _ hi (hu.mono fun _ _ h => .inl h), hX _ _ hx (hu.mono fun _ _ h => .inr (.inl h)), keepL hu hDi hl1⟩
  · rw [hWB]; rintro k W1 W2 ⟨e, c, hc, hi, hx, hl1⟩ hu
    exact ⟨e, c, hc, hIx k e _ _ hi (hu.mono fun _ _ h => .inl h), hX _ _ hx (hu.mono fun _ _ h => .inr (.inl h)), keepL hu hDi hl1⟩
  · rintro k x W1 hk ⟨hi, hx, hl1⟩
    have hlen : x.toArray.size = (rec .ready none).params.size := by rw [hrec]; simpa using hps x (List.mem_of_getElem? hk)
    have hy := run_yield (P := P) hl1 hlen
    rw [hrec] at hy
    refine ⟨fn, _, assign, body, hy, roundIn_of_wpIn trivial ?_⟩
    have hput : Ag N [] (putAll f ps x) { tmps := (Array.zip ps.toArray x.toArray).foldl (fun t (p, v) => t.setIfInBounds p v) tmps, defers := [] } := by
      have := Ag.putAll (N := N) (ds := []) ps x (f := f) (tmps := tmps) hpn hag
      have e : (Array.zip ps.toArray x.toArray) = (ps.zip x).toArray := by simp
      rw [e]
      simpa using this
    refine wpIn_mono (hbody k x W1 hk hi hx ⟨_, hl1⟩ _ hput) ?_
    rintro e a1 W2 ⟨ds', f1, hag1, hq⟩
    cases e with
    | normal =>
      obtain ⟨hu1, hb⟩ := hq
      have hl2 := keepL hu1 (fun h => (hDb l h).2 rfl) hl1
      have hx2 := hX _ _ hx (hu1.mono fun _ _ h => .inl h)
      refine ⟨_, run_beginRound hl2 (by rw [hrec]), ?_⟩
      have hu2 := upd_putObj W2 l (.loop { rec .ready none with state := .busy })
      have hl3 : (W2.putObj l (.loop { rec .ready none with state := .busy })).heap[l]? = some (.loop { rec .ready none with state := .busy }) := World.putObj_heap_same (hlt hl2)
      have hx3 := hX _ _ hx2 (hu2.mono fun _ _ h => .inr (.inr h))
      refine wpIn_mono (hb _ hu2 ⟨_, hl3⟩ a1 hag1) ?_
      rintro e a2 W4 ⟨ds2, f2, _, hq2⟩
      have fin : ∀ (jump : Option Code), Upd Db (W2.putObj l (.loop { rec .ready none with state := .busy })) W4 →
          (Instr.endRound l jump).run P W4 = .ok (.bool jump.isNone) (W4.putObj l (.loop (rec (if jump.isNone then .ready else .done) jump))) ∧
          X (W4.putObj l (.loop (rec (if jump.isNone then .ready else .done) jump))) ∧
          (W4.putObj l (.loop (rec (if jump.isNone then .ready else .done) jump))).heap[l]? = some (.loop (rec (if jump.isNone then .ready else .done) jump)) ∧
          Upd (fun b => Db b ∨ b = l) W1 (W4.putObj l (.loop (rec (if jump.isNone then .ready else .done) jump))) := by
        intro jump hu4
        have hl4 := keepL hu4 (fun h => (hDb l h).2 rfl) hl3
        have hr := run_endRound (P := P) jump hl4
        rw [hrec] at hr ⊢
        refine ⟨hr, hX _ _ (hX _ _ hx3 (hu4.mono fun _ _ h => .inl h)) ((upd_putObj W4 l _).mono fun _ _ h => .inr (.inr h)), World.putObj_heap_same (hlt hl4), ?_⟩
        exact (((hu1.mono fun _ _ h => .inl h).trans (hu2.mono fun _ _ h => .inr h)).trans (hu4.mono fun _ _ h => .inl h)).trans ((upd_putObj W4 l _).mono fun _ _ h => .inr h)
      cases e with
      | normal =>
        obtain ⟨hu4, hi4⟩ := hq2
        obtain ⟨h1, h2, h3, h4⟩ := fin none hu4
        exact ⟨_, _, h1, _, rfl, .inl ⟨rfl, ⟨hI _ _ _ hi4 ((upd_putObj W4 l _).mono fun _ _ h => .inr h), h2, h3⟩, h4⟩⟩
      | ret =>
        obtain ⟨hu4, hi4⟩ := hq2
        obtain ⟨h1, h2, h3, h4⟩ := fin (some .ret) hu4
        exact ⟨_, _, h1, _, rfl, .inr ⟨rfl, ⟨.ret, .ret, .inl ⟨rfl, rfl⟩, hIx _ _ _ _ hi4 ((upd_putObj W4 l _).mono fun _ _ h => .inr h), h2, h3⟩, h4⟩⟩
      | exit id =>
        obtain ⟨hu4, hi4⟩ := hq2
        obtain ⟨h1, h2, h3, h4⟩ := fin (some (.exit id)) hu4
        exact ⟨_, _, h1, _, rfl, .inr ⟨rfl, ⟨.exit id, .exit id, .inr ⟨id, rfl, rfl⟩, hIx _ _ _ _ hi4 ((upd_putObj W4 l _).mono fun _ _ h => .inr h), h2, h3⟩, h4⟩⟩
      | goto t => exact hq2.elim
      | panic ch => exact hq2.elim
      | outgrown => exact hq2.elim
    | ret => exact hq.elim
    | exit id => exact hq.elim
    | goto t => exact hq.elim
    | panic ch => exact hq.elim
    | outgrown => exact hq.elim
  · rintro v W' (⟨hi, hx, hl1⟩ | ⟨k, hk, e, c, hc, hi, hx, hl1⟩)
    · have := run_endLoop (P := P) hl1 (by rw [hrec]; simp)
      have hu := upd_putObj W' l (.loop { rec .ready none with state := .exhausted })
      refine ⟨_, _, this, hX _ _ hx (hu.mono fun _ _ h => .inr (.inr h)), .inl ⟨by rw [hrec], hI _ _ _ hi (hu.mono fun _ _ h => .inr h)⟩⟩
    · have := run_endLoop (P := P) hl1 (by rw [hrec]; simp)
      have hu := upd_putObj W' l (.loop { rec .done (some c) with state := .exhausted })
      exact ⟨_, _, this, hX _ _ hx (hu.mono fun _ _ h => .inr (.inr h)), .inr ⟨k, e, c, hk, by rw [hrec], hc, hIx _ _ _ _ hi (hu.mono fun _ _ h => .inr h)⟩⟩
theorem W_rangeS (hx : ev f g = .func (.func gf) #[] lb.toArray) (eg : ∀ args w, (callFunc gf args).run P w = .ok (.enter gf args) w)
    (hit : IterS P gf lb xs w0 Dep) (hw0 : Upd (fun b => ¬ Dep b) w0 w) (hpn : ps.all (fun p => Nat.blt p N) = true) (hps : ∀ x ∈ xs, x.length = ps.length)
    (Db : Nat → Prop) (hDb : ∀ b, Db b → ¬ Dep b ∧ b < w.heap.size) (hDn : ∀ b, w.heap.size ≤ b → ¬ Dep b)
    (I : Nat → World → Prop) (Ix : Nat → Exit → World → Prop)
    (hI : ∀ k W W', I k W → Upd (fun b => w.heap.size + 2 ≤ b ∨ b = w.heap.size + 1) W W' → I k W') (hIx : ∀ k e W W', Ix k e W → Upd (fun b => w.heap.size + 2 ≤ b ∨ b = w.heap.size + 1) W W' → Ix k e W')
    (h0 : ∀ W, Ext w W → W.heap.size = w.heap.size + 2 → I 0 W)
    (hbody : ∀ k x W, xs[k]? = some x → I k W → w.heap.size + 2 ≤ W.heap.size → (∃ r, W.heap[w.heap.size + 1]? = some (.loop r)) →
      Wp (some (w.heap.size + 1)) P N assign (thenQ (fun ds' f1 W1 => Upd Db W W1 ∧ ∀ W2, Upd (fun b => b = w.heap.size + 1) W1 W2 → (∃ r, W2.heap[w.heap.size + 1]? = some (.loop r)) →
        Wp (some (w.heap.size + 1)) P N body (roundQ Db W2 (I (k + 1)) (Ix k)) ds' f1 W2) fun _ _ _ _ => False) [] (putAll f ps x) W)
    (hdone : ∀ W, I xs.length W → W.heap[w.heap.size]? = some (.deferred (some [])) → Q .normal (mark w.heap.size :: ds) f W)
    (hexit : ∀ k e W, k < xs.length → Ix k e W → W.heap[w.heap.size]? = some (.deferred (some [])) → (e = .ret ∨ ∃ id, e = .exit id) → Q e (mark w.heap.size :: ds) f W) :
    Wp none P N (.rangeFunc g ps.toArray assign body) Q ds f w := by
  intro a ha
  refine wpIn_rangeFunc ?_
  intro fn _
  obtain ⟨rec, hrec⟩ : ∃ rec : LoopState → Option Code → Loop, rec = fun st pe => { state := st, pending := pe, fn, tmps := a.tmps, params := ps.toArray, assign, body, defers := w.heap.size } := ⟨_, rfl⟩
  obtain ⟨W1, hW1⟩ : ∃ W1, (w.alloc (.deferred (some []))).alloc (.loop (rec .ready none)) = W1 := ⟨_, rfl⟩
  have hL1 : W1.heap[w.heap.size + 1]? = some (.loop (rec .ready none)) := by
    rw [← hW1]; have := World.alloc_heap_new (w.alloc (.deferred (some []))) (.loop (rec .ready none)); rwa [World.size_alloc] at this
  have hK1 : W1.heap[w.heap.size]? = some (.deferred (some [])) := by
    rw [← hW1]; exact (Go.RowKit.Below.heap_alloc _ _ _ (by simp)).trans (World.alloc_heap_new w _)
  have hS1 : W1.heap.size = w.heap.size + 2 := by rw [← hW1]; simp
  have hE1 : Ext w W1 := by rw [← hW1]; exact (ext_alloc w _).trans (ext_alloc _ _)
  have hev : a.eval g = .func (.func gf) #[] lb.toArray := by rw [ha.eval]; exact hx
  refine ⟨w.heap.size + 1, [mark w.heap.size], W1, { target := .fn (.func gf) lb.toArray, args := #[.func (.yield (w.heap.size + 1)) #[] #[]] }, W1, gf,
    (.func (.yield (w.heap.size + 1)) #[] #[] :: lb).toArray, W1, ?_, run_rangeCall _ hev, fun _ _ => trivial, ?_, fun hd => (by cases hd), ?_⟩
  · rw [← hW1, hrec]; exact run_enterLoop_outer _ _ _ _ _
  · simp only [invoke, List.append_toArray, List.cons_append, List.nil_append]
    exact eg _ _
  · have hag : Ag N ([] : List Deferred) f { tmps := a.tmps, defers := [] } := ⟨ha.size, ha.get, rfl⟩
    have hR := rounds_ofS (P := P) hrec hag hit hpn hps Db (fun b hb => ⟨(hDb b hb).1, by have := (hDb b hb).2; omega⟩) (hDn _ (by omega)) (B := w.heap.size + 2) (by omega) (fun b hb => by have := (hDb b hb).2; omega)
      (fun W => W.heap[w.heap.size]? = some (.deferred (some [])) ∧ w.heap.size + 2 ≤ W.heap.size)
      (fun W W' hX hu => ⟨(hu.blk _ (by have := hX.2; omega) (fun h => by
        rcases h with h | h | h
        · have := (hDb _ h).2; omega
        · omega
        · omega)).trans hX.1, Nat.le_trans hX.2 hu.size⟩) I Ix hI hIx
      (fun k x W hk hi hX hr => hbody k x W hk hi hX.2 hr) hS1 (hw0.comp hE1 (fun _ _ h => h) (fun _ _ h => h.elim)) (h0 W1 hE1 hS1) ⟨hK1, by omega⟩ hL1
    have hC : CallsIn Fence.wide 0 P gf (.func (.yield (w.heap.size + 1)) #[] #[] :: lb).toArray W1 _ := callsIn_wide.2 hR
    refine CallsIn.mono (show CallsIn (FR none) (0 - 1) P gf _ W1 _ from hC) ?_
    rintro e W' ⟨v, rfl, jump, W2, hend, hX2, h⟩
    have hag2 : Ag N (mark w.heap.size :: ds) f { a with defers := [mark w.heap.size] ++ a.defers } := ⟨ha.size, ha.get, by simp [ha.ds]⟩
    refine ⟨jump, W2, hend, ?_⟩
    rcases h with ⟨rfl, hi⟩ | ⟨k, e, c, hk, rfl, hc, hi⟩
    · exact ⟨_, f, hag2, hdone W2 hi hX2.1⟩
    · rcases hc with ⟨rfl, rfl⟩ | ⟨id, rfl, rfl⟩
      · exact wpIn_ret ⟨_, f, hag2, hexit k .ret W2 hk hi hX2.1 (.inl rfl)⟩
      · exact wpIn_exit ⟨_, f, hag2, hexit k (.exit id) W2 hk hi hX2.1 (.inr ⟨id, rfl⟩)⟩

end rangeS

/-! ### Owned rows of records: stores -/
section flat
variable {ε : Type} {L : Lay ε}
theorem flat_setC {es : List ε} {i j : Nat} {e e' : ε} {u : Value} (he : es[i]? = some e) (hj : j < L.sz) (hc : L.cel e' = (L.cel e).set j u) : (es.flatMap L.cel).set (i * L.sz + j) u = (es.set i e').flatMap L.cel := by
  induction es generalizing i with
  | nil => simp at he
  | cons a r ih =>
    cases i with
    | zero =>
      simp only [List.getElem?_cons_zero, Option.some.injEq] at he
      subst he
      rw [List.set_cons_zero, List.flatMap_cons, List.flatMap_cons, hc, Nat.zero_mul, Nat.zero_add, List.set_append, if_pos (by rw [L.len]; exact hj)]
    | succ i =>
      rw [List.set_cons_succ, List.flatMap_cons, List.flatMap_cons, ← ih (by simpa using he), List.set_append, if_neg (by rw [L.len, Nat.succ_mul]; omega), L.len]
      congr 2
      rw [Nat.succ_mul]; omega
theorem flat_setA {es : List ε} {i : Nat} {e' : ε} (hi : i < es.length) : (es.set i e').flatMap L.cel = (es.flatMap L.cel).take (i * L.sz) ++ L.cel e' ++ (es.flatMap L.cel).drop (i * L.sz + L.sz) := by
  induction es generalizing i with
  | nil => simp at hi
  | cons a r ih =>
    cases i with
    | zero =>
      rw [List.set_cons_zero, List.flatMap_cons, List.flatMap_cons, Nat.zero_mul, List.take_zero, List.nil_append, Nat.zero_add, List.drop_left' (L.len a)]
    | succ i =>
      have h1 : (i + 1) * L.sz = (L.cel a).length + i * L.sz := by rw [L.len, Nat.succ_mul, Nat.add_comm]
      rw [List.set_cons_succ, List.flatMap_cons, List.flatMap_cons, ih (by simpa using hi), h1, List.take_length_add_append, Nat.add_assoc, List.drop_length_add_append, List.append_assoc, List.append_assoc, List.append_assoc]
end flat
section own3
variable {ρ : Option Nat} {P : Program} {ty : TypeId} {f : Fr} {w : World} {K : Value → World → Prop}
theorem X_storeOwnC {t B e n i sz : Nat} {x y : Operand} {v u : Value} {xs : List Value} (h1 : Ty1 P t) (hO : Own w B e sz v n xs) (hi : i < n * sz) (hx : ev f x = pof v i) (hy : ev f y = u) (hu : u.oneCell' = true)
    (h : ∀ w', Own w' B e sz v n (xs.set i u) → Upd (fun b => obk v = some b) w w' → K undef w') : Exec ρ P (.store t x y) ty f w K := by
  obtain ⟨hl, a, c, rfl, hnc, hcm, hcase⟩ := hO
  have hn0 : 0 < n := Nat.pos_of_ne_zero fun h0 => by rw [h0, Nat.zero_mul] at hi; omega
  have hcz : n * sz ≤ c * sz := Nat.mul_le_mul_right sz hnc
  rcases hcase with h0 | ⟨g, cur, rfl, hB, hb, hs, hxs⟩
  · omega
  · have hp : pof (.slice (some ⟨g, 0, none⟩) n c) i = ptr g i := by
      show Value.pointer (some ((⟨g, 0, none⟩ : Addr).add i)) = _
      rw [addr_add, Nat.zero_add]; rfl
    rw [hp] at hx
    obtain ⟨k, rfl⟩ : ∃ k, c = k + 1 := ⟨c - 1, by omega⟩
    refine X_store h1 hx hy hu hb (by omega) fun w' hu' hb' => h w' ⟨by rw [List.length_set]; exact hl, _, _, rfl, hnc, hcm, .inr ⟨g, _, rfl, hB, hb', by simpa using hs, ?_⟩⟩ (hu'.mono fun b _ hd => by have hd : b = g := hd; subst hd; rfl)
    rw [Array.toList_setIfInBounds, ← hxs]
    apply List.ext_getElem?
    intro j
    simp only [List.getElem?_take, List.getElem?_set, List.length_take]
    grind
theorem X_storeOwnA {t B e n i m sz : Nat} {x y : Operand} {v : Value} {xs ys : List Value} (h1 : TyA P t m) (hO : Own w B e sz v n xs) (hi : i + m ≤ n * sz) (hm : 0 < m) (hx : ev f x = pof v i) (hy : ev f y = .agg ys.toArray) (hv : ∀ u ∈ ys, u.oneCell' = true) (hym : ys.length = m)
    (h : ∀ w', Own w' B e sz v n (xs.take i ++ ys ++ xs.drop (i + m)) → Upd (fun b => obk v = some b) w w' → K undef w') : Exec ρ P (.store t x y) ty f w K := by
  obtain ⟨hl, a, c, rfl, hnc, hcm, hcase⟩ := hO
  have hn0 : 0 < n := Nat.pos_of_ne_zero fun h0 => by rw [h0, Nat.zero_mul] at hi; omega
  have hcz : n * sz ≤ c * sz := Nat.mul_le_mul_right sz hnc
  rcases hcase with h0 | ⟨g, cur, rfl, hB, hb, hs, hxs⟩
  · omega
  · have hp : pof (.slice (some ⟨g, 0, none⟩) n c) i = ptr g i := by
      show Value.pointer (some ((⟨g, 0, none⟩ : Addr).add i)) = _
      rw [addr_add, Nat.zero_add]; rfl
    rw [hp] at hx
    obtain ⟨k, rfl⟩ : ∃ k, c = k + 1 := ⟨c - 1, by omega⟩
    refine X_storeA h1 hx hy hv hym hb (by omega) fun w' hu' hb' => h w' ⟨?_, _, _, rfl, hnc, hcm, .inr ⟨g, _, rfl, hB, hb', ?_, ?_⟩⟩ (hu'.mono fun b _ hd => by have hd : b = g := hd; subst hd; rfl)
    · simp only [List.length_append, List.length_take, List.length_drop]; omega
    · simp only [List.size_toArray, List.length_append, List.length_take, List.length_drop, Array.length_toList]; omega
    · have hcl : cur.toList.length = cur.size := Array.length_toList
      subst hym
      rw [← hxs]
      apply List.ext_getElem?
      intro j
      simp only [List.getElem?_take, List.getElem?_append, List.length_append, List.length_take, List.getElem?_drop]
      grind
/-- the head of an owned row -/
theorem Own.cut0 {B e n k sz : Nat} {v : Value} {xs : List Value} (hO : Own w B e sz v n xs) (hk : k ≤ n) : Own w B e sz (cutv v sz 0 k) k (xs.take (k * sz)) := by
  obtain ⟨hl, a, c, rfl, hnc, hcm, hcase⟩ := hO
  have h1 : k * sz ≤ n * sz := Nat.mul_le_mul_right sz hk
  rw [cutv_zero']
  refine ⟨by rw [List.length_take, hl]; exact Nat.min_eq_left h1, a, c, rfl, by omega, hcm, ?_⟩
  rcases hcase with h0 | ⟨g, cur, rfl, hB, hb, hs, hxs⟩
  · exact .inl h0
  · exact .inr ⟨g, cur, rfl, hB, hb, hs, by rw [← hxs, List.take_take, Nat.min_eq_left h1]⟩
/-- 'clear(s[i:])' of an owned row of one-cell elements -/
theorem X_clearTail {t B e n i bytes : Nat} {z : Value} {x : Operand} {v : Value} {xs : List Value} (hS : TyS P t e 1 bytes z) (hz1 : z.cells = #[z]) (hzo : z.oneCell' = true) (hO : Own w B e 1 v n xs) (hi : i ≤ n) (hx : ev f x = cutv v 1 i n)
    (h : ∀ w' xs', Own w' B e 1 v n xs' → xs'.take i = xs.take i → Upd (fun b => obk v = some b) w w' → K (.tuple #[]) w') : Exec ρ P (.call { callee := .builtin .clear, args := #[x], argTypes := #[t] }) ty f w K := by
  have hO' := hO
  obtain ⟨hl, a, c, rfl, hnc, hcm, hcase⟩ := hO
  obtain ⟨ie, hie, h1, _, h3⟩ := hS.info
  have hzv : ∀ w, (zeroValue e).run P w = .ok z w := fun w => run_zero_of (by rw [hie]; exact h3) w
  rcases Nat.eq_or_lt_of_le hi with rfl | hlt
  · refine X_val (fun _ => by simp) (.tuple #[]) (fun o ho ht => ?_) (h w xs hO' rfl (Upd.refl _ _))
    unfold execOp
    rw [ho]
    have e0 : i - i = 0 := Nat.sub_self i
    by_cases hci : c = i
    · cases a <;> simp [resolve, invoke, builtin, hx, cutv, Builtin.clear_, run_underlying hS.und, hci, Builtin.zeroCells]
    · cases a <;> simp [resolve, invoke, builtin, hx, cutv, Builtin.clear_, run_underlying hS.und, hci, Builtin.zeroCells]
  · rcases hcase with h0 | ⟨g, cur, rfl, hB, hb, hs, hxs⟩
    · omega
    · have hci : ¬ c = i := by omega
      have hzc : (Builtin.zeroCells z.cells (n - i)).toList = List.replicate (n - i) z := by
        rw [hz1]
        simp [Builtin.zeroCells]
        apply List.ext_getElem
        · simp
        · intro i h1 h2
          simp [Nat.mod_one]
      have hst := run_storeCells_at P g i e (List.replicate (n - i) z) 0 cur w hb (by simp; omega) (by intro u hu; rw [List.eq_of_mem_replicate hu]; exact hzo)
      simp only [Nat.add_zero] at hst
      obtain ⟨k, rfl⟩ : ∃ k, c = k + 1 := ⟨c - 1, by omega⟩
      obtain ⟨m, hm⟩ : ∃ m, n - i = m + 1 := ⟨n - i - 1, by omega⟩
      have hnb : ¬ (k + 1) = i := hci
      refine X_val (w' := w.setRow g (cur.toList.take i ++ List.replicate (n - i) z ++ cur.toList.drop (i + (List.replicate (n - i) z).length)).toArray) (fun _ => by simp) (.tuple #[]) (fun o ho ht => ?_) (h _ _ ⟨?_, _, _, rfl, hnc, hcm, .inr ⟨g, _, rfl, hB, setRow_heap w g cur _ e (0, 0) hb, ?_, rfl⟩⟩ ?_ ((setRow_upd w g _).mono fun b _ hd => by have hd : b = g := hd; subst hd; rfl))
      · unfold execOp
        rw [ho]
        rw [hm] at hst hzc ⊢
        simp [resolve, invoke, builtin, hx, cutv, hnb, hm, addr_add, Builtin.clear_, run_underlying hS.und, hzv, hzc, hst]
      · simp only [List.length_take, List.length_append, List.length_drop, List.length_replicate, Array.length_toList]; omega
      · simp only [List.size_toArray, List.length_append, List.length_take, List.length_drop, List.length_replicate, Array.length_toList]; omega
      · rw [← hxs]
        apply List.ext_getElem?
        intro j
        simp only [List.getElem?_take, List.getElem?_append, List.length_append, List.length_take, Array.length_toList]
        grind
theorem X_makeSliceL {ε : Type} (L : Lay ε) (e0 : ε) {t e bytes n : Nat} {z : Value} {x y : Operand} {k k' : IntKind} (hS : TyS P t e L.sz bytes z) (hz1 : z.cells = (L.cel e0).toArray) (hx : ev f x = .int k n) (hy : ev f y = .int k' n) (hb : bytes * n ≤ 281474976710656) (hm : n ≤ 9223372036854775807) (hsz : 0 < L.sz)
    (h : ∀ b w', New w w' b ((List.replicate n e0).flatMap L.cel).toArray e → K (.slice (some ⟨b, 0, none⟩) n n) w') : Exec ρ P (.makeSlice t x y) ty f w K := by
  obtain ⟨i, hi, h1, h2, h3⟩ := hS.info
  have hr := run_make (P := P) w t e i z hS.und hi h3 k k' n n (by omega) (Int.le_refl _) (by rw [h2, ← Int.natCast_mul]; omega) (by omega)
  have hmc : madeCells z.cells (n * L.sz) = ((List.replicate n e0).flatMap L.cel).toArray := by
    apply Array.ext'
    unfold madeCells
    rw [Array.toList_map, List.toList_toArray, Array.toList_range]
    have hfl : ((List.replicate n e0).flatMap L.cel).length = n * L.sz := by rw [flat_len, List.length_replicate]
    apply List.ext_getElem?
    intro j
    rcases Nat.lt_or_ge j (n * L.sz) with hj | hj
    · have hj2 : j / L.sz < n := Nat.div_lt_of_lt_mul (by rw [Nat.mul_comm]; exact hj)
      have hm2 := Nat.mod_lt j hsz
      obtain ⟨u, hu⟩ : ∃ u, (L.cel e0)[j % L.sz]? = some u := ⟨_, List.getElem?_eq_getElem (by rw [L.len]; exact hm2)⟩
      have h5 := flat_at (L := L) (es := List.replicate n e0) (i := j / L.sz) (e := e0) (by rw [List.getElem?_replicate, if_pos hj2]) hu
      rw [Nat.div_add_mod'] at h5
      rw [h5, List.getElem?_map, List.getElem?_range hj, hz1]
      simp only [Option.map_some, List.size_toArray, L.len]
      congr 1
      rw [getElem!_pos (L.cel e0).toArray (j % L.sz) (by rw [List.size_toArray, L.len]; exact hm2)]
      simpa using (List.getElem?_eq_some_iff.1 hu).2
    · rw [List.getElem?_eq_none (by rw [List.length_map, List.length_range]; exact hj), List.getElem?_eq_none (by rw [hfl]; exact hj)]
  rw [h1, Int.toNat_natCast, hmc] at hr
  refine X_sv (Instr.makeSlice t (ev f x) (ev f y)) (fun _ => by simp) (fun o ho _ => by unfold execOp; rw [ho]) (w' := w.alloc (.cells ((List.replicate n e0).flatMap L.cel).toArray e)) ?_ (h _ _ (new_alloc w _ e))
  rw [hx, hy]; exact hr
/-- a byte of a string -/
theorem X_strAt {t t0 : TypeId} {x y : Operand} {k : IntKind} {s : ByteArray} {i : Nat} {b : UInt8} (hx : ev f x = .string s) (hy : ev f y = .int k i) (hb : s.data[i]? = some b) (h : K (byteV b) w) (hu : P.underlying t = some .string) : Exec ρ P (.index t x y) t0 f w K := by
  have hlt : i < s.data.size := by
    rcases Nat.lt_or_ge i s.data.size with h1 | h1
    · exact h1
    · rw [Array.getElem?_eq_none h1] at hb; cases hb
  refine X_sv (Instr.index t (ev f x) (ev f y)) (fun _ => by simp) (fun o ho _ => by unfold execOp; rw [ho]) (v := byteV b) (w' := w) ?_ h
  rw [hx, hy]
  have hg : s[i]'hlt = b := (Array.getElem?_eq_some_iff.1 hb).2
  rw [run_index_string _ _ _ _ _ hu, dif_pos ⟨by omega, by have h1 : s.size = s.data.size := rfl; omega⟩]
  show Result.ok (Value.int .u8 ((s[i]'hlt).toNat : Int)) w = _
  rw [hg]; rfl
end own3
end Go.SL
