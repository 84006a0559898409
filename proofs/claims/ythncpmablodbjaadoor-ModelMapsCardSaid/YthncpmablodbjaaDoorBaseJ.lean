import Derived.Test.YthncpmablodbjaaDoorBaseI
namespace Go.SL
open Go

/-! ### Iterators that lay what they hand on -/

/-- AN ITERATOR, as IterC, but what the round k is handed is told by a predicate on the world in which it is handed on -/
def IterG (P : Program) (gf : FuncId) (lb : List Value) (n : Nat) (Y : Nat → List Value → World → World → Prop) (w0 : World) (Dep Di : Nat → Prop) : Prop :=
  ∀ (l : Nat) (J Jx : Nat → World → Prop) (W : World) (Db : Nat → Prop), Upd (fun b => ¬ Dep b) w0 W → (∀ b, Db b → ¬ Dep b) →
    (∀ k W1 W2, J k W1 → Upd Di W1 W2 → J k W2) → (∀ k W1 W2, Jx k W1 → Upd Di W1 W2 → Jx k W2) →
    (∀ k x W0 W1, (k < n ∧ Y k x W0 W1) → J k W0 → Upd Di W0 W1 → YieldC P l x.toArray W1 fun v W' => (v = .bool true ∧ J (k + 1) W' ∧ Upd Db W1 W') ∨ (v = .bool false ∧ Jx k W')) →
    J 0 W → CT P gf (.func (.yield l) #[] #[] :: lb).toArray W fun _ W' => J n W' ∨ ∃ k, k < n ∧ Jx k W'
theorem IterC.g {P : Program} {gf : FuncId} {lb : List Value} {xs : List (List Value)} {w0 : World} {Dep Di : Nat → Prop} (h : IterC P gf lb xs w0 Dep Di) : IterG P gf lb xs.length (fun k x _ _ => xs[k]? = some x) w0 Dep Di :=
  fun l J Jx W Db h1 h2 h3 h4 h5 h6 => h l J Jx W Db h1 h2 h3 h4 (fun k x W1 hk hj => h5 k x W1 W1 ⟨(List.getElem?_eq_some_iff.1 hk).1, hk⟩ hj (Upd.refl _ _)) h6

section range
variable {P : Program} {N : Nat} {Q : Post} {ds : List Deferred} {f : Fr} {w : World}
variable {g : Operand} {ps : List Nat} {assign body : Code} {gf : FuncId} {lb : List Value} {n : Nat} {Y : Nat → List Value → World → World → Prop} {w0 : World} {Dep Di : Nat → Prop}

/-- the rounds of a loop over an iterator, in the one place and in the other: 'rec' is the loop's record at block l -/
theorem rounds_ofG {l : Nat} {fn : FuncId} {tmps : Array Value} {rec : LoopState → Option Code → Loop} {dd : Nat}
    (hrec : rec = fun st pe => { state := st, pending := pe, fn := fn, tmps := tmps, params := ps.toArray, assign := assign, body := body, defers := dd })
    (hag : Ag N ([] : List Deferred) f { tmps := tmps, defers := [] })
    (hit : IterG P gf lb n Y w0 Dep Di) (hpn : ps.all (fun p => Nat.blt p N) = true) (hps : ∀ k x W0 W, Y k x W0 W → x.length = ps.length)
    (Db : Nat → Prop) (hDb : ∀ b, Db b → ¬ Dep b ∧ b ≠ l) (hDl : ¬ Dep l) (hDi : ¬ Di l)
    (X : World → Prop) (hX : ∀ W W', X W → Upd (fun b => Db b ∨ Di b ∨ b = l) W W' → X W')
    (I : Nat → World → Prop) (Ix : Nat → Exit → World → Prop)
    (hI : ∀ k W W', I k W → Upd (fun b => Di b ∨ b = l) W W' → I k W') (hIx : ∀ k e W W', Ix k e W → Upd (fun b => Di b ∨ b = l) W W' → Ix k e W')
    (hbody : ∀ k x W0 W, (k < n ∧ Y k x W0 W) → I k W0 → Upd (fun b => Di b ∨ b = l) W0 W → X W0 → X W → (∃ r, W.heap[l]? = some (.loop r)) →
      Wp (some l) P N assign (thenQ (fun ds' f1 W1 => Upd Db W W1 ∧ ∀ W2, Upd (fun b => b = l) W1 W2 → (∃ r, W2.heap[l]? = some (.loop r)) → Wp (some l) P N body (roundQ Db W2 (I (k + 1)) (Ix k)) ds' f1 W2) fun _ _ _ _ => False) [] (putAll f ps x) W)
    {W : World} (hW : Upd (fun b => ¬ Dep b) w0 W) (h0 : I 0 W) (hX0 : X W) (hl : W.heap[l]? = some (.loop (rec .ready none))) :
    CT P gf (.func (.yield l) #[] #[] :: lb).toArray W fun _ W' => ∃ jump W'', (Instr.endLoop l).run P W' = .ok jump W'' ∧ X W'' ∧
      ((jump = none ∧ I n W'') ∨ (∃ k e c, k < n ∧ jump = some c ∧ (c = .ret ∧ e = .ret ∨ ∃ id, c = .exit id ∧ e = .exit id) ∧ Ix k e W'')) := by
  have hlt : ∀ {W : World} {o : Obj}, W.heap[l]? = some o → l < W.heap.size := fun h => (Array.getElem?_eq_some_iff.1 h).1
  have keepL : ∀ {D : Nat → Prop} {W W' : World} {o : Obj}, Upd D W W' → ¬ D l → W.heap[l]? = some o → W'.heap[l]? = some o := fun hu hd h => (hu.blk l (hlt h) hd).trans h
  have hDib : ∀ {b : Nat}, Di b → b ≠ l := fun h e => by subst e; exact hDi h
  refine CT.mono (hit l (fun k W => I k W ∧ X W ∧ W.heap[l]? = some (.loop (rec .ready none)))
    (fun k W => ∃ e c, (c = .ret ∧ e = .ret ∨ ∃ id, c = .exit id ∧ e = .exit id) ∧ Ix k e W ∧ X W ∧ W.heap[l]? = some (.loop (rec .done (some c)))) W (fun b => Db b ∨ b = l) hW
    (fun b hb => by rcases hb with h | rfl; exact (hDb b h).1; exact hDl) ?_ ?_ ?_ ⟨h0, hX0, hl⟩) ?_
  · rintro k W1 W2 ⟨hi, hx, hl1⟩ hu
    exact ⟨hI k _ _ hi (hu.mono fun _ _ h => .inl h), hX _ _ hx (hu.mono fun _ _ h => .inr (.inl h)), keepL hu hDi hl1⟩
  · rintro k W1 W2 ⟨e, c, hc, hi, hx, hl1⟩ hu
    exact ⟨e, c, hc, hIx k e _ _ hi (hu.mono fun _ _ h => .inl h), hX _ _ hx (hu.mono fun _ _ h => .inr (.inl h)), keepL hu hDi hl1⟩
  · rintro k x W0 W1 hk ⟨hi, hx0, hl0⟩ hu0
    have hx := hX _ _ hx0 (hu0.mono fun _ _ h => .inr (.inl h))
    have hl1 := keepL hu0 hDi hl0
    have hlen : x.toArray.size = (rec .ready none).params.size := by rw [hrec]; simpa using hps k x _ _ hk.2
    have hy := run_yield (P := P) hl1 hlen
    rw [hrec] at hy
    refine ⟨fn, _, assign, body, hy, roundIn_of_wpIn trivial ?_⟩
    have hput : Ag N [] (putAll f ps x) { tmps := (Array.zip ps.toArray x.toArray).foldl (fun t (p, v) => t.setIfInBounds p v) tmps, defers := [] } := by
      have := Ag.putAll (N := N) (ds := []) ps x (f := f) (tmps := tmps) hpn hag
      have e : (Array.zip ps.toArray x.toArray) = (ps.zip x).toArray := by simp
      rw [e]
      simpa using this
    refine wpIn_mono (hbody k x W0 W1 hk hi (hu0.mono fun _ _ h => .inl h) hx0 hx ⟨_, hl1⟩ _ hput) ?_
    rintro e a1 W2 ⟨ds', f1, hag1, hq⟩
    cases e with
    | normal =>
      obtain ⟨hu1, hb⟩ := hq
      have hl2 := keepL hu1 (fun h => (hDb l h).2 rfl) hl1
      have hx2 := hX _ _ hx (hu1.mono fun _ _ h => .inl h)
      refine ⟨_, run_beginRound hl2 (by rw [hrec]), ?_⟩
      have hu2 := upd_putObj W2 l (.loop { rec .ready none with state := .busy })
      have hl3 : (W2.putObj l (.loop { rec .ready none with state := .busy })).heap[l]? = some (.loop { rec .ready none with state := .busy }) := World.putObj_heap_same (hlt hl2)
      have hx3 := hX _ _ hx2 (hu2.mono fun _ _ h => .inr (.inr h))
      refine wpIn_mono (hb _ hu2 ⟨_, hl3⟩ a1 hag1) ?_
      rintro e a2 W4 ⟨ds2, f2, _, hq2⟩
      have fin : ∀ (jump : Option Code), Upd Db (W2.putObj l (.loop { rec .ready none with state := .busy })) W4 →
          (Instr.endRound l jump).run P W4 = .ok (.bool jump.isNone) (W4.putObj l (.loop (rec (if jump.isNone then .ready else .done) jump))) ∧
          X (W4.putObj l (.loop (rec (if jump.isNone then .ready else .done) jump))) ∧
          (W4.putObj l (.loop (rec (if jump.isNone then .ready else .done) jump))).heap[l]? = some (.loop (rec (if jump.isNone then .ready else .done) jump)) ∧
          Upd (fun b => Db b ∨ b = l) W1 (W4.putObj l (.loop (rec (if jump.isNone then .ready else .done) jump))) := by
        intro jump hu4
        have hl4 := keepL hu4 (fun h => (hDb l h).2 rfl) hl3
        have hr := run_endRound (P := P) jump hl4
        rw [hrec] at hr ⊢
        refine ⟨hr, hX _ _ (hX _ _ hx3 (hu4.mono fun _ _ h => .inl h)) ((upd_putObj W4 l _).mono fun _ _ h => .inr (.inr h)), World.putObj_heap_same (hlt hl4), ?_⟩
        exact (((hu1.mono fun _ _ h => .inl h).trans (hu2.mono fun _ _ h => .inr h)).trans (hu4.mono fun _ _ h => .inl h)).trans ((upd_putObj W4 l _).mono fun _ _ h => .inr h)
      cases e with
      | normal =>
        obtain ⟨hu4, hi4⟩ := hq2
        obtain ⟨h1, h2, h3, h4⟩ := fin none hu4
        exact ⟨_, _, h1, _, rfl, .inl ⟨rfl, ⟨hI _ _ _ hi4 ((upd_putObj W4 l _).mono fun _ _ h => .inr h), h2, h3⟩, h4⟩⟩
      | ret =>
        obtain ⟨hu4, hi4⟩ := hq2
        obtain ⟨h1, h2, h3, h4⟩ := fin (some .ret) hu4
        exact ⟨_, _, h1, _, rfl, .inr ⟨rfl, .ret, .ret, .inl ⟨rfl, rfl⟩, hIx _ _ _ _ hi4 ((upd_putObj W4 l _).mono fun _ _ h => .inr h), h2, h3⟩⟩
      | exit id =>
        obtain ⟨hu4, hi4⟩ := hq2
        obtain ⟨h1, h2, h3, h4⟩ := fin (some (.exit id)) hu4
        exact ⟨_, _, h1, _, rfl, .inr ⟨rfl, .exit id, .exit id, .inr ⟨id, rfl, rfl⟩, hIx _ _ _ _ hi4 ((upd_putObj W4 l _).mono fun _ _ h => .inr h), h2, h3⟩⟩
      | goto t => exact hq2.elim
      | panic ch => exact hq2.elim
      | outgrown => exact hq2.elim
    | ret => exact hq.elim
    | exit id => exact hq.elim
    | goto t => exact hq.elim
    | panic ch => exact hq.elim
    | outgrown => exact hq.elim
  · rintro v W' (⟨hi, hx, hl1⟩ | ⟨k, hk, e, c, hc, hi, hx, hl1⟩)
    · have := run_endLoop (P := P) hl1 (by rw [hrec]; simp)
      have hu := upd_putObj W' l (.loop { rec .ready none with state := .exhausted })
      refine ⟨_, _, this, hX _ _ hx (hu.mono fun _ _ h => .inr (.inr h)), .inl ⟨by rw [hrec], hI _ _ _ hi (hu.mono fun _ _ h => .inr h)⟩⟩
    · have := run_endLoop (P := P) hl1 (by rw [hrec]; simp)
      have hu := upd_putObj W' l (.loop { rec .done (some c) with state := .exhausted })
      exact ⟨_, _, this, hX _ _ hx (hu.mono fun _ _ h => .inr (.inr h)), .inr ⟨k, e, c, hk, by rw [hrec], hc, hIx _ _ _ _ hi (hu.mono fun _ _ h => .inr h)⟩⟩
end range

section range2
variable {P : Program} {N : Nat} {Q : Post} {ds : List Deferred} {f : Fr} {w : World}
variable {g : Operand} {ps : List Nat} {assign body : Code} {gf : FuncId} {lb : List Value} {n : Nat} {Y : Nat → List Value → World → World → Prop} {w0 : World} {Dep Di : Nat → Prop}

theorem run_rangeCall' {a : Act} (l : Nat) (hx : a.eval g = .func (.func gf) #[] lb.toArray) :
    (resolve a.eval (rangeCall g l) 0).run P w = .ok { target := .fn (.func gf) lb.toArray, args := #[.func (.yield l) #[] #[]] } w := by
  simp only [resolve, hx]
  simp [Deferred.ofValue, Act.eval]

/-- **A RANGE OVER AN ITERATOR, in a function's own activation.** -/
theorem W_rangeG (hx : ev f g = .func (.func gf) #[] lb.toArray) (eg : ∀ args w, (callFunc gf args).run P w = .ok (.enter gf args) w)
    (hit : IterG P gf lb n Y w0 Dep Di) (hw0 : Upd (fun b => ¬ Dep b) w0 w) (hpn : ps.all (fun p => Nat.blt p N) = true) (hps : ∀ k x W0 W, Y k x W0 W → x.length = ps.length)
    (Db : Nat → Prop) (hDb : ∀ b, Db b → ¬ Dep b ∧ b ≠ w.heap.size ∧ b ≠ w.heap.size + 1) (hDn : ∀ b, w.heap.size ≤ b → ¬ Dep b) (hDi : ∀ b, Di b → b < w.heap.size)
    (I : Nat → World → Prop) (Ix : Nat → Exit → World → Prop)
    (hI : ∀ k W W', I k W → Upd (fun b => Di b ∨ b = w.heap.size + 1) W W' → I k W') (hIx : ∀ k e W W', Ix k e W → Upd (fun b => Di b ∨ b = w.heap.size + 1) W W' → Ix k e W')
    (h0 : ∀ W, Ext w W → W.heap.size = w.heap.size + 2 → I 0 W)
    (hbody : ∀ k x W0 W, (k < n ∧ Y k x W0 W) → I k W0 → Upd (fun b => Di b ∨ b = w.heap.size + 1) W0 W → w.heap.size + 2 ≤ W0.heap.size → w.heap.size + 2 ≤ W.heap.size → (∃ r, W.heap[w.heap.size + 1]? = some (.loop r)) →
      Wp (some (w.heap.size + 1)) P N assign (thenQ (fun ds' f1 W1 => Upd Db W W1 ∧ ∀ W2, Upd (fun b => b = w.heap.size + 1) W1 W2 → (∃ r, W2.heap[w.heap.size + 1]? = some (.loop r)) →
        Wp (some (w.heap.size + 1)) P N body (roundQ Db W2 (I (k + 1)) (Ix k)) ds' f1 W2) fun _ _ _ _ => False) [] (putAll f ps x) W)
    (hdone : ∀ W, I n W → W.heap[w.heap.size]? = some (.deferred (some [])) → Q .normal (mark w.heap.size :: ds) f W)
    (hexit : ∀ k e W, k < n → Ix k e W → W.heap[w.heap.size]? = some (.deferred (some [])) → (e = .ret ∨ ∃ id, e = .exit id) → Q e (mark w.heap.size :: ds) f W) :
    Wp none P N (.rangeFunc g ps.toArray assign body) Q ds f w := by
  intro a ha
  refine wpIn_rangeFunc ?_
  intro fn _
  obtain ⟨rec, hrec⟩ : ∃ rec : LoopState → Option Code → Loop, rec = fun st pe => { state := st, pending := pe, fn, tmps := a.tmps, params := ps.toArray, assign, body, defers := w.heap.size } := ⟨_, rfl⟩
  obtain ⟨W1, hW1⟩ : ∃ W1, (w.alloc (.deferred (some []))).alloc (.loop (rec .ready none)) = W1 := ⟨_, rfl⟩
  have hL1 : W1.heap[w.heap.size + 1]? = some (.loop (rec .ready none)) := by
    rw [← hW1]; have := World.alloc_heap_new (w.alloc (.deferred (some []))) (.loop (rec .ready none)); rwa [World.size_alloc] at this
  have hK1 : W1.heap[w.heap.size]? = some (.deferred (some [])) := by
    rw [← hW1]; exact (Go.RowKit.Below.heap_alloc _ _ _ (by simp)).trans (World.alloc_heap_new w _)
  have hS1 : W1.heap.size = w.heap.size + 2 := by rw [← hW1]; simp
  have hE1 : Ext w W1 := by rw [← hW1]; exact (ext_alloc w _).trans (ext_alloc _ _)
  have hev : a.eval g = .func (.func gf) #[] lb.toArray := by rw [ha.eval]; exact hx
  refine ⟨w.heap.size + 1, [mark w.heap.size], W1, { target := .fn (.func gf) lb.toArray, args := #[.func (.yield (w.heap.size + 1)) #[] #[]] }, W1, gf,
    (.func (.yield (w.heap.size + 1)) #[] #[] :: lb).toArray, W1, ?_, run_rangeCall' _ hev, fun _ _ => trivial, ?_, fun hd => (by cases hd), ?_⟩
  · rw [← hW1, hrec]; exact run_enterLoop_outer _ _ _ _ _
  · simp only [invoke, List.append_toArray, List.cons_append, List.nil_append]
    exact eg _ _
  · have hag : Ag N ([] : List Deferred) f { tmps := a.tmps, defers := [] } := ⟨ha.size, ha.get, rfl⟩
    have hR := rounds_ofG (P := P) hrec hag hit hpn hps Db (fun b hb => ⟨(hDb b hb).1, (hDb b hb).2.2⟩) (hDn _ (by omega)) (fun h => by have := hDi _ h; omega)
      (fun W => W.heap[w.heap.size]? = some (.deferred (some [])) ∧ w.heap.size + 2 ≤ W.heap.size)
      (fun W W' hX hu => ⟨(hu.blk _ (by have := hX.2; omega) (fun h => by
        rcases h with h | h | h
        · exact (hDb _ h).2.1 rfl
        · have := hDi _ h; omega
        · omega)).trans hX.1, Nat.le_trans hX.2 hu.size⟩) I Ix hI hIx
      (fun k x W0 W hk hi hu hX0 hX hr => hbody k x W0 W hk hi hu hX0.2 hX.2 hr) (hw0.comp hE1 (fun _ _ h => h) (fun _ _ h => h.elim)) (h0 W1 hE1 hS1) ⟨hK1, by omega⟩ hL1
    have hC : CallsIn Fence.wide 0 P gf (.func (.yield (w.heap.size + 1)) #[] #[] :: lb).toArray W1 _ := callsIn_wide.2 hR
    refine CallsIn.mono (show CallsIn (FR none) (0 - 1) P gf _ W1 _ from hC) ?_
    rintro e W' ⟨v, rfl, jump, W2, hend, hX2, h⟩
    have hag2 : Ag N (mark w.heap.size :: ds) f { a with defers := [mark w.heap.size] ++ a.defers } := ⟨ha.size, ha.get, by simp [ha.ds]⟩
    refine ⟨jump, W2, hend, ?_⟩
    rcases h with ⟨rfl, hi⟩ | ⟨k, e, c, hk, rfl, hc, hi⟩
    · exact ⟨_, f, hag2, hdone W2 hi hX2.1⟩
    · rcases hc with ⟨rfl, rfl⟩ | ⟨id, rfl, rfl⟩
      · exact wpIn_ret ⟨_, f, hag2, hexit k .ret W2 hk hi hX2.1 (.inl rfl)⟩
      · exact wpIn_exit ⟨_, f, hag2, hexit k (.exit id) W2 hk hi hX2.1 (.inr ⟨id, rfl⟩)⟩

/-- **A RANGE OVER AN ITERATOR in a round of another one (of loop l0).** -/
theorem W_rangeGN {l0 : Nat} (hl0 : ∃ r, w.heap[l0]? = some (.loop r)) (hx : ev f g = .func (.func gf) #[] lb.toArray) (eg : ∀ args w, (callFunc gf args).run P w = .ok (.enter gf args) w)
    (hit : IterG P gf lb n Y w0 Dep Di) (hw0 : Upd (fun b => ¬ Dep b) w0 w) (hpn : ps.all (fun p => Nat.blt p N) = true) (hps : ∀ k x W0 W, Y k x W0 W → x.length = ps.length)
    (Db : Nat → Prop) (hDb : ∀ b, Db b → ¬ Dep b ∧ b ≠ w.heap.size) (hDn : ∀ b, w.heap.size ≤ b → ¬ Dep b) (hDi : ∀ b, Di b → b < w.heap.size)
    (I : Nat → World → Prop) (Ix : Nat → Exit → World → Prop)
    (hI : ∀ k W W', I k W → Upd (fun b => Di b ∨ b = w.heap.size) W W' → I k W') (hIx : ∀ k e W W', Ix k e W → Upd (fun b => Di b ∨ b = w.heap.size) W W' → Ix k e W')
    (h0 : ∀ W, Ext w W → W.heap.size = w.heap.size + 1 → I 0 W)
    (hbody : ∀ k x W0 W, (k < n ∧ Y k x W0 W) → I k W0 → Upd (fun b => Di b ∨ b = w.heap.size) W0 W → w.heap.size + 1 ≤ W0.heap.size → w.heap.size + 1 ≤ W.heap.size → (∃ r, W.heap[w.heap.size]? = some (.loop r)) →
      Wp (some w.heap.size) P N assign (thenQ (fun ds' f1 W1 => Upd Db W W1 ∧ ∀ W2, Upd (fun b => b = w.heap.size) W1 W2 → (∃ r, W2.heap[w.heap.size]? = some (.loop r)) →
        Wp (some w.heap.size) P N body (roundQ Db W2 (I (k + 1)) (Ix k)) ds' f1 W2) fun _ _ _ _ => False) [] (putAll f ps x) W)
    (hdone : ∀ W, I n W → Q .normal ds f W)
    (hexit : ∀ k e W, k < n → Ix k e W → (e = .ret ∨ ∃ id, e = .exit id) → Q e ds f W) :
    Wp (some l0) P N (.rangeFunc g ps.toArray assign body) Q ds f w := by
  intro a ha
  obtain ⟨r0, hr0⟩ := hl0
  refine wpIn_rangeFunc ?_
  intro fn _
  obtain ⟨rec, hrec⟩ : ∃ rec : LoopState → Option Code → Loop, rec = fun st pe => { state := st, pending := pe, fn, tmps := a.tmps, params := ps.toArray, assign, body, defers := r0.defers } := ⟨_, rfl⟩
  obtain ⟨W1, hW1⟩ : ∃ W1, w.alloc (.loop (rec .ready none)) = W1 := ⟨_, rfl⟩
  have hL1 : W1.heap[w.heap.size]? = some (.loop (rec .ready none)) := by rw [← hW1]; exact World.alloc_heap_new w _
  have hS1 : W1.heap.size = w.heap.size + 1 := by rw [← hW1]; simp
  have hE1 : Ext w W1 := by rw [← hW1]; exact ext_alloc w _
  have hev : a.eval g = .func (.func gf) #[] lb.toArray := by rw [ha.eval]; exact hx
  refine ⟨w.heap.size, [], W1, { target := .fn (.func gf) lb.toArray, args := #[.func (.yield w.heap.size) #[] #[]] }, W1, gf,
    (.func (.yield w.heap.size) #[] #[] :: lb).toArray, W1, ?_, run_rangeCall' _ hev, fun _ _ => trivial, ?_, fun hd => (by cases hd), ?_⟩
  · show (Instr.enterLoop fn a.tmps ps.toArray assign body (some l0)).run P w = _
    unfold Instr.enterLoop
    simp only [Sem.run_bind, run_getLoop hr0, run_newObj_alloc, Result.andThen, Sem.run_pure]
    rw [← hW1, hrec]
  · simp only [invoke, List.append_toArray, List.cons_append, List.nil_append]
    exact eg _ _
  · have hag : Ag N ([] : List Deferred) f { tmps := a.tmps, defers := [] } := ⟨ha.size, ha.get, rfl⟩
    have hR := rounds_ofG (P := P) hrec hag hit hpn hps Db (fun b hb => ⟨(hDb b hb).1, (hDb b hb).2⟩) (hDn _ (by omega)) (fun h => by have := hDi _ h; omega)
      (fun W => w.heap.size + 1 ≤ W.heap.size) (fun W W' hX hu => Nat.le_trans hX hu.size) I Ix hI hIx
      (fun k x W0 W hk hi hu hX0 hX hr => hbody k x W0 W hk hi hu hX0 hX hr) (hw0.comp hE1 (fun _ _ h => h) (fun _ _ h => h.elim)) (h0 W1 hE1 hS1) (by omega) hL1
    have hC : CallsIn Fence.wide 0 P gf (.func (.yield w.heap.size) #[] #[] :: lb).toArray W1 _ := callsIn_wide.2 hR
    refine CallsIn.mono (show CallsIn (FR (some l0)) (0 - 1) P gf _ W1 _ from hC) ?_
    rintro e W' ⟨v, rfl, jump, W2, hend, _, h⟩
    have hag2 : Ag N ds f { a with defers := [] ++ a.defers } := ⟨ha.size, ha.get, by simp [ha.ds]⟩
    refine ⟨jump, W2, hend, ?_⟩
    rcases h with ⟨rfl, hi⟩ | ⟨k, e, c, hk, rfl, hc, hi⟩
    · exact ⟨_, f, hag2, hdone W2 hi⟩
    · rcases hc with ⟨rfl, rfl⟩ | ⟨id, rfl, rfl⟩
      · exact wpIn_ret ⟨_, f, hag2, hexit k .ret W2 hk hi (.inl rfl)⟩
      · exact wpIn_exit ⟨_, f, hag2, hexit k (.exit id) W2 hk hi (.inr ⟨id, rfl⟩)⟩
end range2
end Go.SL
