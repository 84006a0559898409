/-
  Maps whose keys are of an integer kind, told by a function from keys to values: made, stored into, looked up, ranged over. Of no program.
-/
import Derived.Test.YthncpmablodbjaaDoorBaseT
import Derived.Maps.RangeRun
namespace Go.SL
open Go Go.MapKept
/-- block b is a map that has the value F k at the key k, and no other entry -/
def MapAt (q : IntKind) (w : World) (b : Nat) (F : Int → Option Value) : Prop :=
  ∃ es clock, w.heap[b]? = some (.map es clock) ∧ Stamped es clock ∧ (∀ x ∈ es.toList, IsKey (.int q) x.key) ∧ ∀ k v, F k = some v ↔ ∃ e ∈ es.toList, e.key = .int q k ∧ e.val = v
def putF (F : Int → Option Value) (k : Int) (v : Value) : Int → Option Value := fun j => if j = k then some v else F j
section maps
variable {ρ : Option Nat} {P : Program} {ty : TypeId} {f : Fr} {w w' : World} {K : Value → World → Prop} {q : IntKind} {b : Nat} {F : Int → Option Value} {D : Nat → Prop}
theorem MapAt.lt (h : MapAt q w b F) : b < w.heap.size := by
  obtain ⟨es, c, h1, _⟩ := h
  exact (Array.getElem?_eq_some_iff.1 h1).1
theorem MapAt.upd (h : MapAt q w b F) (hu : Upd D w w') (hd : ¬ D b) : MapAt q w' b F := by
  have hlt := h.lt
  obtain ⟨es, c, h1, h2⟩ := h
  exact ⟨es, c, (hu.blk b hlt hd).trans h1, h2⟩
theorem MapAt.ext (h : MapAt q w b F) (hu : Ext w w') : MapAt q w' b F := h.upd hu fun hx => hx
theorem MapAt.eq {G : Int → Option Value} (h : MapAt q w b F) (hg : ∀ k, F k = G k) : MapAt q w b G := by
  obtain ⟨es, c, h1, h2, h3, h4⟩ := h
  exact ⟨es, c, h1, h2, h3, fun k v => by rw [← hg]; exact h4 k v⟩
theorem MapAt.uniq {q : IntKind} {w : World} {b : Nat} {F G : Int → Option Value} (h : MapAt q w b F) (h2 : MapAt q w b G) : ∀ k, F k = G k := by
  obtain ⟨es, c, h1, _, _, hF⟩ := h
  obtain ⟨es', c', h1', _, _, hG⟩ := h2
  rw [h1] at h1'
  simp only [Option.some.injEq, Obj.map.injEq] at h1'
  obtain ⟨rfl, rfl⟩ := h1'
  intro k
  cases hf : F k with
  | some v => exact ((hG k v).2 ((hF k v).1 hf)).symm
  | none =>
    cases hg : G k with
    | none => rfl
    | some v => rw [(hF k v).2 ((hG k v).1 hg)] at hf; cases hf
theorem MapAt.of_heap {q : IntKind} {w w' : World} {b : Nat} {F : Int → Option Value} (h : MapAt q w b F) (he : w'.heap[b]? = w.heap[b]?) : MapAt q w' b F := by
  obtain ⟨es, c, h1, h2⟩ := h
  exact ⟨es, c, he.trans h1, h2⟩
theorem MapAt.not_blk {q : IntKind} {w : World} {b : Nat} {F : Int → Option Value} {c : Array Value} {t : TypeId} (h : MapAt q w b F) (hb : Blk w b c t) : False := by
  obtain ⟨es, c, h1, _⟩ := h
  unfold Blk at hb
  rw [h1] at hb
  cases hb
/-- 'map[K]V{}' -/
theorem X_makeMap {t : TypeId} (h : ∀ b w', b = w.heap.size → w'.heap.size = w.heap.size + 1 → Ext w w' → MapAt q w' b (fun _ => none) → K (.map (some b)) w') : Exec ρ P (.makeMap t none) ty f w K :=
  X_sv (Instr.makeMap t none) (fun _ => by simp) (fun o ho _ => by unfold execOp; rw [ho]; try rfl) (w' := w.alloc (.map #[] 0)) (v := .map (some w.heap.size)) (by simp [Instr.makeMap, Result.andThen])
    (h _ _ rfl (by simp) (ext_alloc w _) ⟨#[], 0, (MapKept.heap_alloc w _).1, stamped_empty 0, by simp, by simp⟩)
theorem upd_set {r : Nat} {o : Obj} : Upd (fun i => i = r) w { w with heap := w.heap.setIfInBounds r o } := ⟨rfl, rfl, rfl, by simp, fun b _ hd => by
  have hd' : ¬ r = b := fun h => hd h.symm
  simp [hd']⟩
theorem run_store {m kt et : TypeId} {k : Int} {v : Value} (hm : P.underlying m = some (.map kt et)) (hk : P.underlying kt = some (.int q)) (h : MapAt q w b F) :
    ∃ w', (Instr.mapUpdate m (.map (some b)) (.int q k) v).run P w = .ok () w' ∧ MapAt q w' b (putF F k v) ∧ Upd (fun i => i = b) w w' := by
  obtain ⟨es, c, hb, hs, hks, hF⟩ := h
  have hkk : IsKey (.int q) (.int q k) := rfl
  rcases findNow_spec hkk es.toList 0 hks with ⟨h1, h2⟩ | ⟨j, e, h1, h2, h3⟩
  · refine ⟨{ w with heap := w.heap.setIfInBounds b (.map (es.push { key := .int q k, val := v, born := c }) (c + 1)) }, ?_, ⟨_, _, (MapKept.heap_set hb).1, stamped_push hs h2, ?_, ?_⟩, upd_set⟩
    · simp [Instr.mapUpdate, run_underlying hm, MapKept.run_getObj_map hb, MapKept.run_checkKey hk hkk, MapKept.run_findKey hk h1, MapKept.run_setObj_map _ hb, Result.andThen]
    · intro x hx
      simp only [Array.toList_push, List.mem_append, List.mem_singleton] at hx
      rcases hx with hx | rfl
      · exact hks x hx
      · exact hkk
    · intro j u
      simp only [Array.toList_push, List.mem_append, List.mem_singleton]
      unfold putF
      by_cases hj : j = k
      · subst hj
        rw [if_pos rfl]
        constructor
        · intro hv; cases hv; exact ⟨_, .inr rfl, rfl, rfl⟩
        · rintro ⟨e, he | rfl, h3, h4⟩
          · exact absurd h3 (h2 e he)
          · rw [← h4]
      · rw [if_neg hj, hF]
        constructor
        · rintro ⟨e, he, h3, h4⟩; exact ⟨e, .inl he, h3, h4⟩
        · rintro ⟨e, he | rfl, h3, h4⟩
          · exact ⟨e, he, h3, h4⟩
          · simp at h3; exact absurd h3.symm hj
  · have hj : es[j]? = some e := by simpa using h2
    have hkey : ∀ e', es[j]? = some e' → ({ e' with key := .int q k, val := v } : MapEntry).key = e'.key := fun e' he' => by rw [hj] at he'; cases he'; exact h3.symm
    refine ⟨{ w with heap := w.heap.setIfInBounds b (.map (es.modify j fun e => { e with key := .int q k, val := v }) c) }, ?_, ⟨_, _, (MapKept.heap_set hb).1, stamped_modify hs _ _ (fun _ _ => rfl) (fun e' _ he' => hkey e' he'), isKey_modify hks _ _ hkey, ?_⟩, upd_set⟩
    · simp [Instr.mapUpdate, run_underlying hm, MapKept.run_getObj_map hb, MapKept.run_checkKey hk hkk, MapKept.run_findKey hk h1, hj, h3, MapKept.run_keyThatStays hkk, MapKept.run_setObj_map _ hb, Result.andThen]
    · have hget : ∀ i : Nat, (es.modify j fun e => ({ e with key := .int q k, val := v } : MapEntry)).toList[i]? = if j = i then (es.toList[i]?).map (fun e => ({ e with key := .int q k, val := v } : MapEntry)) else es.toList[i]? := fun i => by
        rw [Array.getElem?_toList, Array.getElem?_modify]
        simp
      have huniq : ∀ i e', es.toList[i]? = some e' → e'.key = .int q k → i = j := by
        intro i e' hi he'
        have hn := hs.2.2
        have h5 : (es.toList.map (·.key))[i]? = some (.int q k) := by rw [List.getElem?_map, hi]; simp [he']
        have h6 : (es.toList.map (·.key))[j]? = some (.int q k) := by rw [List.getElem?_map, h2]; simp [h3]
        have hil := (List.getElem?_eq_some_iff.1 h5).1
        exact (List.getElem?_inj hil hn).1 (h5.trans h6.symm)
      intro i u
      unfold putF
      by_cases hi : i = k
      · subst hi
        rw [if_pos rfl]
        constructor
        · intro hv
          cases hv
          refine ⟨{ e with key := .int q i, val := v }, ?_, rfl, rfl⟩
          exact List.mem_of_getElem? (i := j) (by rw [hget, if_pos rfl, h2]; rfl)
        · rintro ⟨e', he', h5, h6⟩
          obtain ⟨n, hn⟩ := List.mem_iff_getElem?.1 he'
          rw [hget] at hn
          split at hn
          · rename_i hjn
            subst hjn
            rw [h2] at hn
            simp at hn
            subst hn
            rw [← h6]
          · rename_i hjn
            exact absurd (huniq n e' hn h5).symm hjn
      · rw [if_neg hi, hF]
        constructor
        · rintro ⟨e', he', h5, h6⟩
          obtain ⟨n, hn⟩ := List.mem_iff_getElem?.1 he'
          have hjn : ¬ j = n := by
            rintro rfl
            rw [h2] at hn
            cases hn
            rw [h3] at h5
            simp at h5
            exact hi h5.symm
          exact ⟨e', List.mem_of_getElem? (i := n) (by rw [hget, if_neg hjn]; exact hn), h5, h6⟩
        · rintro ⟨e', he', h5, h6⟩
          obtain ⟨n, hn⟩ := List.mem_iff_getElem?.1 he'
          rw [hget] at hn
          split at hn
          · rename_i hjn
            subst hjn
            rw [h2] at hn
            simp at hn
            subst hn
            simp at h5
            exact absurd h5.symm hi
          · exact ⟨e', List.mem_of_getElem? hn, h5, h6⟩
/-- 'm[k] = v' -/
theorem X_mapUpdate {m kt et : TypeId} {xm xk xv : Operand} {k : Int} {v : Value} (hm : P.underlying m = some (.map kt et)) (hk : P.underlying kt = some (.int q)) (h1 : ev f xm = .map (some b)) (h2 : ev f xk = .int q k) (h3 : ev f xv = v) (hM : MapAt q w b F)
    (h : ∀ w', MapAt q w' b (putF F k v) → Upd (fun i => i = b) w w' → K undef w') : Exec ρ P (.mapUpdate m xm xk xv) ty f w K := by
  obtain ⟨w', hr, h4, h5⟩ := run_store (k := k) (v := v) hm hk hM
  exact X_su (Instr.mapUpdate m (ev f xm) (ev f xk) (ev f xv)) (fun _ => by simp) (fun o ho _ => by unfold execOp; rw [ho]; try rfl) (by rw [h1, h2, h3]; exact hr) (h w' h4 h5)
theorem X_insert {m kt et : TypeId} {xm xk xv : Operand} {k : Int} {v : Value} (hm : P.underlying m = some (.map kt et)) (hk : P.underlying kt = some (.int q)) (h1 : ev f xm = .map (some b)) (h2 : ev f xk = .int q k) (h3 : ev f xv = v) (hM : MapAt q w b F)
    (h : ∀ w', MapAt q w' b (putF F k v) → Upd (fun i => i = b) w w' → K undef w') : Exec ρ P (.insert m xm xk xv) ty f w K := by
  obtain ⟨w', hr, h4, h5⟩ := run_store (k := k) (v := v) hm hk hM
  exact X_su (Instr.mapUpdate m (ev f xm) (ev f xk) (ev f xv)) (fun _ => by simp) (fun o ho _ => by unfold execOp; rw [ho]; try rfl) (by rw [h1, h2, h3]; exact hr) (h w' h4 h5)
/-- 'm[k]', where there is such a key -/
theorem X_lookup {m kt et : TypeId} {xm xk : Operand} {k : Int} {v : Value} (hm : P.underlying m = some (.map kt et)) (hk : P.underlying kt = some (.int q)) (h1 : ev f xm = .map (some b)) (h2 : ev f xk = .int q k) (hM : MapAt q w b F) (hF : F k = some v)
    (h : K v w) : Exec ρ P (.lookup m xm xk false) ty f w K := by
  obtain ⟨es, c, hb, hs, hks, hE⟩ := hM
  have hkk : IsKey (.int q) (.int q k) := rfl
  have hr : (Instr.lookup m (.map (some b)) (.int q k) false).run P w = .ok v w := by
    rcases findNow_spec hkk es.toList 0 hks with ⟨h3, h4⟩ | ⟨j, e, h3, h4, h5⟩
    · obtain ⟨e, he, h6, _⟩ := (hE k v).1 hF
      exact absurd h6 (h4 e he)
    · have h6 := (hE k e.val).2 ⟨e, List.mem_of_getElem? h4, h5, rfl⟩
      rw [hF] at h6
      cases h6
      simp [Instr.lookup, run_underlying hm, MapKept.run_getObj_map hb, MapKept.run_checkKey hk hkk, MapKept.run_findKey hk h3, Result.andThen]
  exact X_sv (Instr.lookup m (ev f xm) (ev f xk) false) (fun _ => by simp) (fun o ho _ => by unfold execOp; rw [ho]; try rfl) (by rw [h1, h2]; exact hr) h
/-- a range over a map: which entries have come -/
def IterAt (q : IntKind) (w : World) (r b : Nat) (F : Int → Option Value) (S : List Int) (last : Option Int) (cnt : Nat) : Prop :=
  ∃ es clock seen, w.heap[b]? = some (.map es clock) ∧ Stamped es clock ∧ (∀ x ∈ es.toList, IsKey (.int q) x.key) ∧ (∀ k v, F k = some v ↔ ∃ e ∈ es.toList, e.key = .int q k ∧ e.val = v) ∧
    w.heap[r]? = some (.mapIter (some b) clock seen clock) ∧ (∀ k e, e ∈ es.toList → e.key = .int q k → (k ∈ S ↔ e.born ∈ seen.toList)) ∧ (leftOf es seen).size = cnt ∧
    (∀ k, last = some k → ∃ (e : MapEntry) (s' : Array Nat), e ∈ es.toList ∧ e.key = .int q k ∧ seen = s'.push e.born)
theorem IterAt.lt {r : Nat} {S : List Int} {last : Option Int} {cnt : Nat} (h : IterAt q w r b F S last cnt) : b < w.heap.size ∧ r < w.heap.size ∧ b ≠ r := by
  obtain ⟨es, c, seen, h1, _, _, _, h2, _⟩ := h
  exact ⟨(Array.getElem?_eq_some_iff.1 h1).1, (Array.getElem?_eq_some_iff.1 h2).1, fun e => by subst e; rw [h1] at h2; cases h2⟩
theorem IterAt.upd {r : Nat} {S : List Int} {last : Option Int} {cnt : Nat} (h : IterAt q w r b F S last cnt) (hu : Upd D w w') (hd : ¬ D b) (hd2 : ¬ D r) : IterAt q w' r b F S last cnt := by
  obtain ⟨hl1, hl2, _⟩ := h.lt
  obtain ⟨es, c, seen, h1, h3, h4, h5, h2, h6⟩ := h
  exact ⟨es, c, seen, (hu.blk b hl1 hd).trans h1, h3, h4, h5, (hu.blk r hl2 hd2).trans h2, h6⟩
theorem IterAt.map {r : Nat} {S : List Int} {last : Option Int} {cnt : Nat} (h : IterAt q w r b F S last cnt) : MapAt q w b F := by
  obtain ⟨es, c, seen, h1, h3, h4, h5, _⟩ := h
  exact ⟨es, c, h1, h3, h4, h5⟩
theorem X_range {m kt et : TypeId} {x : Operand} (hm : P.underlying m = some (.map kt et)) (hx : ev f x = .map (some b)) (hM : MapAt q w b F)
    (h : ∀ r w' n, r = w.heap.size → w'.heap.size = w.heap.size + 1 → Ext w w' → IterAt q w' r b F [] none n → K (ptr r 0) w') : Exec ρ P (.range m x) ty f w K := by
  have hlt := hM.lt
  obtain ⟨es, c, hb, hs, hks, hE⟩ := hM
  exact X_sv (Instr.range m (ev f x)) (fun _ => by simp) (fun o ho _ => by unfold execOp; rw [ho]; try rfl) (by rw [hx]; exact run_range_map w m kt et b es c hm hb)
    (h _ _ (leftOf es #[]).size rfl (by simp) (ext_alloc w _) ⟨es, c, #[], by rw [heap_alloc_old w _ hlt]; exact hb, hs, hks, hE, heap_alloc_new w _, fun k e _ _ => by simp, rfl, fun k hk => by cases hk⟩)
theorem left_push {es : Array MapEntry} {seen : Array Nat} {e : MapEntry} (h : e ∈ (leftOf es seen).toList) : (leftOf es (seen.push e.born)).size < (leftOf es seen).size := by
  have h1 : (leftOf es (seen.push e.born)) = (leftOf es seen).filter (fun x => !(x.born == e.born)) := by
    unfold leftOf
    rw [Array.filter_filter]
    congr 1
    funext x
    rw [Array.contains_push]
    cases seen.contains x.born <;> cases (x.born == e.born) <;> simp_all
  rw [h1]
  have h2 : ((leftOf es seen).filter (fun x => !(x.born == e.born))).size = ((leftOf es seen).toList.filter (fun x => !(x.born == e.born))).length := by rw [← Array.toList_filter, Array.length_toList]
  rw [h2, ← Array.length_toList (xs := leftOf es seen)]
  exact List.length_filter_lt_length_iff_exists.2 ⟨e, h, by simp⟩
theorem X_next {x : Operand} {r cnt : Nat} {S : List Int} {last : Option Int} (hx : ev f x = ptr r 0) (hI : IterAt q w r b F S last cnt)
    (h0 : (∀ k v, F k = some v → k ∈ S) → K (.tuple #[.bool false]) w)
    (h1 : ∀ k v w' n, F k = some v → k ∉ S → n < cnt → IterAt q w' r b F (k :: S) (some k) n → Upd (fun i => i = r) w w' → K (.tuple #[.bool true, .int q k, v]) w') : Exec ρ P (.next x false) ty f w K := by
  obtain ⟨hl1, hl2, hbr⟩ := hI.lt
  obtain ⟨es, c, seen, hb, hs, hks, hE, hr, hS, hc, hlast⟩ := hI
  have hcl := hs.1
  rcases run_next_at (P := P) w ty r b c c seen es c hr hb (fun y hy => hcl y hy) (Nat.le_refl _) with ⟨h2, h3⟩ | ⟨e, he, w1, hw1, h3⟩
  · refine X_sv (Instr.next (ev f x) false ty) (fun _ => by simp) (fun o ho ht => by unfold execOp; rw [ho]; subst ht; try rfl) (by rw [hx]; exact h3) (h0 fun k v hk => ?_)
    obtain ⟨e, he, h4, h5⟩ := (hE k v).1 hk
    refine (hS k e he h4).2 ?_
    have h6 : leftOf es seen = #[] := Array.eq_empty_of_size_eq_zero h2
    unfold leftOf at h6
    rw [Array.filter_eq_empty_iff] at h6
    have := h6 e (by simpa using he)
    simpa using this
  · have he2 : e ∈ es.toList := by unfold leftOf at he; simp at he; simpa using he.1
    have hns : e.born ∉ seen.toList := by unfold leftOf at he; simp at he; simpa using he.2
    obtain ⟨k, hk⟩ : ∃ k, e.key = .int q k := by
      have h4 := hks e he2
      cases hek : e.key with
      | int q' k => rw [hek] at h4; exact ⟨k, by rw [show q' = q from h4]⟩
      | _ => rw [hek] at h4; exact h4.elim
    have hr1 : w1.heap[r]? = some (.mapIter (some b) c seen c) := by rcases hw1 with rfl | rfl <;> exact hr
    have hb1 : w1.heap[b]? = some (.map es c) := by rcases hw1 with rfl | rfl <;> exact hb
    have hu1 : Upd (fun i => i = r) w w1 := by
      rcases hw1 with rfl | rfl
      · exact Upd.refl _ _
      · exact Upd.drew _ w
    have hu2 : Upd (fun i => i = r) w1 (ChangeMaps.setBlock w1 r (.mapIter (some b) c (seen.push e.born) c)) := upd_set
    refine X_sv (Instr.next (ev f x) false ty) (fun _ => by simp) (fun o ho ht => by unfold execOp; rw [ho]; subst ht; try rfl) (by rw [hx]; exact h3) ?_
    rw [hk]
    refine h1 k e.val _ (leftOf es (seen.push e.born)).size ((hE k e.val).2 ⟨e, he2, hk, rfl⟩) (fun h => hns ((hS k e he2 hk).1 h)) (by rw [← hc]; exact left_push he) ⟨es, c, seen.push e.born, ?_, hs, hks, hE, ?_, ?_, rfl, ?_⟩ (hu1.trans hu2)
    · rw [hu2.blk b (by rw [show w1.heap.size = w.heap.size by rcases hw1 with rfl | rfl <;> rfl]; exact hl1) hbr]; exact hb1
    · exact (MapKept.heap_set hr1).1
    · intro k' e' he' hk'
      simp only [List.mem_cons, Array.toList_push, List.mem_append, List.not_mem_nil, or_false]
      constructor
      · rintro (rfl | h4)
        · right
          have h5 := hs.2.2
          obtain ⟨n1, hn1⟩ := List.mem_iff_getElem?.1 he'
          obtain ⟨n2, hn2⟩ := List.mem_iff_getElem?.1 he2
          have h6 : (es.toList.map (·.key))[n1]? = (es.toList.map (·.key))[n2]? := by rw [List.getElem?_map, List.getElem?_map, hn1, hn2]; simp [hk, hk']
          have h7 : n1 = n2 := (List.getElem?_inj (by rw [List.length_map]; exact (List.getElem?_eq_some_iff.1 hn1).1) h5).1 h6
          subst h7
          rw [hn1] at hn2
          cases hn2
          rfl
        · exact .inl ((hS k' e' he' hk').1 h4)
      · rintro (h4 | h4)
        · exact .inr ((hS k' e' he' hk').2 h4)
        · left
          have h5 := hs.2.1
          obtain ⟨n1, hn1⟩ := List.mem_iff_getElem?.1 he'
          obtain ⟨n2, hn2⟩ := List.mem_iff_getElem?.1 he2
          have h6 : (es.toList.map (·.born))[n1]? = (es.toList.map (·.born))[n2]? := by rw [List.getElem?_map, List.getElem?_map, hn1, hn2]; simp [h4]
          have h7 : n1 = n2 := (List.getElem?_inj (by rw [List.length_map]; exact (List.getElem?_eq_some_iff.1 hn1).1) h5).1 h6
          subst h7
          rw [hn1] at hn2
          cases hn2
          rw [hk] at hk'
          simp at hk'
          exact hk'.symm
    · rintro k' hk'
      cases hk'
      exact ⟨e, seen, he2, hk, rfl⟩
theorem X_entry {x : Operand} {r cnt : Nat} {S : List Int} {k : Int} {v : Value} (hx : ev f x = ptr r 0) (hI : IterAt q w r b F S (some k) cnt) (hF : F k = some v) (h : K (.tuple #[.int q k, v]) w) : Exec ρ P (.entry x) ty f w K := by
  obtain ⟨es, c, seen, hb, hs, hks, hE, hr, hS, hc, hlast⟩ := hI
  obtain ⟨e, s', he, hk, rfl⟩ := hlast k rfl
  have hv : e.val = v := by
    have := (hE k e.val).2 ⟨e, he, hk, rfl⟩
    rw [hF] at this
    cases this; rfl
  have hr2 := run_entry_at (P := P) w r b c s' es c e hr hb he hs.2.1
  rw [hk, hv] at hr2
  exact X_sv (Instr.entry (ev f x)) (fun _ => by simp) (fun o ho _ => by unfold execOp; rw [ho]; try rfl) (by rw [hx]; exact hr2) h
end maps
end Go.SL
