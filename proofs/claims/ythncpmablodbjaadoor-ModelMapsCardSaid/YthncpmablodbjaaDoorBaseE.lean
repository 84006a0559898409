import Derived.Test.YthncpmablodbjaaDoorBaseD
import Derived.Laws.IdiomCopy
import Derived.ChangeKeysEq
import Derived.Laws.StructEq
namespace Go.SL
open Go

section ops3
variable {ρ : Option Nat} {P : Program} {ty : TypeId} {f : Fr} {w : World} {K : Value → World → Prop}

/-- copy into a block of which all is known -/
theorem X_copy {t t2 e bytes n m c b o : Nat} {z x : Value} {te : TypeId} {cs : Array Value} {ys : List Value} {a1 a2 : Operand} (hS : TyS P t e 1 bytes z) (hx : ev f a1 = .slice (some ⟨b, o, none⟩) n c) (hy : ev f a2 = x) (hB : Blk w b cs te) (ho : o + n ≤ cs.size)
    (hR : Rd w 1 x m ys) (h1 : ∀ u ∈ ys, u.oneCell' = true)
    (h : ∀ w', Upd (fun i => i = b) w w' → Blk w' b (cs.toList.take o ++ ys.take (min m n) ++ cs.toList.drop (o + min m n)).toArray te → K (.int .i64 (min m n : Nat)) w') :
    Exec ρ P (.call { callee := .builtin .copy, args := #[a1, a2], argTypes := #[t, t2] }) ty f w K := by
  obtain ⟨hl, a, c', rfl, h2, h3, h4⟩ := hR
  obtain ⟨ie, he, hz, _⟩ := hS.info
  have hs : (P.info? e).map (·.size) = some 1 := by rw [he]; simp [hz]
  simp only [Nat.mul_one] at hl
  rcases Nat.eq_zero_or_pos (min m n) with h0 | h0
  · have hr := run_copy_none (P := P) w t t2 ty e (some ⟨b, o, none⟩) a n c m c' hS.und hs h0
    have hB' := h w (Upd.refl _ w) (by
      rw [h0]
      have : cs.toList.take o ++ ys.take 0 ++ cs.toList.drop (o + 0) = cs.toList := by simp
      rw [this]
      exact hB)
    refine X_val (fun _ => by simp) _ (fun o' ho' ht => ?_) hB'
    unfold execOp
    rw [ho']
    simp [resolve, invoke, builtin, hx, hy, ht, hr, goInt, h0]
  · obtain ⟨b', o', rfl, h5⟩ := h4 (by omega)
    have hk : (ys.take (min m n)).length = Nat.min m n := by rw [List.length_take, hl]; exact Nat.min_eq_left (Nat.min_le_left _ _)
    have hk' : (ys.take (min m n)).length = min m n := hk
    have hr := run_copy_row (P := P) w t t2 ty e b o n c ⟨b', o', none⟩ m c' cs te (ys.take (min m n)) hS.und hs hB hk (fun j v hj => by
      rw [addr_add]
      refine h5 j v ?_
      rw [List.getElem?_take] at hj
      split at hj
      · exact hj
      · cases hj) (by rw [hk']; have := Nat.min_le_right m n; omega) (fun v hv => h1 v (List.mem_of_mem_take hv))
    rw [hk'] at hr
    refine X_val (fun _ => by simp) _ (fun o'' ho' ht => ?_) (h _ (setRow_upd w b _) (setRow_heap w b cs _ te (0, 0) hB))
    unfold execOp
    rw [ho']
    simp [resolve, invoke, builtin, hx, hy, ht, hr, goInt]

theorem run_eqItems_bytes {e : TypeId} (he : P.underlying e = some (.int .u8)) (d : Nat) (l m : List UInt8) : ∀ is : List Nat, (∀ i ∈ is, i < l.length ∧ i < m.length) →
    (Op.eqItems (d + 1) e 1 (l.map byteV).toArray (m.map byteV).toArray is).run P w = .ok (is.all fun i => l[i]? == m[i]?) w
  | [], _ => by simp [Op.eqItems]
  | i :: is, h => by
    obtain ⟨h1, h2⟩ := h i (by simp)
    have ha : (isAgg e).run P w = .ok false w := run_isAgg_of ⟨_, he, rfl⟩ w
    have e1 : (part e (l.map byteV).toArray (i * 1)).run P w = .ok (byteV l[i]) w := by simp [part, ha, h1]
    have e2 : (part e (m.map byteV).toArray (i * 1)).run P w = .ok (byteV m[i]) w := by simp [part, ha, h2]
    have e3 : (Op.equalIn (d + 1) e (byteV l[i]) (byteV m[i])).run P w = .ok ((l[i].toNat : Int) == (m[i].toNat : Int)) w := run_equalIn_int w d e .u8 .u8 _ _ he
    have ih := run_eqItems_bytes he d l m is fun j hj => h j (by simp [hj])
    have hb : (((l[i].toNat : Int) == (m[i].toNat : Int))) = (l[i]? == m[i]?) := by
      rw [Bool.eq_iff_iff, List.getElem?_eq_getElem h1, List.getElem?_eq_getElem h2]
      simp only [beq_iff_eq, Option.some.injEq, Int.ofNat_inj]
      exact UInt8.toNat_inj
    simp only [Op.eqItems, Sem.run_bind, e1, e2, e3, Result.andThen_ok, List.all_cons, hb]
    cases (l[i]? == m[i]?)
    · simp
    · simpa using ih
/-- '==', '!=' of arrays of bytes -/
theorem X_eqA {op : BinOp} {t t2 e n : Nat} {x y : Operand} {l m : List UInt8} {r : Bool} (ht : P.underlying t = some (.array n e)) (he : P.underlying e = some (.int .u8)) (hi : (P.info? e).isSome = true) (hc : P.cellsOf e = 1) (hg : P.eqGuardType P.depth t = false)
    (hx : ev f x = .agg (l.map byteV).toArray) (hy : ev f y = .agg (m.map byteV).toArray) (hl : l.length = n) (hm : m.length = n) (hr : op = .eql ∧ (l == m) = r ∨ op = .neq ∧ (!(l == m)) = r) (h : K (.bool r) w) :
    Exec ρ P (.binOp op t x y t2) ty f w K := by
  obtain ⟨i, hi⟩ := Option.isSome_iff_exists.1 hi
  have hA := run_equalIn_array (P := P) (w := w) 9999 (l.map byteV).toArray (m.map byteV).toArray ht hi
  rw [hc, run_eqItems_bytes he 9998 l m _ (fun j hj => by rw [List.mem_range] at hj; omega)] at hA
  have hall : ((List.range n).all fun i => l[i]? == m[i]?) = (l == m) := by
    rw [Bool.eq_iff_iff, List.all_eq_true, beq_iff_eq]
    constructor
    · intro hh
      apply List.ext_getElem?
      intro j
      rcases Nat.lt_or_ge j n with h1 | h1
      · simpa using hh j (List.mem_range.2 h1)
      · rw [List.getElem?_eq_none (by omega), List.getElem?_eq_none (by omega)]
    · rintro rfl j _; simp
  rw [hall] at hA
  refine X_sv (do eqGuard op t x y (ev f x) (ev f y); binOp op t (ev f x) (ev f y)) (fun _ => by simp) (fun o ho _ => by unfold execOp; rw [ho]) (v := .bool r) (w' := w) ?_ h
  rw [hx, hy]
  rcases hr with ⟨rfl, rfl⟩ | ⟨rfl, rfl⟩
  · simp only [Sem.run_bind, run_eqGuard_agg w _ t x y _ _ hg, Result.andThen_ok, run_eql_struct, hA]
  · simp only [Sem.run_bind, run_eqGuard_agg w _ t x y _ _ hg, Result.andThen_ok, run_neq_struct, hA]
/-- a store over a whole block -/
theorem X_storeW {t n : Nat} {x y : Operand} {b : Nat} {c : Array Value} {te : TypeId} {ys : List Value} (h1 : TyA P t n) (hx : ev f x = ptr b 0) (hy : ev f y = .agg ys.toArray) (hv : ∀ u ∈ ys, u.oneCell' = true) (hn : ys.length = n) (hB : Blk w b c te) (hc : c.size = n)
    (h : ∀ w', Upd (fun i => i = b) w w' → Blk w' b ys.toArray te → K undef w') : Exec ρ P (.store t x y) ty f w K :=
  X_storeA h1 hx hy hv hn hB (by omega) fun w' hu hb => h w' hu (by
    have e : c.toList.take 0 ++ ys ++ c.toList.drop (0 + ys.length) = ys := by
      rw [List.take_zero, List.nil_append, List.drop_eq_nil_of_le (by rw [Array.length_toList]; omega), List.append_nil]
    rw [e] at hb
    exact hb)
theorem RV_1 {a b : Nat} {t : TypeId} {v : Value} (h1 : Ty1 P t) (hf : f.get a = ptr b 0) (hc : At w (ptr b 0) [v]) : RV P f w (.cell a t) v := by
  obtain ⟨b', o', e, hcell⟩ := hc.cell0
  cases e
  exact ⟨_, hf, by simp [loadVar, run_isAgg_of h1.agg, hcell]⟩
theorem RV_A {a b n : Nat} {t : TypeId} {xs : List Value} (h1 : TyA P t n) (hf : f.get a = ptr b 0) (hc : At w (ptr b 0) xs) (hn : xs.length = n) : RV P f w (.cell a t) (.agg xs.toArray) := by
  obtain ⟨b', o', e, hc⟩ := hc
  cases e
  have hl := run_loadCells_list (P := P) w ⟨b, 0, none⟩ xs fun j u hj => by rw [addr_add]; exact hc j u hj
  rw [hn] at hl
  exact ⟨_, hf, by simp [loadVar, run_isAgg_of h1.agg, run_sizeOf_of h1.size, hl]⟩
/-- a readable slice into a block of which all is known -/
theorem Blk.rd {b t n c o : Nat} {cs : Array Value} {xs : List Value} (h : Blk w b cs t) {sz : Nat} (hn : n ≤ c) (hc : c ≤ maxLen) (hl : xs.length = n * sz) (hx : ∀ j u, xs[j]? = some u → cs[o + j]? = some u) : Rd w sz (.slice (some ⟨b, o, none⟩) n c) n xs :=
  ⟨hl, _, c, rfl, hn, hc, fun _ => ⟨b, o, rfl, fun j u hj => h.cell (hx j u hj)⟩⟩
theorem SV.len {v : Value} {n : Nat} (h : SV v n) : n ≤ 9223372036854775807 := by
  obtain ⟨a, c, _, h1, h2, _⟩ := h
  unfold maxLen at h2
  omega
theorem Rd.len {sz n : Nat} {v : Value} {xs : List Value} (h : Rd w sz v n xs) : n ≤ 9223372036854775807 := h.sv.len
theorem Own.len {B e sz n : Nat} {v : Value} {xs : List Value} (h : Own w B e sz v n xs) : n ≤ 9223372036854775807 := h.sv.len
/-- 'p[:h]' of an array in a block -/
theorem X_sliceA0 {t e sz len b : Nat} {x : Operand} {hi : Option Operand} {h' : Nat} {kh : IntKind} (ht : P.underlying t = some (.array len e)) (he : (P.info? e).map (·.size) = some sz) (hx : ev f x = ptr b 0)
    (_ : True) (hhi : match hi with | none => h' = len | some o => ev f o = .int kh h') (h2 : h' ≤ len) (h : K (.slice (some ⟨b, 0, none⟩) h' len) w) :
    Exec ρ P (.slice t x none hi none) ty f w K :=
  X_sliceA (lo := none) (l := 0) (h' := h') (kl := .i64) (kh := kh) ht he hx rfl hhi (Nat.zero_le _) h2 (by rw [cutv_zero']; exact h)
/-- 'p[l:h]' of an array in a block, as a part of the whole -/
theorem X_sliceAL {t e sz len b : Nat} {x : Operand} {lo hi : Option Operand} {l h' : Nat} {kl kh : IntKind} (ht : P.underlying t = some (.array len e)) (he : (P.info? e).map (·.size) = some sz) (hx : ev f x = ptr b 0)
    (hlo : match lo with | none => l = 0 | some o => ev f o = .int kl l) (hhi : match hi with | none => h' = len | some o => ev f o = .int kh h') (h1 : l ≤ h') (h2 : h' ≤ len) (h : K (cutv (.slice (some ⟨b, 0, none⟩) len len) sz l h') w) :
    Exec ρ P (.slice t x lo hi none) ty f w K := X_sliceA ht he hx hlo hhi h1 h2 h
theorem Blk.rdB {b t n : Nat} {l : List UInt8} (h : Blk w b (l.map byteV).toArray t) (hl : l.length = n) (hm : n ≤ 9223372036854775807) : Rd w 1 (.slice (some ⟨b, 0, none⟩) n n) l.length (l.map byteV) := by
  subst hl
  exact h.rd (Nat.le_refl _) (by unfold maxLen; omega) (by rw [List.length_map]; omega) fun j u hj => by rw [Nat.zero_add]; simpa using hj
/-- a part of bytes in a block -/
theorem Blk.rdL {b t n : Nat} {l : List UInt8} (h : Blk w b (l.map byteV).toArray t) (hl : l.length = n) (hm : n ≤ 9223372036854775807) {lo hi : Nat} (h1 : lo ≤ hi) (h2 : hi ≤ n) {m : List UInt8} (hm : (l.drop lo).take (hi - lo) = m) :
    Rd w 1 (cutv (.slice (some ⟨b, 0, none⟩) n n) 1 lo hi) m.length (m.map byteV) := by
  subst hm
  refine ((h.rdB hl hm).cut h1 (by omega)).eq ?_ ?_
  · rw [List.length_take, List.length_drop]; omega
  · rw [Nat.mul_one, Nat.mul_one, List.map_take, List.map_drop]
theorem Blk.rdH {b t n : Nat} {l : List UInt8} (h : Blk w b (l.map byteV).toArray t) (hl : l.length = n) (hm : n ≤ 9223372036854775807) {hi : Nat} (h2 : hi ≤ n) {m : List UInt8} (hm' : l.take hi = m) :
    Rd w 1 (.slice (some ⟨b, 0, none⟩) hi n) m.length (m.map byteV) := by
  have := h.rdL hl hm (lo := 0) (hi := hi) (Nat.zero_le _) h2 (m := m) (by simpa using hm')
  rwa [cutv_zero'] at this
theorem Upd.own {w w' : World} {n0 : Nat} (hn : n0 = w.heap.size) (h : Upd (fun i => n0 ≤ i) w w') : Ext w w' := h.mono fun i hi hd => by omega
theorem Rd.parts {sz n : Nat} {v : Value} {xs : List Value} (h : Rd w sz v n xs) : ∃ a c, v = .slice a n c ∧ (a.isNone = true → n = 0) := by
  obtain ⟨_, a, c, rfl, _, _, h3⟩ := h
  refine ⟨a, c, rfl, fun ha => ?_⟩
  rcases Nat.eq_zero_or_pos n with h0 | h0
  · exact h0
  · obtain ⟨b, o, rfl, _⟩ := h3 h0
    cases ha
theorem Own.emp {B e sz n : Nat} {v : Value} {xs : List Value} (h : Own w B e sz v 0 []) (hn : n = 0) (hx : xs = []) : Own w B e sz v n xs := by subst hn; subst hx; exact h
theorem Upd.nobk {w w' : World} {a : Option Addr} (h : Upd (fun b => obk (.slice a 0 0) = some b) w w') : Ext w w' := h.mono fun _ _ hx => by cases a <;> cases hx
theorem Rd.cutB {v : Value} {l : List UInt8} (h : Rd w 1 v l.length (l.map byteV)) {lo hi : Nat} (h1 : lo ≤ hi) (h2 : hi ≤ l.length) {m : List UInt8} (hm : (l.drop lo).take (hi - lo) = m) : Rd w 1 (cutv v 1 lo hi) m.length (m.map byteV) := by
  subst hm
  refine (h.cut h1 h2).eq ?_ ?_
  · rw [List.length_take, List.length_drop]; omega
  · rw [Nat.mul_one, Nat.mul_one, List.map_take, List.map_drop]
theorem Rd.cellB {v : Value} {l : List UInt8} (h : Rd w 1 v l.length (l.map byteV)) {i : Nat} {x : UInt8} (hx : l[i]? = some x) : At w (pof v i) [byteV x] := h.cell (by rw [List.getElem?_map, hx]; rfl)
/-- a part's block is the whole's -/
theorem Rd.rbk_cut {sz n : Nat} {v : Value} {xs : List Value} (h : Rd w sz v n xs) {k lo hi b : Nat} (h2 : hi ≤ n) (hb : rbk (cutv v k lo hi) = some b) : rbk v = some b := by
  obtain ⟨_, a, c, rfl, h3, _, _⟩ := h
  exact rbk_cutv hb ⟨a, n, c, rfl, h2, h3⟩
end ops3
section lit
variable {ρ : Option Nat} {P : Program} {ty : TypeId} {f : Fr} {w : World} {K : Value → World → Prop}
def zipFrom : Nat → List Value → List (Nat × Value)
  | _, [] => []
  | k, v :: vs => (k, v) :: zipFrom (k + 1) vs
theorem fold_set : ∀ (vs : List Value) (j off : Nat) (cs : Array Value), off + j + vs.length ≤ cs.size →
    ((vs.zipIdx j).foldl (fun (cs : Array Value) (p : Value × Nat) => cs.setIfInBounds (off + p.2) p.1) cs).toList = cs.toList.take (off + j) ++ vs ++ cs.toList.drop (off + j + vs.length)
  | [], j, off, cs, h => by simp
  | v :: vs, j, off, cs, h => by
    simp only [List.length_cons] at h
    rw [List.zipIdx_cons, List.foldl_cons, fold_set vs (j + 1) off _ (by simp; omega)]
    have e := list_seg_step cs.toList (off + j) v vs (by simp; omega)
    simpa [Array.toList_setIfInBounds, Nat.add_assoc] using e
theorem fill_all (sz : Nat) : ∀ (vs : List Value) (k : Nat) (done : List Value) (cs : Array Value), done.length = k * sz → cs.size = (k + vs.length) * sz → cs.toList.take (k * sz) = done → (∀ v ∈ vs, v.cells.size = sz) →
    Instr.fill (fun i => some (i * sz, sz)) cs (zipFrom k vs) = some (done ++ vs.flatMap (·.cells.toList)).toArray
  | [], k, done, cs, h1, h2, h3, h4 => by
    have : cs.toList.length ≤ k * sz := by simp at h2 ⊢; omega
    rw [List.take_of_length_le this] at h3
    subst h3
    simp [zipFrom, Instr.fill]
  | v :: vs, k, done, cs, h1, h2, h3, h4 => by
    have hv := h4 v (by simp)
    have hsz : k * sz + sz ≤ cs.size := by
      rw [h2, List.length_cons, ← Nat.succ_mul]
      exact Nat.mul_le_mul_right _ (by omega)
    have hf : (v.cells.zipIdx.foldl (fun (cs : Array Value) (p : Value × Nat) => cs.setIfInBounds (k * sz + p.2) p.1) cs).toList = cs.toList.take (k * sz) ++ v.cells.toList ++ cs.toList.drop (k * sz + sz) := by
      have := fold_set v.cells.toList 0 (k * sz) cs (by simp [hv]; exact hsz)
      rw [← Array.foldl_toList, Array.toList_zipIdx]
      simpa [hv] using this
    have hlen : (v.cells.zipIdx.foldl (fun (cs : Array Value) (p : Value × Nat) => cs.setIfInBounds (k * sz + p.2) p.1) cs).size = cs.size := by
      rw [← Array.length_toList, hf]
      simp [hv]
      omega
    have ih := fill_all sz vs (k + 1) (done ++ v.cells.toList) (v.cells.zipIdx.foldl (fun (cs : Array Value) (p : Value × Nat) => cs.setIfInBounds (k * sz + p.2) p.1) cs) (by simp [h1, hv, Nat.succ_mul])
      (by rw [hlen, h2, List.length_cons]; congr 1; omega) (by
        rw [hf, h3]
        have : (done ++ v.cells.toList).length = (k + 1) * sz := by simp [h1, hv, Nat.succ_mul]
        rw [← this, List.take_left]) fun x hx => h4 x (by simp [hx])
    unfold zipFrom Instr.fill
    have hno : ¬ (k * sz + sz > cs.size) := by omega
    simp only [hv, ne_eq, not_true_eq_false, hno]
    rw [ih]
    simp
theorem X_buildSliceL {t e sz bytes len : Nat} {z : Value} {ps : List (Nat × Operand)} {vs : List Value} {c : List Value} (hS : TyS P t e sz bytes z) (hlen : len * sz ≤ 16777216) (hps : (ps.map fun (i, x) => (i, ev f x)) = zipFrom 0 vs) (hl : vs.length = len) (hv : ∀ v ∈ vs, v.cells.size = sz) (hc : vs.flatMap (·.cells.toList) = c)
    (h : ∀ b w', New w w' b c.toArray e → K (.slice (some ⟨b, 0, none⟩) len len) w') : Exec ρ P (.buildSlice t len ps.toArray) ty f w K := by
  refine X_buildSlice hS hlen ?_ h
  unfold cellsOfParts
  rw [hps, fill_all sz vs 0 [] _ (by simp) (by simp [hl]) (by simp) hv, hc]
  simp
/-- a slice literal of one-celled elements -/
theorem X_buildSlice1 {t e bytes len : Nat} {z : Value} {ps : List (Nat × Operand)} {vs : List Value} (hS : TyS P t e 1 bytes z) (hlen : len ≤ 16777216) (hps : (ps.map fun (i, x) => (i, ev f x)) = zipFrom 0 vs) (hl : vs.length = len) (hv : ∀ v ∈ vs, v.cells = #[v])
    (h : ∀ b w', New w w' b vs.toArray e → K (.slice (some ⟨b, 0, none⟩) len len) w') : Exec ρ P (.buildSlice t len ps.toArray) ty f w K := by
  refine X_buildSliceL (vs := vs) hS (by omega) hps hl (fun v hm => by rw [hv v hm]; rfl) ?_ h
  induction vs generalizing len with
  | nil => rfl
  | cons a r ih =>
    rw [List.flatMap_cons, hv a (by simp)]
    clear hps hl h
    have : ∀ l : List Value, (∀ v ∈ l, v.cells = #[v]) → l.flatMap (·.cells.toList) = l := by
      intro l
      induction l with
      | nil => intro _; rfl
      | cons b s ih2 => intro hb; rw [List.flatMap_cons, hb b (by simp), ih2 fun v hm => hb v (by simp [hm])]; rfl
    rw [this r fun v hm => hv v (by simp [hm])]
    rfl
end lit
end Go.SL
