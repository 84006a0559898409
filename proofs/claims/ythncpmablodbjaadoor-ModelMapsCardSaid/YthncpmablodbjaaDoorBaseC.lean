import Derived.Test.YthncpmablodbjaaDoorBaseB
namespace Go.SL
open Go

section ops2
variable {ρ : Option Nat} {P : Program} {ty : TypeId} {f : Fr} {w : World} {K : Value → World → Prop}

theorem X_min {x y : Operand} {ts : Array TypeId} {k : IntKind} {a b r : Int} (hx : ev f x = .int k a) (hy : ev f y = .int k b) (hr : (if b < a then b else a) = r) (h : K (.int k r) w) :
    Exec ρ P (.call { callee := .builtin .min, args := #[x, y], argTypes := ts }) ty f w K := by
  refine X_val (fun _ => by simp) _ (fun o ho _ => ?_) h
  unfold execOp
  rw [ho]
  simp [resolve, invoke, builtin, Builtin.min_, hx, hy, Builtin.min2, hr]
theorem X_max {x y : Operand} {ts : Array TypeId} {k : IntKind} {a b r : Int} (hx : ev f x = .int k a) (hy : ev f y = .int k b) (hr : (if a < b then b else a) = r) (h : K (.int k r) w) :
    Exec ρ P (.call { callee := .builtin .max, args := #[x, y], argTypes := ts }) ty f w K := by
  refine X_val (fun _ => by simp) _ (fun o ho _ => ?_) h
  unfold execOp
  rw [ho]
  simp [resolve, invoke, builtin, Builtin.max_, hx, hy, Builtin.max2, hr]

theorem run_equalIn_sliceNil (d : Nat) {t e : TypeId} (hu : P.underlying t = some (.slice e)) (a : Option Addr) (n c n2 c2 : Nat) : (Op.equalIn (d + 1) t (.slice a n c) (.slice none n2 c2)).run P w = .ok a.isNone w := by
  unfold Op.equalIn
  simp only [Sem.run_bind, run_underlying hu, Result.andThen_ok]
  cases a <;> simp
/-- 's == nil' of a slice -/
theorem X_nilS {op : BinOp} {t t2 e : TypeId} {x : Operand} {a : Option Addr} {n c n2 c2 : Nat} {r : Bool} (hu : P.underlying t = some (.slice e)) (hx : ev f x = .slice a n c) (hr : op = .eql ∧ a.isNone = r ∨ op = .neq ∧ (!a.isNone) = r) (h : K (.bool r) w) :
    Exec ρ P (.binOp op t x (.const (.slice none n2 c2)) t2) ty f w K :=
  X_sv (do eqGuard op t x (.const (.slice none n2 c2)) (ev f x) (.slice none n2 c2); binOp op t (ev f x) (.slice none n2 c2)) (fun _ => by simp) (fun o ho _ => by unfold execOp; rw [ho]; rfl) (by
    rw [hx]
    have he := run_equalIn_sliceNil (w := w) 9999 hu a n c n2 c2
    rcases hr with ⟨rfl, rfl⟩ | ⟨rfl, rfl⟩ <;> simp [eqGuard, binOp, Op.equal, Op.maxDepth, he]) h

/-- string(b) of bytes -/
theorem X_str {src dst e : TypeId} {x : Operand} {v : Value} {l : List UInt8} (hs : P.underlying src = some (.slice e)) (he : P.underlying e = some (.int .u8)) (hd : P.underlying dst = some .string) (hx : ev f x = v) (hv : Rd w 1 v l.length (l.map byteV)) (h : K (strV l) w) :
    Exec ρ P (.convert src dst x) ty f w K := by
  refine X_sv (convert src dst (ev f x)) (fun _ => by simp) (fun o ho _ => by unfold execOp; rw [ho]) ?_ h
  rw [hx]
  obtain ⟨_, a, c, rfl, _, _, h3⟩ := hv
  cases l with
  | nil =>
    cases a with
    | none => exact run_convert_bytes_nil w src e hs he 0 c dst hd
    | some a =>
      have := run_convert_bytes_back (P := P) w src dst e a c [] hs he hd (fun j hj => by simp at hj)
      exact this
  | cons x l =>
    obtain ⟨b, o, rfl, h4⟩ := h3 (by simp)
    refine run_convert_bytes_back (P := P) w src dst e ⟨b, o, none⟩ c (x :: l) hs he hd fun j hj => ?_
    rw [addr_add]
    refine h4 j _ ?_
    rw [List.getElem?_map, List.getElem?_eq_getElem hj]
    rfl

/-- slicing an array in a block, 'p[:]' and its like -/
theorem X_sliceA {t e sz len b : Nat} {x : Operand} {lo hi : Option Operand} {l h' : Nat} {kl kh : IntKind} (ht : P.underlying t = some (.array len e)) (he : (P.info? e).map (·.size) = some sz) (hx : ev f x = ptr b 0)
    (hlo : match lo with | none => l = 0 | some o => ev f o = .int kl l) (hhi : match hi with | none => h' = len | some o => ev f o = .int kh h') (h1 : l ≤ h') (h2 : h' ≤ len) (h : K (cutv (.slice (some ⟨b, 0, none⟩) len len) sz l h') w) :
    Exec ρ P (.slice t x lo hi none) ty f w K := by
  have hb1 : ∀ k cd, (Instr.sliceBound (.int k l) h' cd).run P w = .ok l w := fun k cd => by simp [Instr.sliceBound, asIntOf, h1]
  have hb2 : ∀ k cd, (Instr.sliceBound (.int k h') len cd).run P w = .ok h' w := fun k cd => by simp [Instr.sliceBound, asIntOf, h2]
  refine X_sv (Instr.sliceAt t (ev f x) (lo.map (ev f)) (hi.map (ev f)) none) (fun _ => by simp) (fun o ho _ => by unfold execOp; rw [ho]; rfl) ?_ h
  rw [hx]
  cases lo with
  | none =>
    simp only at hlo; subst hlo
    cases hi with
    | none =>
      simp only at hhi; subst hhi
      simp [Instr.sliceAt, run_underlying ht, Instr.sliceBounds, run_sizeOf_of he, cutv, ptr, Instr.sureAddr]
      split <;> rfl
    | some oh =>
      simp only at hhi
      simp [Instr.sliceAt, run_underlying ht, Instr.sliceBounds, run_sizeOf_of he, cutv, ptr, Instr.sureAddr, hhi, hb2]
      split <;> rfl
  | some ol =>
    simp only at hlo
    cases hi with
    | none =>
      simp only at hhi; subst hhi
      simp [Instr.sliceAt, run_underlying ht, Instr.sliceBounds, run_sizeOf_of he, cutv, ptr, Instr.sureAddr, hlo, hb1]
      split <;> rfl
    | some oh =>
      simp only at hhi
      simp [Instr.sliceAt, run_underlying ht, Instr.sliceBounds, run_sizeOf_of he, cutv, ptr, Instr.sureAddr, hlo, hhi, hb1, hb2]
      split <;> rfl

theorem cutv_zero {a : Option Addr} {n c sz h : Nat} (hc : 0 < c) : cutv (.slice a n c) sz 0 h = .slice a h c := by
  unfold cutv
  have : ¬ c = 0 := by omega
  simp only [if_neg this, Nat.zero_mul, Nat.sub_zero]
  cases a <;> simp [Addr.add]
theorem cutv_zero' {a : Option Addr} {n c sz h : Nat} : cutv (.slice a n c) sz 0 h = .slice a h c := by
  rcases Nat.eq_zero_or_pos c with h0 | h0
  · subst h0; simp [cutv]
  · exact cutv_zero h0
/-- a part of a readable slice -/
theorem Rd.cut {sz n l h : Nat} {v : Value} {xs : List Value} (hr : Rd w sz v n xs) (h1 : l ≤ h) (h2 : h ≤ n) : Rd w sz (cutv v sz l h) (h - l) ((xs.drop (l * sz)).take ((h - l) * sz)) := by
  obtain ⟨hl, a, c, rfl, hnc, hcm, h3⟩ := hr
  have hlen : ((xs.drop (l * sz)).take ((h - l) * sz)).length = (h - l) * sz := by
    have h4 : h * sz ≤ n * sz := Nat.mul_le_mul_right _ h2
    rw [List.length_take, List.length_drop, hl, Nat.sub_mul]
    omega
  refine ⟨hlen, _, _, rfl, by omega, by omega, fun hn => ?_⟩
  have hne : ¬ c = l := by omega
  rw [if_neg hne]
  obtain ⟨b, o, rfl, h4⟩ := h3 (by omega)
  refine ⟨b, o + l * sz, by simp [addr_add], fun j u hj => ?_⟩
  rw [Nat.add_assoc]
  refine h4 _ _ ?_
  rw [List.getElem?_take] at hj
  split at hj
  · rw [List.getElem?_drop] at hj; exact hj
  · cases hj
theorem Own.cut {B e sz n h : Nat} {v : Value} {xs : List Value} (hr : Own w B e sz v n xs) (h2 : h ≤ n) : Own w B e sz (cutv v sz 0 h) h (xs.take (h * sz)) := by
  obtain ⟨hl, a, c, rfl, hnc, hcm, h3⟩ := hr
  have hlen : (xs.take (h * sz)).length = h * sz := by
    have h4 : h * sz ≤ n * sz := Nat.mul_le_mul_right _ h2
    rw [List.length_take, hl]
    omega
  rw [cutv_zero']
  refine ⟨hlen, a, c, rfl, by omega, hcm, ?_⟩
  rcases h3 with h3 | ⟨g, cur, ha, hB, hb, hs, hx⟩
  · exact .inl h3
  · refine .inr ⟨g, cur, ha, hB, hb, hs, ?_⟩
    have h4 : h * sz ≤ n * sz := Nat.mul_le_mul_right _ h2
    rw [← hx, List.take_take, Nat.min_eq_left h4]
theorem rbk_cutv {v : Value} {sz l h b : Nat} (hb : rbk (cutv v sz l h) = some b) (hn : ∃ a n c, v = .slice a n c ∧ h ≤ n ∧ n ≤ c) : rbk v = some b := by
  obtain ⟨a, n, c, rfl, h1, h2⟩ := hn
  unfold cutv at hb
  cases hd : h - l with
  | zero => simp only [hd] at hb; split at hb <;> simp_all [rbk]
  | succ k =>
    have hne : ¬ c = l := by omega
    simp only [hd, if_neg hne] at hb
    cases a with
    | none => simp [rbk] at hb
    | some a =>
      obtain ⟨m, rfl⟩ : ∃ m, n = m + 1 := ⟨n - 1, by omega⟩
      simp only [Option.map_some, rbk] at hb
      have e : (a.add (l * sz)).block = a.block := by unfold Addr.add; split <;> rfl
      rw [e] at hb
      exact hb
/-- a block that is known whole, seen as an owned slice -/
theorem Blk.own {b t sz n c : Nat} {cs : Array Value} (h : Blk w b cs t) {B : Nat} (hB : B ≤ b) (hn : n ≤ c) (hc : c ≤ maxLen) (hcs : c * sz ≤ cs.size) : Own w B t sz (.slice (some ⟨b, 0, none⟩) n c) n (cs.toList.take (n * sz)) := by
  refine ⟨?_, _, c, rfl, hn, hc, .inr ⟨b, cs, rfl, hB, h, hcs, rfl⟩⟩
  have h4 : n * sz ≤ c * sz := Nat.mul_le_mul_right _ hn
  rw [List.length_take, Array.length_toList]
  omega
theorem X_fldP {s : TypeId} {x : Operand} {i off b o r : Nat} (hF : Fld P s i off) (hx : ev f x = ptr b o) (hr : o + off = r) (h : K (ptr b r) w) : Exec ρ P (.fieldAddr s x i) ty f w K :=
  X_fld hF hx ⟨b, o, rfl⟩ (by rw [padd_ptr, hr]; exact h)
theorem X_fldS {s : TypeId} {x : Operand} {i off o n : Nat} {v : Value} (hF : Fld P s i off) (hx : ev f x = pof v o) (hv : SV v n) (hn : 0 < n) (h : K (pof v (o + off)) w) : Exec ρ P (.fieldAddr s x i) ty f w K :=
  X_fld hF hx (hv.ptr hn o) (by rw [hv.padd hn]; exact h)
theorem X_idxAP {t e sz len b o r : Nat} {x ix : Operand} {k : IntKind} {i : Int} (ht : P.underlying t = some (.array len e)) (he : (P.info? e).map (·.size) = some sz) (hx : ev f x = ptr b o) (hi : ev f ix = .int k i) (h0 : 0 ≤ i) (hn : i < len)
    (hr : o + i.toNat * sz = r) (h : K (ptr b r) w) : Exec ρ P (.indexAddr t x ix) ty f w K :=
  X_idxA ht he hx ⟨b, o, rfl⟩ hi h0 hn (by rw [padd_ptr, hr]; exact h)
theorem Blk.ext {w w' : World} {b : Nat} {c : Array Value} {t : TypeId} (h : Blk w b c t) (hu : Ext w w') : Blk w' b c t := h.upd hu fun hx => hx
theorem At.ext {w w' : World} {p : Value} {xs : List Value} (h : At w p xs) (hu : Ext w w') : At w' p xs := h.upd hu fun _ _ _ hx => hx
/-- the block for a loop's deferred calls -/
def Dfd (w : World) (D : Nat) : Prop := w.heap[D]? = some (.deferred (some []))
theorem Dfd.lt {w : World} {D : Nat} (h : Dfd w D) : D < w.heap.size := (Array.getElem?_eq_some_iff.1 h).1
theorem Dfd.upd {w w' : World} {E : Nat → Prop} {D : Nat} (h : Dfd w D) (hu : Upd E w w') (hd : ¬ E D) : Dfd w' D := (hu.blk D h.lt hd).trans h
theorem Dfd.ext {w w' : World} {D : Nat} (h : Dfd w D) (hu : Ext w w') : Dfd w' D := h.upd hu fun hx => hx
/-- what lay in the world at the start still reads -/
theorem Rd.old {w0 w : World} {sz n : Nat} {v : Value} {xs : List Value} (h : Rd w0 sz v n xs) (hs : 0 < sz) (hu : Upd (fun i => w0.heap.size ≤ i) w0 w) : Rd w sz v n xs :=
  h.upd hu fun b hb hd => by have := h.bound hs hb; omega
theorem Rd.eq {w : World} {sz n n' : Nat} {v : Value} {xs xs' : List Value} (h : Rd w sz v n xs) (hn : n = n') (hx : xs = xs') : Rd w sz v n' xs' := by subst hn; subst hx; exact h
theorem Own.eq {w : World} {B e sz n n' : Nat} {v : Value} {xs xs' : List Value} (h : Own w B e sz v n xs) (hn : n = n') (hx : xs = xs') : Own w B e sz v n' xs' := by subst hn; subst hx; exact h
theorem SV.one {v : Value} {n : Nat} (h : SV v n) : v.oneCell' = true := by obtain ⟨a, c, rfl, _⟩ := h; rfl
theorem SV.cells {v : Value} {n : Nat} (h : SV v n) : v.cells = #[v] := by obtain ⟨a, c, rfl, _⟩ := h; rfl
theorem byteV_one (l : List UInt8) : ∀ u ∈ l.map byteV, u.oneCell' = true := by
  intro u hu; obtain ⟨x, _, rfl⟩ := List.mem_map.1 hu; rfl
end ops2

theorem enters {P : Program} {g : FuncId} {fn : Func} {c : Code} (hf : P.funcs[g]? = some fn) (hn : (fn.name == "runtime.NumGoroutine") = false) (hb : fn.body = some c) :
    ∀ (args : Array Value) (w : World), (callFunc g args).run P w = .ok (.enter g args) w := by
  intro args w
  have hn' : fn.name ≠ "runtime.NumGoroutine" := by simpa using hn
  unfold callFunc
  simp [hf, hn', hb]

section scopes
variable {Q : Post} {ds : List Deferred} {f : Fr} {w : World}
def scopeQ (Q : Post) : Post := fun e ds f w => match e with | .goto _ => False | e => Q e ds f w
theorem S_n (h : Q .normal ds f w) : scopeQ Q .normal ds f w := h
theorem S_r (h : Q .ret ds f w) : scopeQ Q .ret ds f w := h
theorem S_e {id : Nat} (h : Q (.exit id) ds f w) : scopeQ Q (.exit id) ds f w := h
theorem W_scopeQ {ρ : Option Nat} {P : Program} {N : Nat} {c : Code} (h : Wp ρ P N c (scopeQ Q) ds f w) : Wp ρ P N (.scope c) Q ds f w := W_scope h
end scopes
end Go.SL
