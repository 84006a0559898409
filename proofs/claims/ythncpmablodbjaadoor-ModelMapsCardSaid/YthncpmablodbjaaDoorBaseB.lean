import Derived.Test.YthncpmablodbjaaDoorBaseA
namespace Go.SL
open Go

/-! ### The operations -/

theorem X_sv {ρ : Option Nat} {P : Program} {op : Op} {ty : TypeId} {f : Fr} {w w' : World} {K : Value → World → Prop} {v : Value} (s : Sem Value) (hnd : ∀ c, op ≠ .defer c)
    (hs : ∀ o : Oper, o.op = op → o.type = ty → execOp (ev f) o = (do let v ← s; pure (Next.value v))) (hr : s.run P w = .ok v w') (h : K v w') : Exec ρ P op ty f w K :=
  X_val hnd v (fun o ho ht => by rw [hs o ho ht]; simp only [Sem.run_bind, hr, Result.andThen_ok, Sem.run_pure]) h
theorem X_su {ρ : Option Nat} {P : Program} {op : Op} {ty : TypeId} {f : Fr} {w w' : World} {K : Value → World → Prop} (s : Sem Unit) (hnd : ∀ c, op ≠ .defer c)
    (hs : ∀ o : Oper, o.op = op → o.type = ty → execOp (ev f) o = (do s; pure Next.skip)) (hr : s.run P w = .ok () w') (h : K undef w') : Exec ρ P op ty f w K :=
  X_skip hnd (fun o ho ht => by rw [hs o ho ht]; simp only [Sem.run_bind, hr, Result.andThen_ok, Sem.run_pure]) h

/-- slice value v has n elements -/
def SV (v : Value) (n : Nat) : Prop := ∃ a c, v = .slice a n c ∧ n ≤ c ∧ c ≤ maxLen ∧ (0 < n → ∃ b o, a = some ⟨b, o, none⟩)

def pof (v : Value) (o : Nat) : Value := match v with | .slice (some a) _ _ => .pointer (some (a.add o)) | _ => undef
def padd (p : Value) (o : Nat) : Value := match p with | .pointer (some a) => .pointer (some (a.add o)) | _ => undef
def ptr (b o : Nat) : Value := .pointer (some ⟨b, o, none⟩)
def IsPtr (p : Value) : Prop := ∃ b o, p = ptr b o
/-- the cells xs lie from pointer p on -/
def At (w : World) (p : Value) (xs : List Value) : Prop := ∃ b o, p = ptr b o ∧ ∀ j u, xs[j]? = some u → w.cell? ⟨b, o + j, none⟩ = some u
/-- 's[l:h]' -/
def cutv (v : Value) (sz l h : Nat) : Value := match v with | .slice a _ c => .slice (if c = l then a else a.map (·.add (l * sz))) (h - l) (c - l) | x => x
/-- 's[l:h:m]' -/
def cut3v (v : Value) (sz l h m : Nat) : Value := match v with | .slice a _ _ => .slice (if m = l then a else a.map (·.add (l * sz))) (h - l) (m - l) | x => x
def strV (l : List UInt8) : Value := .string ⟨l.toArray⟩
def byteV (x : UInt8) : Value := .int .u8 x.toNat

theorem padd_ptr (b o k : Nat) : padd (ptr b o) k = ptr b (o + k) := by
  show Value.pointer (some ((⟨b, o, none⟩ : Addr).add k)) = _
  rw [addr_add]; rfl
theorem Rd.sv {w : World} {sz n : Nat} {v : Value} {xs : List Value} (h : Rd w sz v n xs) : SV v n := by
  obtain ⟨_, a, c, hv, h1, h2, h3⟩ := h
  exact ⟨a, c, hv, h1, h2, fun hn => let ⟨b, o, e, _⟩ := h3 hn; ⟨b, o, e⟩⟩
theorem Own.sv {w : World} {B e sz n : Nat} {v : Value} {xs : List Value} (h : Own w B e sz v n xs) : SV v n := h.rd.sv
theorem SV.ptr {v : Value} {n : Nat} (h : SV v n) (hn : 0 < n) (o : Nat) : IsPtr (pof v o) := by
  obtain ⟨a, c, rfl, _, _, h3⟩ := h
  obtain ⟨b, o', rfl⟩ := h3 hn
  exact ⟨b, o' + o, by show Value.pointer (some ((⟨b, o', none⟩ : Addr).add o)) = _; rw [addr_add]; rfl⟩
theorem SV.padd {v : Value} {n : Nat} (h : SV v n) (hn : 0 < n) (o k : Nat) : padd (pof v o) k = pof v (o + k) := by
  obtain ⟨a, c, rfl, _, _, h3⟩ := h
  obtain ⟨b, o', rfl⟩ := h3 hn
  show Value.pointer (some (((⟨b, o', none⟩ : Addr).add o).add k)) = .pointer (some ((⟨b, o', none⟩ : Addr).add (o + k)))
  rw [addr_add, addr_add, addr_add, Nat.add_assoc]
theorem Rd.at_ {w : World} {sz n : Nat} {v : Value} {xs : List Value} (h : Rd w sz v n xs) (hn : 0 < n) (o : Nat) (ys : List Value) (hy : ∀ j u, ys[j]? = some u → xs[o + j]? = some u) : At w (pof v o) ys := by
  obtain ⟨_, a, c, rfl, h1, h2, h3⟩ := h
  obtain ⟨b, o', rfl, h4⟩ := h3 hn
  refine ⟨b, o' + o, by show Value.pointer (some ((⟨b, o', none⟩ : Addr).add o)) = _; rw [addr_add]; rfl, fun j u hj => ?_⟩
  rw [Nat.add_assoc]
  exact h4 _ _ (hy j u hj)
theorem Rd.cell {w : World} {sz n : Nat} {v : Value} {xs : List Value} (h : Rd w sz v n xs) {o : Nat} {x : Value} (hx : xs[o]? = some x) : At w (pof v o) [x] := by
  have hn : 0 < n := by
    rcases Nat.eq_zero_or_pos n with h0 | h0
    · subst h0
      have := (List.getElem?_eq_some_iff.1 hx).1
      have := h.1
      omega
    · exact h0
  exact h.at_ hn o [x] fun j u hj => by
    cases j with
    | zero => simp at hj; subst hj; simpa using hx
    | succ j => simp at hj
theorem Blk.at_ {w : World} {b : Nat} {c : Array Value} {t : TypeId} (h : Blk w b c t) (o : Nat) (ys : List Value) (hy : ∀ j u, ys[j]? = some u → c[o + j]? = some u) : At w (ptr b o) ys :=
  ⟨b, o, rfl, fun j u hj => h.cell (hy j u hj)⟩
theorem Blk.at1 {w : World} {b : Nat} {c : Array Value} {t : TypeId} (h : Blk w b c t) {o : Nat} {x : Value} (hx : c[o]? = some x) : At w (ptr b o) [x] :=
  h.at_ o [x] fun j u hj => by
    cases j with
    | zero => simp at hj; subst hj; simpa using hx
    | succ j => simp at hj
theorem Blk.atAll {w : World} {b : Nat} {l : List Value} {t : TypeId} (h : Blk w b l.toArray t) : At w (ptr b 0) l := h.at_ 0 l fun j u hj => by simpa using hj
theorem At.upd {w w' : World} {D : Nat → Prop} {p : Value} {xs : List Value} (h : At w p xs) (hu : Upd D w w') (hd : ∀ b o, p = Go.SL.ptr b o → ¬ D b) : At w' p xs := by
  obtain ⟨b, o, rfl, hc⟩ := h
  exact ⟨b, o, rfl, fun j u hj => hu.cell (a := ⟨b, o + j, none⟩) (hd b o rfl) (hc j u hj)⟩

section ops
variable {ρ : Option Nat} {P : Program} {ty : TypeId} {f : Fr} {w : World} {K : Value → World → Prop}

theorem X_move {x : Operand} {v : Value} (hx : ev f x = v) (h : K v w) : Exec ρ P (.move x) ty f w K :=
  X_val (fun _ => by simp) v (fun o ho _ => by unfold execOp; rw [ho]; simp [hx]) h
theorem X_assign {x : Operand} {v : Value} (hx : ev f x = v) (h : K v w) : Exec ρ P (.assign x) ty f w K :=
  X_val (fun _ => by simp) v (fun o ho _ => by unfold execOp; rw [ho]; simp [hx]) h
theorem X_pick {c a b : Operand} {t : Bool} {v : Value} (hc : ev f c = .bool t) (hv : ev f (cond t a b) = v) (h : K v w) : Exec ρ P (.pick c a b) ty f w K :=
  X_val (fun _ => by simp) v (fun o ho _ => by unfold execOp; rw [ho]; cases t <;> simp_all [asBool]) h
theorem X_extract {x : Operand} {i : Nat} {l : List Value} {v : Value} (hx : ev f x = .tuple l.toArray) (hv : l[i]? = some v) (h : K v w) : Exec ρ P (.extract x i) ty f w K :=
  X_sv (Instr.extract (ev f x) i) (fun _ => by simp) (fun o ho _ => by unfold execOp; rw [ho]) (by rw [hx]; simp [Instr.extract, hv]) h
theorem X_makeFunc {fn : Fn} {cap : List Operand} {vs : List Value} (hv : cap.map (ev f) = vs) (h : K (.func fn #[] vs.toArray) w) : Exec ρ P (.makeFunc fn #[] cap.toArray) ty f w K :=
  X_sv (Instr.makeFunc fn #[] vs.toArray) (fun _ => by simp) (fun o ho _ => by unfold execOp; rw [ho]; simp [← hv]) (by simp [Instr.makeFunc]) h
theorem X_nilCheck {x : Operand} {v : Value} (hx : ev f x = v) (hp : IsPtr v) (h : K v w) : Exec ρ P (.nilCheck x) ty f w K := by
  obtain ⟨b, o, rfl⟩ := hp
  exact X_val (fun _ => by simp) _ (fun o' ho _ => by unfold execOp; rw [ho]; simp [hx, ptr]) h

/-! #### numbers -/

def icmp : BinOp → Int → Int → Bool
  | .eql, a, b => decide (a = b)
  | .neq, a, b => decide (a ≠ b)
  | .lss, a, b => decide (a < b)
  | .leq, a, b => decide (a ≤ b)
  | .gtr, a, b => decide (b < a)
  | .geq, a, b => decide (b ≤ a)
  | _, _, _ => false
def isCmp : BinOp → Bool
  | .eql | .neq | .lss | .leq | .gtr | .geq => true
  | _ => false
theorem run_eqGuard_int {op : BinOp} {t : TypeId} {x y : Operand} {k k' : IntKind} {a b : Int} : (eqGuard op t x y (.int k a) (.int k' b)).run P w = .ok () w := by
  unfold eqGuard
  cases op <;> simp
theorem run_icmp {op : BinOp} {t : TypeId} {k : IntKind} {a b : Int} (ho : isCmp op = true) : (binOp op t (.int k a) (.int k b)).run P w = .ok (.bool (icmp op a b)) w := by
  have e : (a == b) = decide (a = b) := by rw [Bool.eq_iff_iff]; simp
  cases op <;> simp [isCmp] at ho <;> simp [binOp, Op.intCmp, icmp, e, bne]
theorem X_cmp {op : BinOp} {t t2 : TypeId} {x y : Operand} {k : IntKind} {a b : Int} {r : Bool} (ho : isCmp op = true) (hx : ev f x = .int k a) (hy : ev f y = .int k b) (hr : icmp op a b = r) (h : K (.bool r) w) :
    Exec ρ P (.binOp op t x y t2) ty f w K :=
  X_sv (do eqGuard op t x y (ev f x) (ev f y); binOp op t (ev f x) (ev f y)) (fun _ => by simp) (fun o ho _ => by unfold execOp; rw [ho]) (by
    rw [hx, hy]; simp only [Sem.run_bind, run_eqGuard_int, Result.andThen_ok, run_icmp ho, hr]) h

def iop : BinOp → IntKind → Int → Int → Int
  | .add, k, a, b => k.wrap (a + b)
  | .sub, k, a, b => k.wrap (a - b)
  | .mul, k, a, b => k.wrap (a * b)
  | .quo, k, a, b => k.wrap (a.tdiv b)
  | .rem, _, a, b => a.tmod b
  | .and, k, a, b => k.wrap (BitVec.ofInt k.bits a &&& BitVec.ofInt k.bits b).toNat
  | .or, k, a, b => k.wrap (BitVec.ofInt k.bits a ||| BitVec.ofInt k.bits b).toNat
  | .xor, k, a, b => k.wrap (BitVec.ofInt k.bits a ^^^ BitVec.ofInt k.bits b).toNat
  | _, _, _, _ => 0
def isArith : BinOp → Int → Bool
  | .add, _ | .sub, _ | .mul, _ | .and, _ | .or, _ | .xor, _ => true
  | .quo, b | .rem, b => decide (b ≠ 0)
  | _, _ => false
theorem run_iop {op : BinOp} {t : TypeId} {k : IntKind} {a b : Int} (ho : isArith op b = true) : (binOp op t (.int k a) (.int k b)).run P w = .ok (.int k (iop op k a b)) w := by
  cases op <;> simp [isArith] at ho <;> simp [binOp, Op.intArith, Op.intDiv, Op.intBits, iop, ho]
theorem X_arith {op : BinOp} {t t2 : TypeId} {x y : Operand} {k : IntKind} {a b : Int} {r : Int} (ho : isArith op b = true) (hx : ev f x = .int k a) (hy : ev f y = .int k b) (hr : iop op k a b = r) (h : K (.int k r) w) :
    Exec ρ P (.binOp op t x y t2) ty f w K :=
  X_sv (do eqGuard op t x y (ev f x) (ev f y); binOp op t (ev f x) (ev f y)) (fun _ => by simp) (fun o ho _ => by unfold execOp; rw [ho]) (by
    rw [hx, hy]; simp only [Sem.run_bind, run_eqGuard_int, Result.andThen_ok, run_iop ho, hr]) h
theorem i64_wrap {a : Int} (h1 : -9223372036854775808 ≤ a) (h2 : a ≤ 9223372036854775807) : IntKind.i64.wrap a = a := by
  have e : (2 : Int) ^ 64 = 18446744073709551616 := by decide
  have e' : (2 : Int) ^ (64 - 1) = 9223372036854775808 := by decide
  simp only [IntKind.wrap, IntKind.signed, IntKind.bits, e, e', Bool.true_and, decide_eq_true_eq]
  split <;> omega
theorem iadd64 {a b r : Int} (hr : r = a + b) (h1 : -9223372036854775808 ≤ r) (h2 : r ≤ 9223372036854775807) : iop .add .i64 a b = r := by subst hr; exact i64_wrap h1 h2
theorem isub64 {a b r : Int} (hr : r = a - b) (h1 : -9223372036854775808 ≤ r) (h2 : r ≤ 9223372036854775807) : iop .sub .i64 a b = r := by subst hr; exact i64_wrap h1 h2
theorem imul64 {a b r : Int} (hr : r = a * b) (h1 : -9223372036854775808 ≤ r) (h2 : r ≤ 9223372036854775807) : iop .mul .i64 a b = r := by subst hr; exact i64_wrap h1 h2
theorem iquo64 {a b r : Int} (ha : 0 ≤ a) (hr : r = a / b) (h1 : -9223372036854775808 ≤ r) (h2 : r ≤ 9223372036854775807) : iop .quo .i64 a b = r := by
  subst hr
  have : a.tdiv b = a / b := Int.tdiv_eq_ediv_of_nonneg ha
  show IntKind.i64.wrap (a.tdiv b) = _
  rw [this]; exact i64_wrap h1 h2
theorem irem64 {a b r : Int} (ha : 0 ≤ a) (hr : r = a % b) : iop .rem .i64 a b = r := by
  subst hr
  exact Int.tmod_eq_emod_of_nonneg ha

theorem X_shift {op : BinOp} {t t2 : TypeId} {x y : Operand} {k yk : IntKind} {a b : Int} {r : Int} (ho : op = .shl ∧ k.wrap (a * 2 ^ (min b.toNat k.bits)) = r ∨ op = .shr ∧ a.fdiv (2 ^ (min b.toNat k.bits)) = r) (hb : 0 ≤ b)
    (hx : ev f x = .int k a) (hy : ev f y = .int yk b) (h : K (.int k r) w) : Exec ρ P (.binOp op t x y t2) ty f w K :=
  X_sv (do eqGuard op t x y (ev f x) (ev f y); binOp op t (ev f x) (ev f y)) (fun _ => by simp) (fun o ho _ => by unfold execOp; rw [ho]) (by
    rw [hx, hy]; simp only [Sem.run_bind, run_eqGuard_int, Result.andThen_ok]
    have hb' : ¬ b < 0 := by omega
    rcases ho with ⟨rfl, rfl⟩ | ⟨rfl, rfl⟩ <;> simp [binOp, Op.shift, hb']) h

theorem X_not {t : TypeId} {x : Operand} {b r : Bool} (hx : ev f x = .bool b) (hr : (!b) = r) (h : K (.bool r) w) : Exec ρ P (.unOp .not t x) ty f w K :=
  X_sv (Op.unary .not (ev f x)) (fun _ => by simp) (fun o ho _ => by unfold execOp; rw [ho]) (by rw [hx]; simp [Op.unary, hr]) h
theorem X_convInt {src dst : TypeId} {x : Operand} {k k' : IntKind} {a r : Int} (hs : (P.underlying src).isSome = true) (hd : P.underlying dst = some (.int k')) (hx : ev f x = .int k a) (hr : k'.wrap a = r) (h : K (.int k' r) w) :
    Exec ρ P (.convert src dst x) ty f w K :=
  X_sv (convert src dst (ev f x)) (fun _ => by simp) (fun o ho _ => by unfold execOp; rw [ho]) (by
    obtain ⟨d, hd'⟩ := Option.isSome_iff_exists.1 hs
    rw [hx]
    simp [convert, run_underlying hd', run_underlying hd, Conv.intToInt, hr]) h

/-- '==', '!=' on bools -/
theorem X_cmpBool {op : BinOp} {t t2 : TypeId} {x y : Operand} {a b r : Bool} (hu : P.underlying t = some .bool) (hx : ev f x = .bool a) (hy : ev f y = .bool b) (hr : op = .eql ∧ (a == b) = r ∨ op = .neq ∧ (!(a == b)) = r) (h : K (.bool r) w) :
    Exec ρ P (.binOp op t x y t2) ty f w K :=
  X_sv (do eqGuard op t x y (ev f x) (ev f y); binOp op t (ev f x) (ev f y)) (fun _ => by simp) (fun o ho _ => by unfold execOp; rw [ho]) (by
    rw [hx, hy]
    rcases hr with ⟨rfl, rfl⟩ | ⟨rfl, rfl⟩ <;> simp [eqGuard, binOp, Op.equal, Op.maxDepth, run_equalIn_bool' w 9999 t a b hu]) h

/-! #### strings -/

theorem toList_mk (l : List UInt8) : (⟨l.toArray⟩ : ByteArray).toList = l := by rw [ByteArray.toList_eq]
def scmp : BinOp → List UInt8 → List UInt8 → Bool
  | .eql, a, b => a == b
  | .neq, a, b => !(a == b)
  | .lss, a, b => Op.bytesLess a b
  | .leq, a, b => Op.bytesLess a b || a == b
  | .gtr, a, b => !(Op.bytesLess a b || a == b)
  | .geq, a, b => !Op.bytesLess a b
  | _, _, _ => false
theorem X_scmp {op : BinOp} {t t2 : TypeId} {x y : Operand} {a b : List UInt8} {r : Bool} (ho : isCmp op = true) (hx : ev f x = strV a) (hy : ev f y = strV b) (hr : scmp op a b = r) (h : K (.bool r) w) :
    Exec ρ P (.binOp op t x y t2) ty f w K :=
  X_sv (do eqGuard op t x y (ev f x) (ev f y); binOp op t (ev f x) (ev f y)) (fun _ => by simp) (fun o ho _ => by unfold execOp; rw [ho]) (by
    rw [hx, hy]
    subst hr
    cases op <;> simp [isCmp] at ho <;> simp [eqGuard, binOp, strV, Op.stringOp, scmp]) h

/-! #### lengths, slices, addresses -/

theorem X_len {t e : TypeId} {x : Operand} {v : Value} {n : Nat} (ht : P.underlying t = some (.slice e)) (hx : ev f x = v) (hv : SV v n) (h : K (.int .i64 n) w) :
    Exec ρ P (.call { callee := .builtin .len, args := #[x], argTypes := #[t] }) ty f w K := by
  obtain ⟨a, c, rfl, _⟩ := hv
  refine X_val (fun _ => by simp) _ (fun o ho _ => ?_) h
  unfold execOp
  rw [ho]
  simp [resolve, invoke, builtin, Builtin.len_, hx, run_underlying ht, goInt]
theorem X_cap {t e : TypeId} {x : Operand} {a : Option Addr} {n c : Nat} (ht : P.underlying t = some (.slice e)) (hx : ev f x = .slice a n c) (h : K (.int .i64 c) w) :
    Exec ρ P (.call { callee := .builtin .cap, args := #[x], argTypes := #[t] }) ty f w K := by
  refine X_val (fun _ => by simp) _ (fun o ho _ => ?_) h
  unfold execOp
  rw [ho]
  simp [resolve, invoke, builtin, Builtin.cap_, hx, run_underlying ht, goInt]

theorem X_idx {t e sz bytes : Nat} {z : Value} {x ix : Operand} {v : Value} {n : Nat} {k : IntKind} {i : Int} (hS : TyS P t e sz bytes z) (hx : ev f x = v) (hv : SV v n) (hi : ev f ix = .int k i) (h0 : 0 ≤ i) (hn : i < n)
    (h : K (pof v (i.toNat * sz)) w) : Exec ρ P (.indexAddr t x ix) ty f w K := by
  obtain ⟨a, c, rfl, _, _, h3⟩ := hv
  obtain ⟨b, o, rfl⟩ := h3 (by omega)
  obtain ⟨ie, he, hz, _⟩ := hS.info
  refine X_sv (Instr.indexAt t (ev f x) (ev f ix)) (fun _ => by simp) (fun o ho _ => by unfold execOp; rw [ho]) ?_ h
  rw [hx, hi]
  simp [Instr.indexAt, asIntOf, run_underlying hS.und, h0, hn, sizeOf, typeInfo, he, hz, pof]
/-- the address of an array's element -/
theorem X_idxA {t e sz len : Nat} {x ix : Operand} {p : Value} {k : IntKind} {i : Int} (ht : P.underlying t = some (.array len e)) (he : (P.info? e).map (·.size) = some sz) (hx : ev f x = p) (hp : IsPtr p) (hi : ev f ix = .int k i) (h0 : 0 ≤ i) (hn : i < len)
    (h : K (padd p (i.toNat * sz)) w) : Exec ρ P (.indexAddr t x ix) ty f w K := by
  obtain ⟨b, o, rfl⟩ := hp
  refine X_sv (Instr.indexAt t (ev f x) (ev f ix)) (fun _ => by simp) (fun o ho _ => by unfold execOp; rw [ho]) ?_ h
  rw [hx, hi]
  simp [Instr.indexAt, asIntOf, run_underlying ht, h0, hn, run_sizeOf_of he, padd, ptr, Instr.sureAddr]

/-- what the program's tables say of a struct's field -/
structure Fld (P : Program) (s : TypeId) (i off : Nat) : Prop where
  und : ∃ fs fd, P.underlying s = some (.struct fs) ∧ fs[i]? = some fd ∧ fd.offset = off ∧ ∃ n, (P.info? fd.type).map (·.size) = some n ∧ n ≠ 0
def fldB (P : Program) (s : TypeId) (i off : Nat) : Bool :=
  match P.underlying s with
  | some (.struct fs) => match fs[i]? with
    | some fd => fd.offset == off && (match (P.info? fd.type).map (·.size) with | some n => n != 0 | none => false)
    | none => false
  | _ => false
theorem fld_of {P : Program} {s i off : Nat} (h : fldB P s i off = true) : Fld P s i off := by
  unfold fldB at h
  split at h
  · rename_i fs hu
    split at h
    · rename_i fd hf
      rw [Bool.and_eq_true] at h
      split at h
      · rename_i n hn
        exact ⟨fs, fd, hu, hf, by simpa using h.1, n, hn, by simpa using h.2⟩
      · simp at h
    · cases h
  · cases h
theorem X_fld {s : TypeId} {x : Operand} {i off : Nat} {p : Value} (hF : Fld P s i off) (hx : ev f x = p) (hp : IsPtr p) (h : K (padd p off) w) : Exec ρ P (.fieldAddr s x i) ty f w K := by
  obtain ⟨b, o, rfl⟩ := hp
  obtain ⟨fs, fd, hu, hf, ho, n, hn, hn0⟩ := hF.und
  refine X_sv (Instr.fieldAt s (ev f x) i) (fun _ => by simp) (fun o ho _ => by unfold execOp; rw [ho]) ?_ h
  rw [hx]
  simp [Instr.fieldAt, run_underlying hu, hf, Instr.sureAddr, ptr, padd, fieldPlace, run_sizeOf_of hn, hn0, ho]

/-- a field of a struct's value -/
theorem X_fieldV {s : TypeId} {x : Operand} {i : Nat} {l : List Value} {v : Value} {fs : Array Field} {fd : Field} (hu : P.underlying s = some (.struct fs)) (hf : fs[i]? = some fd) (h1 : Ty1 P fd.type) (hx : ev f x = .agg l.toArray) (hv : l[fd.offset]? = some v) (h : K v w) :
    Exec ρ P (.field s x i) ty f w K := by
  refine X_sv (Instr.field s (ev f x) i) (fun _ => by simp) (fun o ho _ => by unfold execOp; rw [ho]) ?_ h
  rw [hx]
  simp [Instr.field, run_underlying hu, hf, asAgg, part, run_isAgg_of h1.agg, hv]

theorem At.cell0 {p v : Value} (h : At w p [v]) : ∃ b o, p = Go.SL.ptr b o ∧ w.cell? ⟨b, o, none⟩ = some v := by
  obtain ⟨b, o, hp, hc⟩ := h
  exact ⟨b, o, hp, by simpa using hc 0 v rfl⟩
theorem X_load {t : TypeId} {x : Operand} {p v : Value} (h1 : Ty1 P t) (hx : ev f x = p) (hc : At w p [v]) (h : K v w) : Exec ρ P (.load t x) ty f w K := by
  obtain ⟨b, o, rfl, hcell⟩ := hc.cell0
  refine X_sv (Instr.loadAt t (ev f x)) (fun _ => by simp) (fun o ho _ => by unfold execOp; rw [ho]) ?_ h
  rw [hx]
  simp [Instr.loadAt, Instr.sureAddr, ptr, loadVar, run_isAgg_of h1.agg, hcell]
theorem X_loadA {t n : Nat} {x : Operand} {p : Value} {xs : List Value} (h1 : TyA P t n) (hx : ev f x = p) (hc : At w p xs) (hn : xs.length = n) (h : K (.agg xs.toArray) w) : Exec ρ P (.load t x) ty f w K := by
  obtain ⟨b, o, rfl, hc⟩ := hc
  refine X_sv (Instr.loadAt t (ev f x)) (fun _ => by simp) (fun o ho _ => by unfold execOp; rw [ho]) ?_ h
  rw [hx]
  have hl := run_loadCells_list (P := P) w ⟨b, o, none⟩ xs fun j u hj => by rw [addr_add]; exact hc j u hj
  rw [hn] at hl
  simp [Instr.loadAt, Instr.sureAddr, ptr, loadVar, run_isAgg_of h1.agg, run_sizeOf_of h1.size, hl]

theorem setCell_upd (w : World) (b o : Nat) (v : Value) : Upd (fun i => i = b) w (w.setCell ⟨b, o, none⟩ v) :=
  ⟨rfl, rfl, rfl, by simp, fun i _ hd => Go.RowKit.Below.heap_setCell w _ v i hd⟩
theorem Blk.setCell {b : Nat} {c : Array Value} {t : TypeId} (h : Blk w b c t) (o : Nat) (v : Value) : Blk (w.setCell ⟨b, o, none⟩ v) b (c.setIfInBounds o v) t := by
  unfold Blk at h ⊢
  simp [World.setCell, Array.getElem?_modify, h]
theorem run_storeVar1 {t : TypeId} {b o : Nat} {c : Array Value} {te : TypeId} {v : Value} (h1 : (P.info? t).map (·.size) = some 1) (hB : Blk w b c te) (ho : o < c.size) (hv : v.oneCell' = true) :
    (storeVar t ⟨b, o, none⟩ v).run P w = .ok () (w.setCell ⟨b, o, none⟩ v) := by
  have hc : v.cells = #[v] := by cases v <;> first | rfl | cases hv
  have hcell := hB.cell (i := o) (v := c[o]) (by simp [ho])
  have hs := run_store P w ⟨b, o, none⟩ v .plain hv
  rw [hcell, hB.unfrozen] at hs
  simp only [Bool.false_eq_true, if_false] at hs
  simp [storeVar, run_sizeOf_of h1, hc, storeCells, addr_add, hs]
/-- a store into a block of which all is known -/
theorem X_store {t : TypeId} {x y : Operand} {b o : Nat} {c : Array Value} {te : TypeId} {v : Value} (h1 : Ty1 P t) (hx : ev f x = ptr b o) (hy : ev f y = v) (hv : v.oneCell' = true) (hB : Blk w b c te) (ho : o < c.size)
    (h : ∀ w', Upd (fun i => i = b) w w' → Blk w' b (c.setIfInBounds o v) te → K undef w') : Exec ρ P (.store t x y) ty f w K := by
  refine X_su (Instr.storeAt t (ev f x) (ev f y)) (fun _ => by simp) (fun o ho _ => by unfold execOp; rw [ho]) (w' := w.setCell ⟨b, o, none⟩ v) ?_ (h _ (setCell_upd w b o v) (hB.setCell o v))
  rw [hx, hy]
  simp [Instr.storeAt, Instr.sureAddr, ptr, run_storeVar1 h1.size hB ho hv]
theorem run_storeVarA {t n : Nat} {b o : Nat} {c : Array Value} {te : TypeId} {ys : List Value} (h1 : (P.info? t).map (·.size) = some n) (hB : Blk w b c te) (hn : ys.length = n) (ho : o + n ≤ c.size) (hv : ∀ u ∈ ys, u.oneCell' = true) :
    (storeVar t ⟨b, o, none⟩ (.agg ys.toArray)).run P w = .ok () (w.setRow b (c.toList.take o ++ ys ++ c.toList.drop (o + ys.length)).toArray) := by
  have hst := run_storeCells_at P b o te ys 0 c w hB (by omega) hv
  simp only [Nat.add_zero] at hst
  simp [storeVar, run_sizeOf_of h1, Value.cells, hn, hst]
theorem X_storeA {t n : Nat} {x y : Operand} {b o : Nat} {c : Array Value} {te : TypeId} {ys : List Value} (h1 : TyA P t n) (hx : ev f x = ptr b o) (hy : ev f y = .agg ys.toArray) (hv : ∀ u ∈ ys, u.oneCell' = true) (hn : ys.length = n) (hB : Blk w b c te) (ho : o + n ≤ c.size)
    (h : ∀ w', Upd (fun i => i = b) w w' → Blk w' b (c.toList.take o ++ ys ++ c.toList.drop (o + ys.length)).toArray te → K undef w') : Exec ρ P (.store t x y) ty f w K := by
  refine X_su (Instr.storeAt t (ev f x) (ev f y)) (fun _ => by simp) (fun o ho _ => by unfold execOp; rw [ho]) (w' := w.setRow b (c.toList.take o ++ ys ++ c.toList.drop (o + ys.length)).toArray) ?_ (h _ (setRow_upd w b _) (setRow_heap w b c _ te (0, 0) hB))
  rw [hx, hy]
  simp [Instr.storeAt, Instr.sureAddr, ptr, run_storeVarA h1.size hB hn ho hv]

/-- a new block -/
structure New (w w' : World) (b : Nat) (c : Array Value) (t : TypeId) : Prop where
  num : b = w.heap.size
  size : w'.heap.size = w.heap.size + 1
  ext : Ext w w'
  blk : Blk w' b c t
theorem new_alloc (w : World) (c : Array Value) (t : TypeId) : New w (w.alloc (.cells c t)) w.heap.size c t :=
  ⟨rfl, by simp, ext_alloc w _, heap_alloc_new w _⟩
theorem X_box {t : TypeId} {x : Operand} {v : Value} {c : Array Value} (hx : ev f x = v) (hc : v.cells = c) (h : ∀ b w', New w w' b c t → K (ptr b 0) w') : Exec ρ P (.box t x) ty f w K := by
  refine X_sv (Instr.box t (ev f x)) (fun _ => by simp) (fun o ho _ => by unfold execOp; rw [ho]) (w' := w.alloc (.cells c t)) ?_ (h _ _ (new_alloc w c t))
  rw [hx]
  simp [Instr.box, newVar, newRow, hc, ptr]
theorem X_alloc {t : TypeId} {z : Value} {c : Array Value} (hz : (P.info? t).bind (·.zero) = some z) (hc : z.cells = c) (h : ∀ b w', New w w' b c t → K (ptr b 0) w') : Exec ρ P (.alloc t) ty f w K := by
  refine X_sv (Instr.alloc t true (.tuple #[])) (fun _ => by simp) (fun o ho _ => by unfold execOp; rw [ho]) (w' := w.alloc (.cells c t)) ?_ (h _ _ (new_alloc w c t))
  simp [Instr.alloc, run_zero_of hz, newVar, newRow, hc, ptr]
theorem X_build {t : TypeId} {ps : List (Nat × Operand)} {c : Array Value} (hc : P.built t (ps.map fun (i, x) => (i, ev f x)) = some c) (h : K (.agg c) w) : Exec ρ P (.build t ps.toArray) ty f w K := by
  refine X_sv (Instr.build t (ps.toArray.map fun (i, x) => (i, ev f x))) (fun _ => by simp) (fun o ho _ => by unfold execOp; rw [ho]) ?_ h
  exact run_build w t _ c (by simpa using hc)
/-- a slice literal -/
def cellsOfParts (sz len : Nat) (z : Array Value) (ps : List (Nat × Value)) : Option (Array Value) :=
  Instr.fill (fun i => some (i * sz, sz)) ((Array.range (len * sz)).map (z[· % z.size]!)) ps
theorem X_buildSlice {t e sz bytes len : Nat} {z : Value} {ps : List (Nat × Operand)} {c : Array Value} (hS : TyS P t e sz bytes z) (hlen : len * sz ≤ 16777216) (hc : cellsOfParts sz len (if len * sz = 0 then #[] else z.cells) (ps.map fun (i, x) => (i, ev f x)) = some c)
    (h : ∀ b w', New w w' b c e → K (.slice (some ⟨b, 0, none⟩) len len) w') : Exec ρ P (.buildSlice t len ps.toArray) ty f w K := by
  obtain ⟨i, hi, h1, h2, h3⟩ := hS.info
  refine X_sv (Instr.buildSlice t len (ps.toArray.map fun (i, x) => (i, ev f x))) (fun _ => by simp) (fun o ho _ => by unfold execOp; rw [ho]) (w' := w.alloc (.cells c e)) ?_ (h _ _ (new_alloc w c e))
  have hl : ¬ (16777216 < len * sz) := by omega
  unfold cellsOfParts at hc
  by_cases h0 : len * sz = 0
  · rw [if_pos h0] at hc
    simp only [h0] at hc
    simp [Instr.buildSlice, run_underlying hS.und, sizeOf, typeInfo, hi, h1, h0, newRow]
    simp at hc
    simp [hc]
  · rw [if_neg h0] at hc
    simp [Instr.buildSlice, run_underlying hS.und, sizeOf, typeInfo, zeroValue, hi, h1, h3, hl, h0, newRow]
    simp at hc
    simp [hc]

theorem X_append {t t2 e sz bytes B n m : Nat} {z s x : Value} {xs ys : List Value} {a b : Operand} (hS : TyS P t e sz bytes z) (ht2 : ∃ e2, P.underlying t2 = some (.slice e2)) (ha : ev f a = s) (hb : ev f b = x) (hO : Own w B e sz s n xs) (hR : Rd w sz x m ys)
    (h1 : ∀ u ∈ ys, u.oneCell' = true) (hm : n + m ≤ maxLen) (hby : (n + m) * bytes ≤ 140737488355328) (hB : B ≤ w.heap.size)
    (h : ∀ v' w', Own w' B e sz v' (n + m) (xs ++ ys) → Upd (fun b => obk s = some b) w w' → (∀ b, obk v' = some b → obk s = some b ∨ w.heap.size ≤ b) → K v' w') :
    Exec ρ P (.call { callee := .builtin .append, args := #[a, b], argTypes := #[t, t2] }) ty f w K := by
  obtain ⟨v', w', hr, h2, h3, h4⟩ := run_append (ty := ty) hS ht2 hO hR h1 hm hby hB
  refine X_val (fun _ => by simp) v' (fun o ho ht => ?_) (h v' w' h2 h3 h4)
  unfold execOp
  rw [ho]
  simp [resolve, invoke, builtin, ha, hb, ht, hr]

theorem X_slice {t e sz bytes : Nat} {z v : Value} {x : Operand} {lo hi : Option Operand} {n l h' : Nat} {kl kh : IntKind} (hS : TyS P t e sz bytes z) (hx : ev f x = v) (hv : SV v n)
    (hlo : match lo with | none => l = 0 | some o => ev f o = .int kl l) (hhi : match hi with | none => h' = n | some o => ev f o = .int kh h') (h1 : l ≤ h') (h2 : h' ≤ n) (h : K (cutv v sz l h') w) :
    Exec ρ P (.slice t x lo hi none) ty f w K := by
  obtain ⟨a, c, rfl, hnc, hcm, _⟩ := hv
  obtain ⟨ie, he, hz, _⟩ := hS.info
  have hb1 : ∀ k, (Instr.sliceBound (.int k l) h' .sliceB).run P w = .ok l w := fun k => by simp [Instr.sliceBound, asIntOf, h1]
  have hb2 : ∀ k cd, (Instr.sliceBound (.int k h') c cd).run P w = .ok h' w := fun k cd => by
    have : h' ≤ c := by omega
    simp [Instr.sliceBound, asIntOf, this]
  refine X_sv (Instr.sliceAt t (ev f x) (lo.map (ev f)) (hi.map (ev f)) none) (fun _ => by simp) (fun o ho _ => by unfold execOp; rw [ho]; rfl) ?_ h
  rw [hx]
  have hsz : (sizeOf e).run P w = .ok sz w := by simp [sizeOf, typeInfo, he, hz]
  cases lo with
  | none =>
    simp only at hlo; subst hlo
    cases hi with
    | none =>
      simp only at hhi; subst hhi
      simp [Instr.sliceAt, Instr.slice, run_underlying hS.und, Instr.sliceBounds, hsz, cutv]
    | some oh =>
      simp only at hhi
      simp [Instr.sliceAt, Instr.slice, run_underlying hS.und, Instr.sliceBounds, hsz, cutv, hhi, hb2]
  | some ol =>
    simp only at hlo
    cases hi with
    | none =>
      simp only at hhi; subst hhi
      simp [Instr.sliceAt, Instr.slice, run_underlying hS.und, Instr.sliceBounds, hsz, cutv, hlo, hb1]
    | some oh =>
      simp only at hhi
      simp [Instr.sliceAt, Instr.slice, run_underlying hS.und, Instr.sliceBounds, hsz, cutv, hlo, hhi, hb1, hb2]
end ops
end Go.SL
