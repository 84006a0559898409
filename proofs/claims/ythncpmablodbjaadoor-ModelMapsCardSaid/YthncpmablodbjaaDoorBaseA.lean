/-
  A small program logic over the walk's calculus of the kit ('Code.wpIn'): the activation's temporaries are told as a list of pairs over a base function ('Fr'), so that a slot is read by reduction;
  rules for the forms of code, for a list of operations, for a region that draws its order, for a loop, a cut, a range over a function. Of no program. Nothing here is trusted.
-/
import Derived.OrdersIn
import Derived.RangeFuncRecord
import Derived.TacticsInMore
import Derived.Below
import Derived.Laws.IdiomStrings
import Derived.Laws.BytesArg
import Derived.Laws.Tables
import Derived.Laws.StructEq
import Derived.Laws.CopyRow
import Derived.Laws.AppendOwn
namespace Go.SL
open Go

/-! ### Frames -/

structure Fr where
  l : List (Nat × Value)
  b : Nat → Value

def look : List (Nat × Value) → (Nat → Value) → Nat → Value
  | [], b, k => b k
  | (d, v) :: l, b, k => cond (Nat.beq d k) v (look l b k)

def Fr.get (f : Fr) (k : Nat) : Value := look f.l f.b k
def Fr.put (f : Fr) (d : Nat) (v : Value) : Fr := ⟨(d, v) :: f.l, f.b⟩
def Fr.puto (f : Fr) : Option Nat → Value → Fr
  | none, _ => f
  | some d, v => f.put d v

def ev (f : Fr) : Operand → Value
  | .tmp t => f.get t
  | .const v => v
  | .global g => .pointer (some ⟨g, 0, none⟩)
  | .func g => .func (.func g) #[] #[]

theorem Fr.get_put_same (f : Fr) (d : Nat) (v : Value) : (f.put d v).get d = v := by
  show cond (Nat.beq d d) v (look f.l f.b d) = v
  have : Nat.beq d d = true := Nat.beq_refl d
  rw [this]; rfl

theorem Fr.get_put_ne (f : Fr) {d k : Nat} (v : Value) (h : d ≠ k) : (f.put d v).get k = f.get k := by
  show cond (Nat.beq d k) v (look f.l f.b k) = look f.l f.b k
  have : Nat.beq d k = false := by
    cases hb : Nat.beq d k with
    | false => rfl
    | true => exact absurd (Nat.eq_of_beq_eq_true hb) h
  rw [this]; rfl

structure Ag (N : Nat) (ds : List Deferred) (f : Fr) (a : Act) : Prop where
  size : a.tmps.size = N
  get : ∀ k, a.tmps.getD k undef = f.get k
  ds : a.defers = ds

theorem Ag.eval {N : Nat} {ds : List Deferred} {f : Fr} {a : Act} (h : Ag N ds f a) : a.eval = ev f := by
  funext x
  cases x <;> first | rfl | exact h.get _

theorem Ag.put {N : Nat} {ds : List Deferred} {f : Fr} {a : Act} (h : Ag N ds f a) {d : Nat} (hd : Nat.blt d N = true) (v : Value) : Ag N ds (f.put d v) (a.put (some d) v) := by
  have hlt : d < a.tmps.size := by rw [h.size]; exact Nat.le_of_ble_eq_true hd
  refine ⟨by simp [Act.put, h.size], fun k => ?_, h.ds⟩
  by_cases e : d = k
  · subst e
    rw [Fr.get_put_same]
    simp [Act.put, Array.getD_eq_getD_getElem?, hlt]
  · rw [Fr.get_put_ne _ _ e, ← h.get k]
    simp [Act.put, Array.getD_eq_getD_getElem?, Array.getElem?_setIfInBounds_ne e]

theorem Ag.puto {N : Nat} {ds : List Deferred} {f : Fr} {a : Act} (h : Ag N ds f a) {d : Option Nat} (hd : ∀ k, d = some k → Nat.blt k N = true) (v : Value) : Ag N ds (f.puto d v) (a.put d v) := by
  cases d with
  | none => exact h
  | some d => exact h.put (hd d rfl) v

theorem Ag.same {N : Nat} {ds : List Deferred} {f f' : Fr} {a : Act} (h : Ag N ds f a) (hs : ∀ k, f'.get k = f.get k) : Ag N ds f' a :=
  ⟨h.size, fun k => (h.get k).trans (hs k).symm, h.ds⟩

theorem Ag.yielded {N : Nat} {ds : List Deferred} {f : Fr} {a : Act} (h : Ag N ds f a) {ops : Array Oper} {j dj : Nat} (hj : (ops[j]?).bind (·.dst) = some dj) :
    yielded ops a.tmps j = (match f.get dj with | .bool b => some b | _ => none) := by
  have hg := h.get dj
  unfold Go.yielded
  rw [hj]
  simp only [Option.bind_some]
  rw [Array.getD_eq_getD_getElem?] at hg
  cases hx : a.tmps[dj]? with
  | none => rw [hx] at hg; simp only [Option.getD_none] at hg; rw [← hg]; rfl
  | some v => rw [hx] at hg; simp only [Option.getD_some] at hg; rw [← hg]; cases v <;> rfl

/-! ### The forms of code -/

def FR (ρ : Option Nat) : Fence := { Fence.wide with round := ρ }

abbrev Post := Exit → List Deferred → Fr → World → Prop

def lift (N : Nat) (Q : Post) : Exit → Act → World → Prop := fun e a w => ∃ ds f, Ag N ds f a ∧ Q e ds f w

def Wp (ρ : Option Nat) (P : Program) (N : Nat) (c : Code) (Q : Post) (ds : List Deferred) (f : Fr) (w : World) : Prop :=
  ∀ a, Ag N ds f a → c.wpIn (FR ρ) 0 P (lift N Q) a w

def thenQ (K : List Deferred → Fr → World → Prop) (Q : Post) : Post := fun e ds f w =>
  match e with
  | .normal => K ds f w
  | e => Q e ds f w

def blockQ (id : Nat) (Q : Post) : Post := fun e ds f w =>
  match e with
  | .exit id' => cond (Nat.beq id' id) (Q .normal ds f w) (Q (.exit id') ds f w)
  | e => Q e ds f w

section rules
variable {ρ : Option Nat} {P : Program} {N : Nat} {Q : Post} {ds : List Deferred} {f : Fr} {w : World}

theorem T_n {K : List Deferred → Fr → World → Prop} (h : K ds f w) : thenQ K Q .normal ds f w := h
theorem T_r {K : List Deferred → Fr → World → Prop} (h : Q .ret ds f w) : thenQ K Q .ret ds f w := h
theorem T_e {K : List Deferred → Fr → World → Prop} {id : Nat} (h : Q (.exit id) ds f w) : thenQ K Q (.exit id) ds f w := h
theorem B_n {id : Nat} (h : Q .normal ds f w) : blockQ id Q .normal ds f w := h
theorem B_r {id : Nat} (h : Q .ret ds f w) : blockQ id Q .ret ds f w := h
theorem B_e {id id' : Nat} (hb : Nat.beq id' id = false) (h : Q (.exit id') ds f w) : blockQ id Q (.exit id') ds f w := by
  show cond (Nat.beq id' id) _ _
  rw [hb]; exact h
theorem B_x {id : Nat} (h : Q .normal ds f w) : blockQ id Q (.exit id) ds f w := by
  show cond (Nat.beq id id) _ _
  have : Nat.beq id id = true := Nat.beq_refl id
  rw [this]; exact h

theorem Wp.mono {c : Code} {Q' : Post} (h : Wp ρ P N c Q ds f w) (hq : ∀ e ds f w, Q e ds f w → Q' e ds f w) : Wp ρ P N c Q' ds f w :=
  fun a ha => wpIn_mono (h a ha) fun _ _ _ ⟨ds', f', h1, h2⟩ => ⟨ds', f', h1, hq _ _ _ _ h2⟩

theorem W_skip (h : Q .normal ds f w) : Wp ρ P N .skip Q ds f w := fun _ ha => wpIn_skip ⟨ds, f, ha, h⟩
theorem W_label {l : Nat} (h : Q .normal ds f w) : Wp ρ P N (.label l) Q ds f w := fun _ ha => wpIn_label ⟨ds, f, ha, h⟩
theorem W_exit {id : Nat} (h : Q (.exit id) ds f w) : Wp ρ P N (.exit id) Q ds f w := fun _ ha => wpIn_exit ⟨ds, f, ha, h⟩
theorem W_ret (h : Q .ret ds f w) : Wp ρ P N .ret Q ds f w := fun _ ha => wpIn_ret ⟨ds, f, ha, h⟩

theorem W_seq {x y : Code} (h : Wp ρ P N x (thenQ (Wp ρ P N y Q) Q) ds f w) : Wp ρ P N (.seq x y) Q ds f w := fun a ha =>
  wpIn_seq (wpIn_mono (h a ha) fun e a' w' ⟨ds', f', h1, h2⟩ => by
    cases e <;> first | exact h2 a' h1 | exact ⟨ds', f', h1, h2⟩)

theorem W_ct {c : Operand} {x y : Code} (hc : ev f c = .bool true) (h : Wp ρ P N x Q ds f w) : Wp ρ P N (.cond c x y) Q ds f w :=
  fun a ha => wpIn_cond_true (by rw [ha.eval]; exact hc) (h a ha)
theorem W_cf {c : Operand} {x y : Code} (hc : ev f c = .bool false) (h : Wp ρ P N y Q ds f w) : Wp ρ P N (.cond c x y) Q ds f w :=
  fun a ha => wpIn_cond_false (by rw [ha.eval]; exact hc) (h a ha)
theorem W_cb {c : Operand} {x y : Code} {t : Bool} (hc : ev f c = .bool t) (ht : t = true → Wp ρ P N x Q ds f w) (hf : t = false → Wp ρ P N y Q ds f w) :
    Wp ρ P N (.cond c x y) Q ds f w :=
  fun a ha => wpIn_cond_split (by rw [ha.eval]; exact hc) (fun e => ht e a ha) (fun e => hf e a ha)

theorem W_block {id : Nat} {c : Code} (h : Wp ρ P N c (blockQ id Q) ds f w) : Wp ρ P N (.block id c) Q ds f w := fun a ha =>
  wpIn_block (wpIn_mono (h a ha) fun e a' w' ⟨ds', f', h1, h2⟩ => by
    cases e with
    | exit id' =>
      show if id' = id then _ else _
      replace h2 : cond (Nat.beq id' id) (Q .normal ds' f' w') (Q (.exit id') ds' f' w') := h2
      by_cases e : id' = id
      · subst e
        have hb : Nat.beq id' id' = true := Nat.beq_refl id'
        rw [hb] at h2
        rw [if_pos rfl]; exact ⟨ds', f', h1, h2⟩
      · have hb : Nat.beq id' id = false := by
          cases hb : Nat.beq id' id with
          | false => rfl
          | true => exact absurd (Nat.eq_of_beq_eq_true hb) e
        rw [hb] at h2
        rw [if_neg e]; exact ⟨ds', f', h1, h2⟩
    | _ => exact ⟨ds', f', h1, h2⟩)

/-! ### The written slots of a piece of code: what stands in them is forgotten, all else is as it was -/

def memb : List Nat → Nat → Bool
  | [], _ => false
  | x :: l, k => cond (Nat.beq x k) true (memb l k)

def keysIn (ks : List Nat) : List (Nat × Value) → Bool
  | [] => true
  | (d, _) :: l => cond (memb ks d) (keysIn ks l) false

def blur (ks : List Nat) (h : Nat → Value) (f : Fr) : Nat → Value := fun k => cond (memb ks k) (h k) (f.get k)

def Out (ks : List Nat) (f' f : Fr) : Prop := ∀ k, memb ks k = false → f'.get k = f.get k

def Slots (f : Fr) : List (Nat × Value) → Prop
  | [] => True
  | (d, v) :: l => f.get d = v ∧ Slots f l

theorem look_out {ks : List Nat} {k : Nat} (hk : memb ks k = false) (b : Nat → Value) : ∀ l : List (Nat × Value), keysIn ks l = true → look l b k = b k
  | [], _ => rfl
  | (d, v) :: l, h => by
    have h' : cond (memb ks d) (keysIn ks l) false = true := h
    cases hm : memb ks d with
    | false => rw [hm] at h'; cases h'
    | true =>
      rw [hm] at h'
      have hne : Nat.beq d k = false := by
        cases hb : Nat.beq d k with
        | false => rfl
        | true => rw [Nat.eq_of_beq_eq_true hb] at hm; rw [hm] at hk; cases hk
      show cond (Nat.beq d k) v (look l b k) = b k
      rw [hne]
      exact look_out hk b l h'

theorem Out.refl (ks : List Nat) (f : Fr) : Out ks f f := fun _ _ => rfl
theorem Out.mk {ks : List Nat} {l : List (Nat × Value)} {h : Nat → Value} {f : Fr} (hl : keysIn ks l = true) : Out ks ⟨l, blur ks h f⟩ f := fun k hk => by
  show look l (blur ks h f) k = f.get k
  rw [look_out hk _ l hl]
  show cond (memb ks k) _ _ = _
  rw [hk]; rfl
/-- the frame has grown by entries alone -/
theorem Out.pre {ks : List Nat} {l l' : List (Nat × Value)} {b : Nat → Value} (hl : keysIn ks l = true) : Out ks ⟨l ++ l', b⟩ ⟨l', b⟩ := fun k hk => by
  show look (l ++ l') b k = look l' b k
  induction l with
  | nil => rfl
  | cons p l ih =>
    obtain ⟨d, v⟩ := p
    have h' : cond (memb ks d) (keysIn ks l) false = true := hl
    cases hm : memb ks d with
    | false => rw [hm] at h'; cases h'
    | true =>
      rw [hm] at h'
      have hne : Nat.beq d k = false := by
        cases hb : Nat.beq d k with
        | false => rfl
        | true => rw [Nat.eq_of_beq_eq_true hb] at hm; rw [hm] at hk; cases hk
      show cond (Nat.beq d k) v (look (l ++ l') b k) = look l' b k
      rw [hne]
      exact ih h'
theorem Out.in_ {ks ks' : List Nat} {l : List (Nat × Value)} {h : Nat → Value} {f f' : Fr} (hl : keysIn ks l = true) (hk : ks'.all (memb ks) = true) (ho : Out ks f f') : Out ks ⟨l, blur ks' h f⟩ f' := fun k hm => by
  show look l (blur ks' h f) k = f'.get k
  rw [look_out hm _ l hl]
  show cond (memb ks' k) _ _ = _
  have : memb ks' k = false := by
    cases hx : memb ks' k with
    | false => rfl
    | true =>
      exfalso
      have key : ∀ l : List Nat, l.all (memb ks) = true → memb l k = true → memb ks k = true := by
        intro l
        induction l with
        | nil => intro _ h; cases h
        | cons x l ih =>
          intro ha hm'
          rw [List.all_cons, Bool.and_eq_true] at ha
          have hm'' : cond (Nat.beq x k) true (memb l k) = true := hm'
          cases hb : Nat.beq x k with
          | true => rw [← Nat.eq_of_beq_eq_true hb]; exact ha.1
          | false => rw [hb] at hm''; exact ih ha.2 hm''
      rw [key ks' hk hx] at hm; cases hm
  rw [this]; exact ho k hm

theorem blur_same {ks : List Nat} {f f' : Fr} {l : List (Nat × Value)} (ho : Out ks f' f) (hs : Slots f' l) (k : Nat) : (Fr.mk l (blur ks f'.get f)).get k = f'.get k := by
  show look l (blur ks f'.get f) k = f'.get k
  induction l with
  | nil =>
    show cond (memb ks k) (f'.get k) (f.get k) = f'.get k
    cases hm : memb ks k with
    | true => rfl
    | false => exact (ho k hm).symm
  | cons p l ih =>
    obtain ⟨d, v⟩ := p
    show cond (Nat.beq d k) v (look l (blur ks f'.get f) k) = f'.get k
    cases hb : Nat.beq d k with
    | true => rw [← Nat.eq_of_beq_eq_true hb]; exact hs.1.symm
    | false => exact ih hs.2

/-- where a piece of code ends: the slots that are named hold what is named, those that are not in 'ks' are as in f -/
def cutQ {α : Type} (ks : List Nat) (F : α → List (Nat × Value)) (J : α → World → Prop) (ds : List Deferred) (f : Fr) : List Deferred → Fr → World → Prop :=
  fun ds' f' w' => ds' = ds ∧ ∃ σ, J σ w' ∧ Out ks f' f ∧ Slots f' (F σ)

theorem cut_enter {α : Type} {c : Code} {ks : List Nat} {F : α → List (Nat × Value)} {J : α → World → Prop} {f' : Fr} {ds' : List Deferred} {w' : World}
    (h : cutQ ks F J ds f ds' f' w') (hk : ∀ σ w h, J σ w → Wp ρ P N c Q ds ⟨F σ, blur ks h f⟩ w) : Wp ρ P N c Q ds' f' w' := by
  obtain ⟨rfl, σ, hJ, ho, hs⟩ := h
  exact fun a ha => hk σ w' f'.get hJ a (ha.same (blur_same ho hs))

theorem W_cut {α : Type} {x y : Code} (ks : List Nat) (F : α → List (Nat × Value)) (J : α → World → Prop)
    (h : Wp ρ P N x (thenQ (cutQ ks F J ds f) Q) ds f w) (hk : ∀ σ w h, J σ w → Wp ρ P N y Q ds ⟨F σ, blur ks h f⟩ w) : Wp ρ P N (.seq x y) Q ds f w :=
  W_seq (h.mono fun e ds' f' w' hq => by
    cases e <;> first | exact cut_enter hq hk | exact hq)

theorem least {p : Nat → Prop} (h : ∃ n, p n) : ∃ n, p n ∧ ∀ m, p m → n ≤ m := by
  obtain ⟨n, hn⟩ := h
  induction n using Nat.strongRecOn with
  | _ n ih =>
    by_cases hx : ∃ m, m < n ∧ p m
    · obtain ⟨m, hm, hp⟩ := hx
      exact ih m hm hp
    · refine ⟨n, hn, fun m hp => ?_⟩
      rcases Nat.lt_or_ge m n with h' | h'
      · exact absurd ⟨m, h', hp⟩ hx
      · exact h'

theorem W_loop {α : Type} {c : Code} (ks : List Nat) (F : α → List (Nat × Value)) (J : α → World → Prop) (μ : α → Nat)
    (h0 : cutQ ks F J ds f ds f w)
    (round : ∀ σ w h, J σ w → Wp ρ P N c (thenQ (cutQ ks F (fun σ' w' => J σ' w' ∧ μ σ' < μ σ) ds f) Q) ds ⟨F σ, blur ks h f⟩ w) : Wp ρ P N (.loop c) Q ds f w := by
  intro a ha
  obtain ⟨_, σ0, hJ0, ho0, hs0⟩ := h0
  obtain ⟨p, hp⟩ : ∃ p : Act → World → Nat → Prop, p = fun a w n => ∃ σ, μ σ = n ∧ J σ w ∧ ∃ f', Ag N ds f' a ∧ Out ks f' f ∧ Slots f' (F σ) := ⟨_, rfl⟩
  obtain ⟨m, hm⟩ : ∃ m : Act → World → Nat, ∀ a w, (∃ n, p a w n) → p a w (m a w) ∧ ∀ k, p a w k → m a w ≤ k := by
    refine ⟨fun a w => (Classical.epsilon fun n => p a w n ∧ ∀ k, p a w k → n ≤ k), fun a w h => ?_⟩
    exact Classical.epsilon_spec (least h)
  refine wpIn_loop (fun a w => ∃ n, p a w n) m ⟨μ σ0, by rw [hp]; exact ⟨σ0, rfl, hJ0, f, ha, ho0, hs0⟩⟩ ?_
  intro a w hI
  obtain ⟨hpm, _⟩ := hm a w hI
  have hpm' := hpm
  rw [hp] at hpm'
  obtain ⟨σ, hσ, hJ, f', hag, ho, hs⟩ := hpm'
  refine wpIn_mono (round σ w f'.get hJ a (hag.same (blur_same ho hs))) ?_
  rintro e a' w' ⟨ds', f2, h1, h2⟩
  cases e with
  | normal =>
    obtain ⟨rfl, σ', ⟨hJ', hlt⟩, ho', hs'⟩ := h2
    have hpn : p a' w' (μ σ') := by rw [hp]; exact ⟨σ', rfl, hJ', f2, h1, ho', hs'⟩
    refine ⟨⟨_, hpn⟩, ?_⟩
    have := (hm a' w' ⟨_, hpn⟩).2 _ hpn
    omega
  | _ => exact ⟨ds', f2, h1, h2⟩
end rules

/-! ### One operation -/

/-- operation 'op' carried out on frame f in world w hands back a value v and leaves a world w' of which K holds -/
def Exec (ρ : Option Nat) (P : Program) (op : Op) (ty : TypeId) (f : Fr) (w : World) (K : Value → World → Prop) : Prop :=
  ∀ (o : Oper) (N : Nat) (ds : List Deferred) (a : Act) (next : Act → World → Prop) (Q : Exit → Act → World → Prop), o.op = op → o.type = ty → Ag N ds f a →
    (∀ v w', K v w' → next (a.put o.dst v) w') → o.wpIn (FR ρ) 0 P a w next Q

theorem about_ok (ρ : Option Nat) (o : Oper) (w : World) (e : Operand → Value) (P : Program) : ∀ g, o.about P w e = some g → (FR ρ).fn g := fun _ _ => trivial

section exec
variable {ρ : Option Nat} {P : Program} {N : Nat} {op : Op} {ty : TypeId} {f : Fr} {w w' : World} {K : Value → World → Prop}

theorem Exec.mono {K' : Value → World → Prop} (h : Exec ρ P op ty f w K) (hk : ∀ v w', K v w' → K' v w') : Exec ρ P op ty f w K' :=
  fun o N ds a next Q ho ht ha hn => h o N ds a next Q ho ht ha fun v w' hv => hn v w' (hk v w' hv)

theorem semAt_of {o : Oper} (e : Operand → Value) (h : ∀ c, o.op ≠ .defer c) : o.semAt (FR ρ).round e = execOp e o := Oper.semAt_eq _ e o h

/-- an operation that hands back a value -/
theorem X_val (hnd : ∀ c, op ≠ .defer c) (v : Value) (hr : ∀ o : Oper, o.op = op → o.type = ty → (execOp (ev f) o).run P w = .ok (.value v) w') (h : K v w') : Exec ρ P op ty f w K := by
  intro o N ds a next Q ho ht ha hn
  refine ⟨about_ok ρ o w _ P, ?_⟩
  rw [semAt_of (ρ := ρ) (o := o) a.eval (by rw [ho]; exact hnd), ha.eval, hr o ho ht]
  exact hn _ _ h
/-- an operation that hands back nothing -/
theorem X_skip (hnd : ∀ c, op ≠ .defer c) (hr : ∀ o : Oper, o.op = op → o.type = ty → (execOp (ev f) o).run P w = .ok .skip w') (h : K undef w') : Exec ρ P op ty f w K := by
  intro o N ds a next Q ho ht ha hn
  refine ⟨about_ok ρ o w _ P, ?_⟩
  rw [semAt_of (ρ := ρ) (o := o) a.eval (by rw [ho]; exact hnd), ha.eval, hr o ho ht]
  exact hn _ _ h
/-- a call of a Go function with a body -/
theorem X_enter {g : FuncId} {args : Array Value} {w1 : World} (hnd : ∀ c, op ≠ .defer c) (hr : ∀ o : Oper, o.op = op → o.type = ty → (execOp (ev f) o).run P w = .ok (.enter g args) w1)
    (h : Calls P g args w1 fun e w' => ∃ v, e = .returned v ∧ K v w') : Exec ρ P op ty f w K := by
  intro o N ds a next Q ho ht ha hn
  refine ⟨about_ok ρ o w _ P, ?_⟩
  rw [semAt_of (ρ := ρ) (o := o) a.eval (by rw [ho]; exact hnd), ha.eval, hr o ho ht]
  refine ⟨fun hd => (by cases hd), ?_⟩
  have hc : CallsIn Fence.wide 0 P g args w1 fun e w' => ∃ v, e = .returned v ∧ K v w' := callsIn_wide.2 h
  exact CallsIn.mono (show CallsIn (FR ρ) (0 - 1) P g args w1 _ from hc) fun e w' ⟨v, he, hv⟩ => by subst he; exact hn _ _ hv
end exec

/-! ### A list of operations -/

def L (ρ : Option Nat) (P : Program) (N : Nat) (ops : Array Oper) (Q : Post) (l : List Oper) (ds : List Deferred) (f : Fr) (w : World) : Prop :=
  ∀ a, Ag N ds f a → wpListIn (FR ρ) 0 P ops (lift N Q) l a w

section lists
variable {ρ : Option Nat} {P : Program} {N : Nat} {ops : Array Oper} {Q : Post} {rest : List Oper} {ds : List Deferred} {f : Fr} {w : World}
variable {d : Nat} {op : Op} {ty : TypeId} {pos : String} {after : Array Edge}

theorem W_reg {id : Nat} {l : List Oper} (h : L ρ P N l.toArray Q l ds f w) : Wp ρ P N (.region id l.toArray false) Q ds f w :=
  fun a ha => wpIn_region_lit (h a ha)

theorem L_nil (h : Q .normal ds f w) : L ρ P N ops Q [] ds f w := fun _ ha => ⟨ds, f, ha, h⟩

theorem wanted_none {o : Oper} (h : o.guard = none) (y : Nat → Option Bool) : Region.wanted o y = true := by simp [Region.wanted, h]

/-- the next operation, without a guard -/
theorem L_op (hd : Nat.blt d N = true) (h : Exec ρ P op ty f w fun v w' => L ρ P N ops Q rest ds (f.put d v) w') : L ρ P N ops Q (⟨some d, op, ty, pos, after, none⟩ :: rest) ds f w := by
  intro a ha
  unfold wpListIn
  rw [if_pos (wanted_none rfl _)]
  exact h _ N ds a _ _ rfl rfl ha fun v w' hv => hv _ (ha.put hd v)
theorem L_op0 (h : Exec ρ P op ty f w fun _ w' => L ρ P N ops Q rest ds f w') : L ρ P N ops Q (⟨none, op, ty, pos, after, none⟩ :: rest) ds f w := by
  intro a ha
  unfold wpListIn
  rw [if_pos (wanted_none rfl _)]
  exact h _ N ds a _ _ rfl rfl ha fun v w' hv => hv _ ha

theorem wanted_some {o : Oper} {j dj : Nat} {b t : Bool} (hg : o.guard = some (j, b)) {a : Act} (ha : Ag N ds f a) (hj : (ops[j]?).bind (·.dst) = some dj) (hv : f.get dj = .bool t) :
    Region.wanted o (yielded ops a.tmps) = (t == b) := by
  simp only [Region.wanted, hg]
  rw [ha.yielded hj, hv]
  cases t <;> cases b <;> rfl
theorem wanted_undef {o : Oper} {j dj : Nat} {b : Bool} (hg : o.guard = some (j, b)) {a : Act} (ha : Ag N ds f a) (hj : (ops[j]?).bind (·.dst) = some dj) (hv : f.get dj = undef) :
    Region.wanted o (yielded ops a.tmps) = false := by
  simp only [Region.wanted, hg]
  rw [ha.yielded hj, hv]
  cases b <;> rfl

/-- the next operation, its guard says yes -/
theorem L_gy {j dj : Nat} {b : Bool} (hj : (ops[j]?).bind (·.dst) = some dj) (hv : f.get dj = .bool b) (hd : Nat.blt d N = true)
    (h : Exec ρ P op ty f w fun v w' => L ρ P N ops Q rest ds (f.put d v) w') : L ρ P N ops Q (⟨some d, op, ty, pos, after, some (j, b)⟩ :: rest) ds f w := by
  intro a ha
  unfold wpListIn
  rw [if_pos (by rw [wanted_some rfl ha hj hv]; simp)]
  exact h _ N ds a _ _ rfl rfl ha fun v w' hv => hv _ (ha.put hd v)
theorem L_gy0 {j dj : Nat} {b : Bool} (hj : (ops[j]?).bind (·.dst) = some dj) (hv : f.get dj = .bool b)
    (h : Exec ρ P op ty f w fun _ w' => L ρ P N ops Q rest ds f w') : L ρ P N ops Q (⟨none, op, ty, pos, after, some (j, b)⟩ :: rest) ds f w := by
  intro a ha
  unfold wpListIn
  rw [if_pos (by rw [wanted_some rfl ha hj hv]; simp)]
  exact h _ N ds a _ _ rfl rfl ha fun v w' hv => hv _ ha
/-- its guard says no -/
theorem L_gn {j dj : Nat} {b t : Bool} (hj : (ops[j]?).bind (·.dst) = some dj) (hv : f.get dj = .bool t) (hb : (t == b) = false) (hd : Nat.blt d N = true)
    (h : L ρ P N ops Q rest ds (f.put d undef) w) : L ρ P N ops Q (⟨some d, op, ty, pos, after, some (j, b)⟩ :: rest) ds f w := by
  intro a ha
  unfold wpListIn
  rw [if_neg (by rw [wanted_some rfl ha hj hv, hb]; simp)]
  exact ⟨about_ok ρ _ w _ P, h _ (ha.put hd undef)⟩
theorem L_gn0 {j dj : Nat} {b t : Bool} (hj : (ops[j]?).bind (·.dst) = some dj) (hv : f.get dj = .bool t) (hb : (t == b) = false)
    (h : L ρ P N ops Q rest ds f w) : L ρ P N ops Q (⟨none, op, ty, pos, after, some (j, b)⟩ :: rest) ds f w := by
  intro a ha
  unfold wpListIn
  rw [if_neg (by rw [wanted_some rfl ha hj hv, hb]; simp)]
  exact ⟨about_ok ρ _ w _ P, h _ ha⟩
/-- the operation that its guard asks was passed over itself -/
theorem L_gu {j dj : Nat} {b : Bool} (hj : (ops[j]?).bind (·.dst) = some dj) (hv : f.get dj = undef) (hd : Nat.blt d N = true)
    (h : L ρ P N ops Q rest ds (f.put d undef) w) : L ρ P N ops Q (⟨some d, op, ty, pos, after, some (j, b)⟩ :: rest) ds f w := by
  intro a ha
  unfold wpListIn
  rw [if_neg (by rw [wanted_undef rfl ha hj hv]; simp)]
  exact ⟨about_ok ρ _ w _ P, h _ (ha.put hd undef)⟩
end lists

/-! ### What a step may change -/

structure Upd (D : Nat → Prop) (w w' : World) : Prop where
  os : w'.os = w.os
  tape : w'.tape = w.tape
  output : w'.output = w.output
  size : w.heap.size ≤ w'.heap.size
  blk : ∀ b, b < w.heap.size → ¬ D b → w'.heap[b]? = w.heap[b]?

abbrev Ext (w w' : World) : Prop := Upd (fun _ => False) w w'

theorem Upd.refl (D : Nat → Prop) (w : World) : Upd D w w := ⟨rfl, rfl, rfl, Nat.le_refl _, fun _ _ _ => rfl⟩
theorem Upd.trans {D : Nat → Prop} {a b c : World} (h : Upd D a b) (k : Upd D b c) : Upd D a c :=
  ⟨k.os.trans h.os, k.tape.trans h.tape, k.output.trans h.output, Nat.le_trans h.size k.size, fun i hi hd => (k.blk i (Nat.lt_of_lt_of_le hi h.size) hd).trans (h.blk i hi hd)⟩
theorem Upd.mono {D D' : Nat → Prop} {a b : World} (h : Upd D a b) (hd : ∀ i, i < a.heap.size → D i → D' i) : Upd D' a b :=
  ⟨h.os, h.tape, h.output, h.size, fun i hi hn => h.blk i hi fun hx => hn (hd i hi hx)⟩
/-- one step behind another, each with its own blocks -/
theorem Upd.comp {D D1 D2 : Nat → Prop} {a b c : World} (h : Upd D1 a b) (k : Upd D2 b c) (h1 : ∀ i, i < a.heap.size → D1 i → D i) (h2 : ∀ i, i < a.heap.size → D2 i → D i) : Upd D a c :=
  ⟨k.os.trans h.os, k.tape.trans h.tape, k.output.trans h.output, Nat.le_trans h.size k.size, fun i hi hd =>
    (k.blk i (Nat.lt_of_lt_of_le hi h.size) fun hx => hd (h2 i hi hx)).trans (h.blk i hi fun hx => hd (h1 i hi hx))⟩
theorem Ext.upd {D : Nat → Prop} {a b : World} (h : Ext a b) : Upd D a b := h.mono fun _ _ hx => hx.elim
theorem Upd.heap {D : Nat → Prop} {a b b' : World} (h : Upd D a b) (he : b'.heap = b.heap) (ho : b'.os = b.os) (ht : b'.tape = b.tape) (hp : b'.output = b.output) : Upd D a b' :=
  ⟨ho.trans h.os, ht.trans h.tape, hp.trans h.output, by rw [he]; exact h.size, fun i hi hd => by rw [he]; exact h.blk i hi hd⟩
theorem Upd.drew (D : Nat → Prop) (w : World) : Upd D w { w with drawn := w.drawn + 1 } := ⟨rfl, rfl, rfl, Nat.le_refl _, fun _ _ _ => rfl⟩

/-! ### A region that draws its order: every operation ahead of the tail only grows the memory -/

inductive Ent where
  | det (v : (Nat → Value) → Value)
  | abs (p : (Nat → Value) → Value → World → Prop)
  | no

def Ent.val : Ent → (Nat → Value) → Nat → Value
  | .det v, val, _ => v val
  | .abs _, val, i => val i
  | .no, _, _ => undef

def Ent.holds : Ent → (Nat → Value) → Value → World → Prop
  | .det v, val, x, _ => x = v val
  | .abs p, val, x, W => p val x W
  | .no, _, x, _ => x = undef

/-- an entry looks at what stands ahead of it alone, and what it says abides growth -/
def Ent.ok (e : Ent) (pre : List Nat) : Prop :=
  (∀ val val' : Nat → Value, (∀ j, memb pre j = true → val j = val' j) → match e with | .det v => v val = v val' | .abs p => p val = p val' | .no => True) ∧
  (∀ val x W W', Ext W W' → match e with | .abs p => p val x W → p val x W' | _ => True)

abbrev Env := List (Nat × Option Nat × Ent)

/-- the frame that the operation with the predecessors 'pre' may look at -/
def envF (pre : List Nat) (val : Nat → Value) : Env → List (Nat × Value)
  | [] => []
  | (j, some d, e) :: Γ => cond (memb pre j) ((d, e.val val j) :: envF pre val Γ) (envF pre val Γ)
  | (_, none, _) :: Γ => envF pre val Γ

/-- what is known of its predecessors -/
def envH (pre : List Nat) (val : Nat → Value) (W : World) : Env → Prop
  | [] => True
  | (j, _, .abs p) :: Γ => cond (memb pre j) (p val (val j) W ∧ envH pre val W Γ) (envH pre val W Γ)
  | (_, _, .det _) :: Γ => envH pre val W Γ
  | (_, _, .no) :: Γ => envH pre val W Γ

def dstsOf : List Oper → List Nat
  | [] => []
  | o :: l => match o.dst with | some d => d :: dstsOf l | none => dstsOf l

def GuardYes (l : List Oper) (g : Option (Nat × Bool)) (f : Fr) : Prop :=
  match g with
  | none => True
  | some (j, b) => ∃ dj, (l[j]?).bind (·.dst) = some dj ∧ f.get dj = .bool b
def GuardNo (l : List Oper) (g : Option (Nat × Bool)) (f : Fr) : Prop :=
  match g with
  | none => False
  | some (j, b) => ∃ dj, (l[j]?).bind (·.dst) = some dj ∧ (f.get dj = .bool (!b) ∨ f.get dj = undef)

section draw
variable (ρ : Option Nat) (P : Program) (l : List Oper) (pre : List (List Nat)) (bd : List Nat) (f0 : Fr) (w0 : World)

def hop (o : Oper) (e : Ent) (f : Fr) (val : Nat → Value) (W : World) : Prop :=
  match e with
  | .no => GuardNo l o.guard f
  | .det v => GuardYes l o.guard f ∧ Exec ρ P o.op o.type f W fun x W' => Ext W W' ∧ x = v val
  | .abs p => GuardYes l o.guard f ∧ Exec ρ P o.op o.type f W fun x W' => Ext W W' ∧ p val x W'

/-- the operations of the prefix, one after the other, in the order of the text: each is met in whatever world has grown out of the first one, on a frame of which it sees its predecessors' slots and what stood ahead of the region -/
def DSeq (K : Env → Prop) : Nat → List Oper → Env → Prop
  | _, [], Γ => K Γ
  | k, o :: rest, Γ => ∃ e : Ent, e.ok (pre.getD k []) ∧
      (∀ val h W, Ext w0 W → envH (pre.getD k []) val W Γ → hop ρ P l o e ⟨envF (pre.getD k []) val Γ, blur bd h f0⟩ val W) ∧
      DSeq K (k + 1) rest ((k, o.dst, e) :: Γ)
end draw

/-- the edges that bind, and the list of all predecessors as a certificate -/
def edgesOf (o : Oper) : List Nat := (o.after.toList.filter (Region.binds .any)).map (·.on)

def preOkAt (pre : List (List Nat)) (es : List Nat) (ps : List Nat) : Bool :=
  ps.all fun j => memb es j || es.any fun k => memb (pre.getD k []) j

def nodupB : List Nat → Bool
  | [] => true
  | x :: l => cond (memb l x) false (nodupB l)

/-- the check on a region: edges go back; the lists of predecessors are made of the edges and of the predecessors' lists; from m on every operation has all others ahead of it; no slot of the prefix is written twice -/
def regOk (N : Nat) (l : List Oper) (pre : List (List Nat)) (m : Nat) : Bool :=
  (l.zipIdx.all fun (o, i) => (edgesOf o).all (fun j => Nat.blt j i) && preOkAt pre (edgesOf o) (pre.getD i []) && (Nat.blt i m || (List.range i).all (memb (pre.getD i [])))) &&
  Nat.ble m l.length && nodupB (dstsOf (l.take m)) && (dstsOf l).all (fun d => Nat.blt d N)

section drawproof
variable {ρ : Option Nat} {P : Program} {l : List Oper} {pre : List (List Nat)} {bd : List Nat} {f0 : Fr} {w0 : World}

def mkEnv (dst : Nat → Option Nat) (E : Nat → Ent) : Nat → Env
  | 0 => []
  | k + 1 => (k, dst k, E k) :: mkEnv dst E k

theorem mkEnv_congr {dst : Nat → Option Nat} {E E' : Nat → Ent} : ∀ k, (∀ i, i < k → E i = E' i) → mkEnv dst E k = mkEnv dst E' k
  | 0, _ => rfl
  | k + 1, h => by
    show (k, dst k, E k) :: mkEnv dst E k = (k, dst k, E' k) :: mkEnv dst E' k
    rw [h k (by omega), mkEnv_congr k fun i hi => h i (by omega)]

def dstAt (l : List Oper) (k : Nat) : Option Nat := (l[k]?).bind (·.dst)

theorem dseq_out {K : Env → Prop} : ∀ (rest : List Oper) (k : Nat) (E0 : Nat → Ent), (∀ i, i < rest.length → l[k + i]? = rest[i]?) → DSeq ρ P l pre bd f0 w0 K k rest (mkEnv (dstAt l) E0 k) →
    ∃ E : Nat → Ent, (∀ i, i < k → E i = E0 i) ∧
      (∀ i o, k ≤ i → i < k + rest.length → l[i]? = some o → (E i).ok (pre.getD i []) ∧
        ∀ val h W, Ext w0 W → envH (pre.getD i []) val W (mkEnv (dstAt l) E i) → hop ρ P l o (E i) ⟨envF (pre.getD i []) val (mkEnv (dstAt l) E i), blur bd h f0⟩ val W) ∧
      K (mkEnv (dstAt l) E (k + rest.length)) := by
  intro rest
  induction rest with
  | nil => exact fun k E0 _ h => ⟨E0, fun _ _ => rfl, fun i o h1 h2 _ => by simp at h2; omega, h⟩
  | cons o rest ih =>
    intro k E0 hl h
    obtain ⟨e, hok, hhop, hrest⟩ := h
    obtain ⟨E1, hE1⟩ : ∃ E1 : Nat → Ent, E1 = fun i => if i = k then e else E0 i := ⟨_, rfl⟩
    have hk : E1 k = e := by rw [hE1]; simp
    have hlt : ∀ i, i < k → E1 i = E0 i := fun i hi => by rw [hE1]; simp; omega
    have h0 : l[k]? = some o := by have := hl 0 (by simp); simpa using this
    have henv : mkEnv (dstAt l) E1 (k + 1) = (k, o.dst, e) :: mkEnv (dstAt l) E0 k := by
      show (k, dstAt l k, E1 k) :: mkEnv (dstAt l) E1 k = _
      rw [hk, mkEnv_congr k hlt]
      have : dstAt l k = o.dst := by simp [dstAt, h0]
      rw [this]
    rw [← henv] at hrest
    obtain ⟨E, ha, hb, hc⟩ := ih (k + 1) E1 (fun i hi => by have := hl (i + 1) (by simp; omega); simpa [Nat.add_assoc, Nat.add_comm 1 i] using this) hrest
    have hEk : E k = e := (ha k (by omega)).trans hk
    have hElt : ∀ i, i < k → E i = E0 i := fun i hi => (ha i (by omega)).trans (hlt i hi)
    refine ⟨E, hElt, ?_, ?_⟩
    · intro i o' h1 h2 ho'
      by_cases hik : i = k
      · subst hik
        rw [h0] at ho'
        cases ho'
        rw [hEk, mkEnv_congr i hElt]
        exact ⟨hok, hhop⟩
      · exact hb i o' (by omega) (by simp at h2; omega) ho'
    · rw [show k + (o :: rest).length = k + 1 + rest.length by simp; omega]
      exact hc

theorem envF_hit {dst : Nat → Option Nat} {E : Nat → Ent} {ps : List Nat} {val : Nat → Value} {b : Nat → Value} {s j : Nat} :
    ∀ k, j < k → memb ps j = true → dst j = some s → (∀ i, i < k → dst i = some s → i = j) → look (envF ps val (mkEnv dst E k)) b s = (E j).val val j
  | 0, h, _, _, _ => by omega
  | k + 1, h, hm, hd, hu => by
    show look (envF ps val ((k, dst k, E k) :: mkEnv dst E k)) b s = _
    by_cases hjk : j = k
    · subst hjk
      rw [hd]
      show look (cond (memb ps j) ((s, (E j).val val j) :: _) _) b s = _
      rw [hm]
      show cond (Nat.beq s s) _ _ = _
      have : Nat.beq s s = true := Nat.beq_refl s
      rw [this]; rfl
    · have ih := envF_hit (dst := dst) (E := E) (ps := ps) (val := val) (b := b) k (by omega) hm hd fun i hi => hu i (by omega)
      cases hk : dst k with
      | none => exact ih
      | some d =>
        have hne : d ≠ s := fun e => by subst e; exact hjk (hu k (by omega) hk).symm
        show look (cond (memb ps k) ((d, _) :: envF ps val (mkEnv dst E k)) (envF ps val (mkEnv dst E k))) b s = _
        cases memb ps k with
        | false => exact ih
        | true =>
          show cond (Nat.beq d s) _ _ = _
          have : Nat.beq d s = false := by
            cases hb : Nat.beq d s with
            | false => rfl
            | true => exact absurd (Nat.eq_of_beq_eq_true hb) hne
          rw [this]; exact ih

theorem envF_miss {dst : Nat → Option Nat} {E : Nat → Ent} {ps : List Nat} {val : Nat → Value} {b : Nat → Value} {s : Nat} :
    ∀ k, (∀ i, i < k → memb ps i = true → dst i ≠ some s) → look (envF ps val (mkEnv dst E k)) b s = b s
  | 0, _ => rfl
  | k + 1, hu => by
    show look (envF ps val ((k, dst k, E k) :: mkEnv dst E k)) b s = _
    have ih := envF_miss (dst := dst) (E := E) (ps := ps) (val := val) (b := b) k fun i hi => hu i (by omega)
    cases hk : dst k with
    | none => exact ih
    | some d =>
      show look (cond (memb ps k) ((d, _) :: envF ps val (mkEnv dst E k)) (envF ps val (mkEnv dst E k))) b s = _
      cases hm : memb ps k with
      | false => exact ih
      | true =>
        have hne : d ≠ s := fun e => by subst e; exact hu k (by omega) hm hk
        show cond (Nat.beq d s) _ _ = _
        have : Nat.beq d s = false := by
          cases hb : Nat.beq d s with
          | false => rfl
          | true => exact absurd (Nat.eq_of_beq_eq_true hb) hne
        rw [this]; exact ih

def Ent.know (e : Ent) (val : Nat → Value) (j : Nat) (W : World) : Prop :=
  match e with
  | .abs p => p val (val j) W
  | _ => True

theorem envH_of {dst : Nat → Option Nat} {E : Nat → Ent} {ps : List Nat} {val : Nat → Value} {W : World} :
    ∀ k, (∀ i, i < k → memb ps i = true → (E i).know val i W) → envH ps val W (mkEnv dst E k)
  | 0, _ => trivial
  | k + 1, hu => by
    have ih := envH_of (dst := dst) (E := E) (ps := ps) (val := val) (W := W) k fun i hi => hu i (by omega)
    have hk := hu k (by omega)
    show envH ps val W ((k, dst k, E k) :: mkEnv dst E k)
    cases he : E k with
    | det v => exact ih
    | no => exact ih
    | abs p =>
      show cond (memb ps k) (p val (val k) W ∧ _) _
      cases hm : memb ps k with
      | false => exact ih
      | true =>
        have := hk hm
        rw [he] at this
        exact ⟨this, ih⟩
end drawproof

section drawmain
variable {ρ : Option Nat} {P : Program} {N : Nat} {Q : Post} {ds : List Deferred} {l : List Oper} {pre : List (List Nat)} {m : Nat} {f0 : Fr} {w0 : World}

theorem memb_iff {k : Nat} : ∀ {ks : List Nat}, memb ks k = true ↔ k ∈ ks
  | [] => by simp [memb]
  | x :: l => by
    show cond (Nat.beq x k) true (memb l k) = true ↔ _
    cases hb : Nat.beq x k with
    | true => have := Nat.eq_of_beq_eq_true hb; subst this; simp
    | false =>
      have hne : x ≠ k := fun e => by subst e; have : Nat.beq x x = true := Nat.beq_refl x; rw [this] at hb; cases hb
      have ih := @memb_iff k l
      simp only [cond_false, ih, List.mem_cons]
      exact ⟨fun h => .inr h, fun h => h.resolve_left fun e => hne e.symm⟩

structure RegOk (N : Nat) (l : List Oper) (pre : List (List Nat)) (m : Nat) : Prop where
  le : m ≤ l.length
  back : ∀ (i : Nat) (o : Oper), l[i]? = some o → ∀ j ∈ edgesOf o, j < i
  cert : ∀ (i : Nat) (o : Oper), l[i]? = some o → ∀ j ∈ pre.getD i [], j ∈ edgesOf o ∨ ∃ k ∈ edgesOf o, j ∈ pre.getD k []
  tail : ∀ i, i < l.length → m ≤ i → ∀ j, j < i → j ∈ pre.getD i []
  nodup : (dstsOf (l.take m)).Nodup
  bound : ∀ (i d : Nat), dstAt l i = some d → Nat.blt d N = true

theorem nodup_of : ∀ {ks : List Nat}, nodupB ks = true → ks.Nodup
  | [], _ => List.nodup_nil
  | x :: l, h => by
    have h' : cond (memb l x) false (nodupB l) = true := h
    cases hm : memb l x with
    | true => rw [hm] at h'; cases h'
    | false =>
      rw [hm] at h'
      exact List.nodup_cons.2 ⟨fun hx => (by rw [memb_iff.2 hx] at hm; cases hm), nodup_of h'⟩

theorem dstsOf_mem {d : Nat} : ∀ {l : List Oper}, d ∈ dstsOf l ↔ ∃ i, dstAt l i = some d
  | [] => by simp [dstsOf, dstAt]
  | o :: l => by
    have ih := @dstsOf_mem d l
    constructor
    · intro h
      cases ho : o.dst with
      | none =>
        have h' : d ∈ dstsOf l := by simpa [dstsOf, ho] using h
        obtain ⟨i, hi⟩ := ih.1 h'
        exact ⟨i + 1, by simpa [dstAt] using hi⟩
      | some e =>
        have h' : d = e ∨ d ∈ dstsOf l := by simpa [dstsOf, ho] using h
        rcases h' with rfl | h'
        · exact ⟨0, by simp [dstAt, ho]⟩
        · obtain ⟨i, hi⟩ := ih.1 h'
          exact ⟨i + 1, by simpa [dstAt] using hi⟩
    · rintro ⟨i, hi⟩
      cases i with
      | zero =>
        have : o.dst = some d := by simpa [dstAt] using hi
        simp [dstsOf, this]
      | succ i =>
        have h' : d ∈ dstsOf l := ih.2 ⟨i, by simpa [dstAt] using hi⟩
        cases ho : o.dst <;> simp [dstsOf, ho, h']

theorem dst_inj : ∀ {l : List Oper}, (dstsOf l).Nodup → ∀ {i j d : Nat}, dstAt l i = some d → dstAt l j = some d → i = j
  | [], _, i, _, _, h, _ => by simp [dstAt] at h
  | o :: l, hn, i, j, d, hi, hj => by
    have hn' : (dstsOf l).Nodup := by
      cases ho : o.dst with
      | none => simpa [dstsOf, ho] using hn
      | some e => have : (e :: dstsOf l).Nodup := by simpa [dstsOf, ho] using hn
                  exact (List.nodup_cons.1 this).2
    have hx : ∀ k, o.dst = some d → dstAt l k = some d → False := fun k ho hk => by
      have : (d :: dstsOf l).Nodup := by simpa [dstsOf, ho] using hn
      exact (List.nodup_cons.1 this).1 (dstsOf_mem.2 ⟨k, hk⟩)
    cases i with
    | zero =>
      cases j with
      | zero => rfl
      | succ j => exact (hx j (by simpa [dstAt] using hi) (by simpa [dstAt] using hj)).elim
    | succ i =>
      cases j with
      | zero => exact (hx i (by simpa [dstAt] using hj) (by simpa [dstAt] using hi)).elim
      | succ j => rw [dst_inj hn' (i := i) (j := j) (d := d) (by simpa [dstAt] using hi) (by simpa [dstAt] using hj)]

theorem dstAt_take {i : Nat} (h : i < m) : dstAt (l.take m) i = dstAt l i := by simp [dstAt, h]

theorem regOk_of (h : regOk N l pre m = true) : RegOk N l pre m := by
  unfold regOk at h
  simp only [Bool.and_eq_true] at h
  obtain ⟨⟨⟨h1, h2⟩, h3⟩, h4⟩ := h
  rw [List.all_eq_true] at h1 h4
  have key : ∀ (i : Nat) (o : Oper), l[i]? = some o → (edgesOf o).all (fun j => Nat.blt j i) = true ∧ preOkAt pre (edgesOf o) (pre.getD i []) = true ∧ (Nat.blt i m = true ∨ (List.range i).all (memb (pre.getD i [])) = true) := fun i o ho => by
    have hx := h1 (o, i) (by rw [List.mem_zipIdx_iff_getElem?]; exact ho)
    simp only [Bool.and_eq_true, Bool.or_eq_true] at hx
    exact ⟨hx.1.1, hx.1.2, hx.2⟩
  refine ⟨Nat.le_of_ble_eq_true h2, ?_, ?_, ?_, nodup_of h3, ?_⟩
  · intro i o ho j hj
    have := List.all_eq_true.1 (key i o ho).1 j hj
    exact Nat.le_of_ble_eq_true this
  · intro i o ho j hj
    have := List.all_eq_true.1 (key i o ho).2.1 j hj
    simp only [Bool.or_eq_true] at this
    rcases this with h | h
    · exact .inl (memb_iff.1 h)
    · obtain ⟨k, hk, hm⟩ := List.any_eq_true.1 h
      exact .inr ⟨k, hk, memb_iff.1 hm⟩
  · intro i hi hmi j hj
    rcases (key i l[i] (List.getElem?_eq_getElem hi)).2.2 with h | h
    · have := Nat.le_of_ble_eq_true h; omega
    · exact memb_iff.1 (List.all_eq_true.1 h j (List.mem_range.2 hj))
  · intro i d hd
    exact h4 d (dstsOf_mem.2 ⟨i, hd⟩)

/-- what has been carried out -/
def Lst (listed : Array Bool) (j : Nat) : Prop := listed.getD j false = true

structure Done (l : List Oper) (listed : Array Bool) : Prop where
  size : listed.size = l.length
  closed : ∀ (i : Nat) (o : Oper), Lst listed i → l[i]? = some o → ∀ j ∈ edgesOf o, Lst listed j

theorem ready_iff {listed : Array Bool} (hs : listed.size = l.length) {i : Nat} : i ∈ Region.ready .any l.toArray listed ↔ i < l.length ∧ ¬ Lst listed i ∧ ∀ o, l[i]? = some o → ∀ j ∈ edgesOf o, Lst listed j := by
  unfold Region.ready Lst
  rw [List.mem_filter]
  simp only [List.size_toArray, List.mem_range, Bool.and_eq_true, Bool.not_eq_true', List.getElem?_toArray]
  constructor
  · rintro ⟨hi, h1, h2⟩
    have hi' : i < listed.size := by omega
    refine ⟨hi, ?_, ?_⟩
    · simp only [Array.getD_eq_getD_getElem?, Array.getElem?_eq_getElem hi', Option.getD_some] at h1 ⊢
      rw [h1]; simp
    · intro o ho j hj
      rw [ho] at h2
      simp only [Option.map_some, Option.getD_some] at h2
      obtain ⟨e, he, rfl⟩ := List.mem_map.1 hj
      have hb := (List.mem_filter.1 he).2
      rw [Array.all_eq_true'] at h2
      have := h2 e (by simpa using (List.mem_filter.1 he).1)
      rw [hb] at this
      simpa using this
  · rintro ⟨hi, h1, h2⟩
    have hi' : i < listed.size := by omega
    refine ⟨hi, ?_, ?_⟩
    · simp only [Array.getD_eq_getD_getElem?, Array.getElem?_eq_getElem hi', Option.getD_some] at h1 ⊢
      simpa using h1
    · rw [List.getElem?_eq_getElem hi]
      simp only [Option.map_some, Option.getD_some]
      rw [Array.all_eq_true']
      intro e he
      cases hb : Region.binds .any e with
      | false => rfl
      | true =>
        have := h2 _ (List.getElem?_eq_getElem hi) e.on (List.mem_map.2 ⟨e, List.mem_filter.2 ⟨by simpa using he, hb⟩, rfl⟩)
        simpa using this

theorem lst_set {listed : Array Bool} {i j : Nat} (hi : i < listed.size) : Lst (listed.setIfInBounds i true) j ↔ (j = i ∨ Lst listed j) := by
  unfold Lst
  by_cases e : j = i
  · subst e; simp [Array.getD_eq_getD_getElem?, hi]
  · simp [Array.getD_eq_getD_getElem?, Array.getElem?_setIfInBounds_ne (Ne.symm e), e]

theorem Done.set {listed : Array Bool} (h : Done l listed) {i : Nat} (hr : i ∈ Region.ready .any l.toArray listed) : Done l (listed.setIfInBounds i true) := by
  obtain ⟨hi, _, he⟩ := (ready_iff h.size).1 hr
  have hi' : i < listed.size := by rw [h.size]; exact hi
  refine ⟨by simp [h.size], fun k o hk ho j hj => (lst_set hi').2 ?_⟩
  rcases (lst_set hi').1 hk with rfl | hk
  · exact .inr (he o ho j hj)
  · exact .inr (h.closed k o hk ho j hj)

theorem Done.preds {listed : Array Bool} (h : Done l listed) (hc : RegOk N l pre m) : ∀ (i : Nat) (o : Oper), l[i]? = some o → (∀ j ∈ edgesOf o, Lst listed j) → ∀ j ∈ pre.getD i [], Lst listed j := by
  intro i
  induction i using Nat.strongRecOn with
  | _ i ih =>
    intro o ho he j hj
    rcases hc.cert i o ho j hj with hj | ⟨k, hk, hj⟩
    · exact he j hj
    · have hki := hc.back i o ho k hk
      have hkl : k < l.length := by have := (List.getElem?_eq_some_iff.1 ho).1; omega
      exact ih k hki l[k] (List.getElem?_eq_getElem hkl) (fun j hj => h.closed k _ (he k hk) (List.getElem?_eq_getElem hkl) j hj) j hj

/-- where nothing is ready all is done -/
theorem Done.all {listed : Array Bool} (h : Done l listed) (hc : RegOk N l pre m) (hr : Region.ready .any l.toArray listed = []) : ∀ i, i < l.length → Lst listed i := by
  intro i
  induction i using Nat.strongRecOn with
  | _ i ih =>
    intro hi
    by_cases hx : Lst listed i
    · exact hx
    · have : i ∈ Region.ready .any l.toArray listed := (ready_iff h.size).2 ⟨hi, hx, fun o ho j hj => ih j (hc.back i o ho j hj) (by have := hc.back i o ho j hj; omega)⟩
      rw [hr] at this; cases this

def left (n : Nat) (listed : Array Bool) : Nat := (List.range n).countP fun i => !listed.getD i false

theorem left_set {listed : Array Bool} {i : Nat} (hi : i < listed.size) (hx : ¬ Lst listed i) : ∀ n, i < n → left n (listed.setIfInBounds i true) + 1 = left n listed := by
  have hsame : ∀ n, n ≤ i → left n (listed.setIfInBounds i true) = left n listed := by
    intro n hn
    unfold left
    refine List.countP_congr fun j hj => ?_
    have hj' : j ≠ i := by have := List.mem_range.1 hj; omega
    simp [Array.getD_eq_getD_getElem?, Array.getElem?_setIfInBounds_ne (Ne.symm hj')]
  intro n
  induction n with
  | zero => intro h; omega
  | succ n ih =>
    intro hn
    have e : ∀ L : Array Bool, left (n + 1) L = left n L + (if (!L.getD n false) = true then 1 else 0) := fun L => by
      unfold left; rw [List.range_succ, List.countP_append]; simp
    rw [e, e]
    by_cases hin : i = n
    · subst hin
      rw [hsame i (Nat.le_refl _)]
      have h1 : (listed.setIfInBounds i true).getD i false = true := by simp [Array.getD_eq_getD_getElem?, hi]
      have h2 : listed.getD i false = false := by unfold Lst at hx; simpa using hx
      rw [h1, h2]; simp
    · have h3 : (listed.setIfInBounds i true).getD n false = listed.getD n false := by
        simp [Array.getD_eq_getD_getElem?, Array.getElem?_setIfInBounds_ne hin]
      rw [h3]
      have := ih (by omega)
      omega

/-- the frame in the course of the region's prefix -/
structure Phase (l : List Oper) (m : Nat) (E : Nat → Ent) (f0 : Fr) (listed : Array Bool) (f : Fr) (val : Nat → Value) (W : World) : Prop where
  slot : ∀ j d, j < m → Lst listed j → dstAt l j = some d → f.get d = (E j).val val j
  know : ∀ j, j < m → Lst listed j → (E j).know val j W
  rest : ∀ s, (∀ j, j < m → Lst listed j → dstAt l j ≠ some s) → f.get s = f0.get s
  none : ∀ j, m ≤ j → ¬ Lst listed j
end drawmain

section drawlast
variable {ρ : Option Nat} {P : Program} {N : Nat} {Q : Post} {ds : List Deferred} {l : List Oper} {pre : List (List Nat)} {bd : List Nat} {m : Nat} {f0 : Fr} {w0 : World} {E : Nat → Ent}

theorem look_append (l1 l2 : List (Nat × Value)) (b : Nat → Value) (s : Nat) : look (l1 ++ l2) b s = look l1 (look l2 b) s := by
  induction l1 with
  | nil => rfl
  | cons p l1 ih =>
    obtain ⟨d, v⟩ := p
    show cond (Nat.beq d s) v (look (l1 ++ l2) b s) = cond (Nat.beq d s) v _
    rw [ih]

theorem dst_uniq (hc : RegOk N l pre m) {i j s : Nat} (hi : i < m) (hj : j < m) (h1 : dstAt l i = some s) (h2 : dstAt l j = some s) : i = j :=
  dst_inj hc.nodup (i := i) (j := j) (d := s) ((dstAt_take hi).trans h1) ((dstAt_take hj).trans h2)

theorem Ag.guardYes {f : Fr} {a : Act} (ha : Ag N ds f a) {o : Oper} (h : GuardYes l o.guard f) : Region.wanted o (Go.yielded l.toArray a.tmps) = true := by
  cases hg : o.guard with
  | none => exact wanted_none hg _
  | some p =>
    obtain ⟨j, b⟩ := p
    rw [hg] at h
    obtain ⟨dj, hj, hv⟩ := h
    rw [wanted_some (ops := l.toArray) hg ha (by simpa using hj) hv]
    simp
theorem Ag.guardNo {f : Fr} {a : Act} (ha : Ag N ds f a) {o : Oper} (h : GuardNo l o.guard f) : Region.wanted o (Go.yielded l.toArray a.tmps) = false := by
  cases hg : o.guard with
  | none => rw [hg] at h; exact h.elim
  | some p =>
    obtain ⟨j, b⟩ := p
    rw [hg] at h
    obtain ⟨dj, hj, hv | hv⟩ := h
    · rw [wanted_some (ops := l.toArray) hg ha (by simpa using hj) hv]
      cases b <;> rfl
    · exact wanted_undef (ops := l.toArray) hg ha (by simpa using hj) hv

def DInv (ρ : Option Nat) (P : Program) (N : Nat) (Q : Post) (ds : List Deferred) (l : List Oper) (m : Nat) (f0 : Fr) (w0 : World) (E : Nat → Ent) (listed : Array Bool) (a : Act) (W : World) : Prop :=
  Done l listed ∧
    ((Ext w0 W ∧ ∃ f val, Ag N ds f a ∧ Phase l m E f0 listed f val W) ∨
     (∃ p, m ≤ p ∧ p ≤ l.length ∧ (∀ j, Lst listed j ↔ j < p) ∧ wpListIn (FR ρ) 0 P l.toArray (lift N Q) (l.drop p) a W))

theorem Phase.tail {listed : Array Bool} {f : Fr} {val : Nat → Value} {W : World} {a : Act} (hc : RegOk N l pre m) (hp : Phase l m E f0 listed f val W) (ha : Ag N ds f a) (hw : Ext w0 W)
    (hK : ∀ val W, Ext w0 W → envH (List.range m) val W (mkEnv (dstAt l) E m) → L ρ P N l.toArray Q (l.drop m) ds ⟨envF (List.range m) val (mkEnv (dstAt l) E m) ++ f0.l, f0.b⟩ W)
    (hall : ∀ j, j < m → Lst listed j) : wpListIn (FR ρ) 0 P l.toArray (lift N Q) (l.drop m) a W := by
  refine hK val W hw (envH_of m fun i hi _ => hp.know i hi (hall i hi)) a (ha.same fun s => ?_)
  show look (envF (List.range m) val (mkEnv (dstAt l) E m) ++ f0.l) f0.b s = f.get s
  rw [look_append]
  by_cases hx : ∃ j, j < m ∧ dstAt l j = some s
  · obtain ⟨j, hj, hd⟩ := hx
    rw [envF_hit m hj (memb_iff.2 (List.mem_range.2 hj)) hd fun i hi h => dst_uniq hc hi hj h hd]
    exact (hp.slot j s hj (hall j hj) hd).symm
  · rw [envF_miss m fun i hi _ h => hx ⟨i, hi, h⟩]
    exact (hp.rest s fun j hj _ h => hx ⟨j, hj, h⟩).symm

theorem mem_drop_head {i : Nat} (h : i < l.length) : l.drop i = l[i] :: l.drop (i + 1) := List.drop_eq_getElem_cons h

theorem DInv.end_ {listed : Array Bool} {a : Act} {W : World} (hc : RegOk N l pre m) (hi : DInv ρ P N Q ds l m f0 w0 E listed a W)
    (hK : ∀ val W, Ext w0 W → envH (List.range m) val W (mkEnv (dstAt l) E m) → L ρ P N l.toArray Q (l.drop m) ds ⟨envF (List.range m) val (mkEnv (dstAt l) E m) ++ f0.l, f0.b⟩ W)
    (hr : Region.ready .any l.toArray listed = []) : lift N Q .normal a W := by
  obtain ⟨hd, h | ⟨p, hm, hp, hl, h⟩⟩ := hi
  · obtain ⟨hw, f, val, ha, hph⟩ := h
    have hall := hd.all hc hr
    have hml : m = l.length := by
      rcases Nat.lt_or_ge m l.length with h' | h'
      · exact absurd (hall m h') (hph.none m (Nat.le_refl _))
      · have := hc.le; omega
    have h1 := hph.tail hc ha hw hK fun j hj => hall j (by omega)
    rw [hml, List.drop_length] at h1
    exact h1
  · have hall := hd.all hc hr
    have hpl : p = l.length := by
      rcases Nat.lt_or_ge p l.length with h' | h'
      · have := (hl p).1 (hall p h'); omega
      · omega
    rw [hpl, List.drop_length] at h
    exact h

theorem DInv.step {listed : Array Bool} {a : Act} {W : World} {i : Nat} (hbd : ∀ j d, j < m → dstAt l j = some d → memb bd d = true) (hc : RegOk N l pre m) (hi : DInv ρ P N Q ds l m f0 w0 E listed a W)
    (hE : ∀ i o, i < m → l[i]? = some o → (E i).ok (pre.getD i []) ∧
      ∀ val h W, Ext w0 W → envH (pre.getD i []) val W (mkEnv (dstAt l) E i) → hop ρ P l o (E i) ⟨envF (pre.getD i []) val (mkEnv (dstAt l) E i), blur bd h f0⟩ val W)
    (hK : ∀ val W, Ext w0 W → envH (List.range m) val W (mkEnv (dstAt l) E m) → L ρ P N l.toArray Q (l.drop m) ds ⟨envF (List.range m) val (mkEnv (dstAt l) E m) ++ f0.l, f0.b⟩ W)
    (hr : i ∈ Region.ready .any l.toArray listed) :
    wpOpIn (FR ρ) 0 P l.toArray (lift N Q) i (DInv ρ P N Q ds l m f0 w0 E (listed.setIfInBounds i true)) a W := by
  obtain ⟨hd, hcase⟩ := hi
  obtain ⟨hil, hun, hedge⟩ := (ready_iff hd.size).1 hr
  have his : i < listed.size := by rw [hd.size]; exact hil
  have hset := hd.set hr
  have ho : l[i]? = some l[i] := List.getElem?_eq_getElem hil
  have hopre : ∀ j ∈ pre.getD i [], Lst listed j := hd.preds hc i _ ho (hedge _ ho)
  generalize l[i] = o at ho
  have hops : (l.toArray)[i]? = some o := by simpa using ho
  -- the tail
  have tailstep : wpListIn (FR ρ) 0 P l.toArray (lift N Q) (l.drop i) a W → (∀ j, Lst listed j ↔ j < i) → m ≤ i →
      wpOpIn (FR ρ) 0 P l.toArray (lift N Q) i (DInv ρ P N Q ds l m f0 w0 E (listed.setIfInBounds i true)) a W := by
    intro h hl hmi
    have hoo : l[i] = o := by rw [List.getElem?_eq_getElem hil] at ho; exact Option.some.inj ho
    rw [mem_drop_head hil, hoo] at h
    unfold wpListIn at h
    refine wpOpIn_mono (K := fun a' W' => wpListIn (FR ρ) 0 P l.toArray (lift N Q) (l.drop (i + 1)) a' W') (fun a' W' h' => ⟨hset, .inr ⟨i + 1, by omega, by omega, fun j => ?_, h'⟩⟩) ?_
    · rw [lst_set his, hl]; omega
    · unfold wpOpIn
      rw [hops]
      exact h
  by_cases him : i < m
  · -- in the prefix
    rcases hcase with ⟨hw, f, val, ha, hph⟩ | ⟨p, hmp, _, hl, _⟩
    case inr => exact absurd ((hl i).2 (by omega)) hun
    obtain ⟨hok, hhop⟩ := hE i o him ho
    have hag : Ag N ds ⟨envF (pre.getD i []) val (mkEnv (dstAt l) E i), blur bd f.get f0⟩ a := ha.same fun s => by
      show look (envF (pre.getD i []) val (mkEnv (dstAt l) E i)) (blur bd f.get f0) s = f.get s
      by_cases hx : ∃ j, j < i ∧ memb (pre.getD i []) j = true ∧ dstAt l j = some s
      · obtain ⟨j, hj, hjm, hds⟩ := hx
        rw [envF_hit i hj hjm hds fun k hk h => dst_uniq hc (by omega) (by omega) h hds]
        exact (hph.slot j s (by omega) (hopre j (memb_iff.1 hjm)) hds).symm
      · rw [envF_miss i fun k hk hkm h => hx ⟨k, hk, hkm, h⟩]
        show cond (memb bd s) (f.get s) (f0.get s) = f.get s
        cases hms : memb bd s with
        | true => rfl
        | false => exact (hph.rest s fun j hj _ h => by rw [hbd j s hj h] at hms; cases hms).symm
    have hh := hhop val f.get W hw (envH_of i fun j hj hjm => hph.know j (by omega) (hopre j (memb_iff.1 hjm)))
    have hdo : dstAt l i = o.dst := by simp [dstAt, ho]
    have hput : ∀ x, Ag N ds (f.puto o.dst x) (a.put o.dst x) := fun x => ha.puto (fun k hk => hc.bound i k (hdo.trans hk)) x
    -- what is known behind the operation
    have after : ∀ (x : Value) (W' : World) (val' : Nat → Value), Ext W W' → (∀ j, j ≠ i → val' j = val j) → (E i).val val' i = x ∨ o.dst = none → (E i).know val' i W' →
        DInv ρ P N Q ds l m f0 w0 E (listed.setIfInBounds i true) (a.put o.dst x) W' := by
      intro x W' val' hx hval hvx hkn
      have hsame : ∀ j, j < m → Lst listed j → (E j).val val' j = (E j).val val j ∧ ((E j).know val j W' → (E j).know val' j W') := by
        intro j hj hlj
        have hji : j ≠ i := fun e => by subst e; exact hun hlj
        obtain ⟨oj, hoj⟩ : ∃ oj, l[j]? = some oj := ⟨_, List.getElem?_eq_getElem (by have := hc.le; omega)⟩
        have hprej := hd.preds hc j oj hoj (hd.closed j oj hlj hoj)
        have hi' := ((hE j oj hj hoj).1).1 val' val fun k hk => hval k fun e => by subst e; exact hun (hprej k (memb_iff.1 hk))
        cases he : E j with
        | det v => rw [he] at hi'; exact ⟨hi', fun h => h⟩
        | no => exact ⟨rfl, fun h => h⟩
        | abs p =>
          rw [he] at hi'
          refine ⟨hval j hji, fun h => ?_⟩
          show p val' (val' j) W'
          have hi'' : p val' = p val := hi'
          rw [hi'', hval j hji]; exact h
      have hmono : ∀ j, j < m → Lst listed j → (E j).know val j W → (E j).know val j W' := by
        intro j hj hlj h
        obtain ⟨oj, hoj⟩ : ∃ oj, l[j]? = some oj := ⟨_, List.getElem?_eq_getElem (by have := hc.le; omega)⟩
        have hm' := ((hE j oj hj hoj).1).2 val (val j) W W' hx
        cases he : E j with
        | det v => trivial
        | no => trivial
        | abs p => rw [he] at hm' h; exact hm' h
      refine ⟨hset, .inl ⟨hw.trans hx, f.puto o.dst x, val', hput x, ?_, ?_, ?_, ?_⟩⟩
      · intro j d hj hlj0 hdj
        rcases (lst_set his).1 hlj0 with rfl | hlj
        · rw [hdo] at hdj
          rw [hdj]
          rcases hvx with h | h
          · rw [h]; exact Fr.get_put_same _ _ _
          · rw [h] at hdj; cases hdj
        · have hji : j ≠ i := fun e => by subst e; exact hun hlj
          rw [(hsame j hj hlj).1, ← hph.slot j d hj hlj hdj]
          cases hod : o.dst with
          | none => rfl
          | some e => exact Fr.get_put_ne _ _ fun h => hji (dst_uniq hc hj him hdj (by rw [hdo, hod, h]))
      · intro j hj hlj0
        rcases (lst_set his).1 hlj0 with rfl | hlj
        · exact hkn
        · exact (hsame j hj hlj).2 (hmono j hj hlj (hph.know j hj hlj))
      · intro s hs
        have h1 : f.get s = f0.get s := hph.rest s fun j hj hlj => hs j hj ((lst_set his).2 (.inr hlj))
        rw [← h1]
        cases hod : o.dst with
        | none => rfl
        | some e => exact Fr.get_put_ne _ _ fun h => hs i him ((lst_set his).2 (.inl rfl)) (by rw [hdo, hod, h])
      · intro j hj hlj0
        rcases (lst_set his).1 hlj0 with rfl | hlj
        · omega
        · exact hph.none j hj hlj
    unfold wpOpIn
    rw [hops]
    cases he : E i with
    | no =>
      rw [he] at hh
      have hg : Region.wanted o (Go.yielded l.toArray a.tmps) = false := hag.guardNo hh
      simp only [hg]
      exact ⟨about_ok ρ o W _ P, after undef W val (Upd.refl _ _) (fun _ _ => rfl) (.inl (by rw [he]; rfl)) (by rw [he]; trivial)⟩
    | det v =>
      rw [he] at hh
      have hg : Region.wanted o (Go.yielded l.toArray a.tmps) = true := hag.guardYes hh.1
      simp only [hg, if_true]
      exact hh.2 o N ds a _ _ rfl rfl hag fun x W' hx => after x W' val hx.1 (fun _ _ => rfl) (.inl (by rw [he]; exact hx.2.symm)) (by rw [he]; trivial)
    | abs p =>
      rw [he] at hh
      have hg : Region.wanted o (Go.yielded l.toArray a.tmps) = true := hag.guardYes hh.1
      simp only [hg, if_true]
      refine hh.2 o N ds a _ _ rfl rfl hag fun x W' hx => ?_
      obtain ⟨val', hv'⟩ : ∃ val' : Nat → Value, val' = fun j => if j = i then x else val j := ⟨_, rfl⟩
      have hvi : val' i = x := by rw [hv']; simp
      have hvj : ∀ j, j ≠ i → val' j = val j := fun j hj => by rw [hv']; simp [hj]
      have hi' := hok.1 val' val fun k hk => hvj k fun e => by subst e; exact hun (hopre k (memb_iff.1 hk))
      rw [he] at hi'
      have hpp : p val' = p val := hi'
      exact after x W' val' hx.1 hvj (.inl (by rw [he]; exact hvi)) (by rw [he]; show p val' (val' i) W'; rw [hpp, hvi]; exact hx.2)
  · -- in the tail
    have htail := hc.tail i hil (by omega)
    have hall : ∀ j, j < i → Lst listed j := fun j hj => hopre j (htail j hj)
    rcases hcase with ⟨hw, f, val, ha, hph⟩ | ⟨p, hmp, hpl, hl, h⟩
    · have him' : i = m := by
        rcases Nat.lt_or_ge m i with h' | h'
        · exact absurd (hall m h') (hph.none m (Nat.le_refl _))
        · omega
      have hl : ∀ j, Lst listed j ↔ j < i := fun j => ⟨fun h => by
        rcases Nat.lt_or_ge j i with h' | h'
        · exact h'
        · exact absurd h (hph.none j (by omega)), hall j⟩
      have h1 := hph.tail hc ha hw hK fun j hj => hall j (by omega)
      rw [← him'] at h1
      exact tailstep h1 hl (by omega)
    · have hip : p = i := by
        rcases Nat.lt_trichotomy p i with h' | h' | h'
        · have := (hl p).1 (hall p h'); omega
        · exact h'
        · exact absurd ((hl i).2 h') hun
      subst hip
      exact tailstep h hl (by omega)

theorem DInv.any (hbd : ∀ j d, j < m → dstAt l j = some d → memb bd d = true) (hc : RegOk N l pre m)
    (hE : ∀ i o, i < m → l[i]? = some o → (E i).ok (pre.getD i []) ∧
      ∀ val h W, Ext w0 W → envH (pre.getD i []) val W (mkEnv (dstAt l) E i) → hop ρ P l o (E i) ⟨envF (pre.getD i []) val (mkEnv (dstAt l) E i), blur bd h f0⟩ val W)
    (hK : ∀ val W, Ext w0 W → envH (List.range m) val W (mkEnv (dstAt l) E m) → L ρ P N l.toArray Q (l.drop m) ds ⟨envF (List.range m) val (mkEnv (dstAt l) E m) ++ f0.l, f0.b⟩ W) :
    ∀ (fuel : Nat) (listed : Array Bool) (a : Act) (W : World), left l.length listed = fuel → DInv ρ P N Q ds l m f0 w0 E listed a W → wpAnyIn (FR ρ) 0 P .any l.toArray (lift N Q) fuel listed a W := by
  intro fuel
  induction fuel with
  | zero =>
    intro listed a W hf hi
    have hnil : Region.ready .any l.toArray listed = [] := by
      rw [List.eq_nil_iff_forall_not_mem]
      intro i hr
      obtain ⟨hil, hun, _⟩ := (ready_iff hi.1.size).1 hr
      have := left_set (by rw [hi.1.size]; exact hil) hun l.length hil
      omega
    exact ⟨hnil, hi.end_ hc hK hnil⟩
  | succ fuel ih =>
    intro listed a W hf hi
    refine ⟨fun hr => hi.end_ hc hK hr, fun i hr => ?_⟩
    obtain ⟨hil, hun, _⟩ := (ready_iff hi.1.size).1 hr
    have := left_set (by rw [hi.1.size]; exact hil) hun l.length hil
    exact wpOpIn_mono (fun a' W' h => ih _ a' W' (by omega) h) (hi.step hbd hc hE hK hr)

/-- **A REGION THAT DRAWS ITS ORDER.** -/
theorem W_draw {id : Nat} {f : Fr} {w : World} (m : Nat) (pre : List (List Nat)) (hm : P.follows .mixedOrders = true) (hc : regOk N l pre m = true)
    (h : DSeq ρ P l pre (dstsOf (l.take m)) f { w with drawn := w.drawn + 1 } (fun Γ => ∀ val W, Ext { w with drawn := w.drawn + 1 } W → envH (List.range m) val W Γ → L ρ P N l.toArray Q (l.drop m) ds ⟨envF (List.range m) val Γ ++ f.l, f.b⟩ W) 0 (l.take m) []) :
    Wp ρ P N (.region id l.toArray true) Q ds f w := by
  intro a ha
  have hc := regOk_of hc
  have hlen : (l.take m).length = m := by rw [List.length_take]; have := hc.le; omega
  obtain ⟨E, _, hE, hK⟩ := dseq_out (l.take m) 0 (fun _ => .no) (fun i hi => by
    rw [hlen] at hi
    rw [List.getElem?_take, if_pos hi, Nat.zero_add]) h
  rw [Nat.zero_add, hlen] at hK
  refine wpIn_region_any hm ?_
  have hs : (l.toArray).size = l.length := by simp
  rw [hs]
  refine DInv.any (w0 := { w with drawn := w.drawn + 1 }) (f0 := f) (E := E) (bd := dstsOf (l.take m)) (fun j d hj hd => memb_iff.2 (dstsOf_mem.2 ⟨j, by unfold dstAt at hd ⊢; rw [List.getElem?_take_of_lt hj]; exact hd⟩)) hc (fun i o hi ho => hE i o (Nat.zero_le _) (by rw [hlen]; omega) ho) hK l.length _ a _ ?_ ?_
  · unfold left
    rw [List.countP_eq_length.2]
    · simp
    · intro i hi
      have := List.mem_range.1 hi
      simp [Array.getD_eq_getD_getElem?, this]
  · have hno : ∀ j, ¬ Lst (Array.replicate l.length false) j := by
      intro j hj
      unfold Lst at hj
      rw [Array.getD_eq_getD_getElem?, Array.getElem?_replicate] at hj
      split at hj <;> simp at hj
    exact ⟨⟨by simp, fun i o hi => (hno i hi).elim⟩, .inl ⟨Upd.refl _ _, f, fun _ => undef, ha, ⟨fun j d _ hj => (hno j hj).elim, fun j _ hj => (hno j hj).elim, fun _ _ => rfl, fun j _ => hno j⟩⟩⟩
end drawlast

/-! ### Functions -/

/-- called with these values function g hands back a value of which R holds -/
def CT (P : Program) (g : FuncId) (args : Array Value) (w : World) (R : Value → World → Prop) : Prop :=
  Calls P g args w fun e w' => ∃ v, e = .returned v ∧ R v w'

theorem CT.mono {P : Program} {g : FuncId} {args : Array Value} {w : World} {R R' : Value → World → Prop} (h : CT P g args w R) (hr : ∀ v w', R v w' → R' v w') : CT P g args w R' :=
  Calls.mono h fun _ _ ⟨v, he, hv⟩ => ⟨v, he, hr _ _ hv⟩

def frArgs : List Value → Nat → List (Nat × Value)
  | [], _ => []
  | v :: l, i => (i, v) :: frArgs l (i + 1)

theorem look_frArgs (b : Nat → Value) : ∀ (l : List Value) (i k : Nat), look (frArgs l i) b k = if i ≤ k ∧ k < i + l.length then (l[k - i]?).getD undef else b k
  | [], i, k => by simp [frArgs, look]; omega
  | v :: l, i, k => by
    show cond (Nat.beq i k) v (look (frArgs l (i + 1)) b k) = _
    cases hb : Nat.beq i k with
    | true =>
      have := Nat.eq_of_beq_eq_true hb
      subst this
      simp
    | false =>
      have hne : i ≠ k := fun e => by subst e; have : Nat.beq i i = true := Nat.beq_refl i; rw [this] at hb; cases hb
      show look (frArgs l (i + 1)) b k = _
      rw [look_frArgs b l (i + 1) k]
      by_cases h : i + 1 ≤ k ∧ k < i + 1 + l.length
      · rw [if_pos h, if_pos (by simp; omega)]
        have : k - i = (k - (i + 1)) + 1 := by omega
        rw [this]; simp
      · rw [if_neg h, if_neg (by simp; omega)]

/-- what the function's body must come to -/
def End (P : Program) (fn : Func) (R : Value → World → Prop) (ds : List Deferred) (f : Fr) (w : World) : Prop :=
  ∀ N a, Ag N ds f a → LeavesInM Fence.wide 0 P fn a.tmps (fun e w' => ∃ v, e = .returned v ∧ R v w') ds .returning w

def BQ (P : Program) (fn : Func) (R : Value → World → Prop) : Post := fun e ds f w =>
  match e with
  | .normal => End P fn R ds f w
  | .ret => End P fn R ds f w
  | _ => False

section functions
variable {P : Program} {N : Nat} {g : FuncId} {fn : Func} {c : Code} {R : Value → World → Prop} {ds : List Deferred} {f : Fr} {w : World}

theorem BQ_n (h : End P fn R ds f w) : BQ P fn R .normal ds f w := h
theorem BQ_r (h : End P fn R ds f w) : BQ P fn R .ret ds f w := h

/-- a function's contract from its body -/
theorem CT_of {l : List Value} (hf : P.funcs[g]? = some fn) (hb : fn.body = some c) (hn : fn.ntmps = N) (hl : Nat.ble l.length N = true)
    (h : Wp none P N c (BQ P fn R) [] ⟨frArgs l 0, fun _ => undef⟩ w) : CT P g l.toArray w R := by
  have hl := Nat.le_of_ble_eq_true hl
  refine callsIn_wide (n := 0) |>.1 (callsIn_of_wp_marks hf hb trivial ?_ rfl)
  have hag : Ag N [] ⟨frArgs l 0, fun _ => undef⟩ { tmps := l.toArray ++ Array.replicate (fn.ntmps - l.toArray.size) undef, defers := [] } := by
    refine ⟨by simp [hn]; omega, fun k => ?_, rfl⟩
    show _ = look (frArgs l 0) (fun _ => undef) k
    rw [look_frArgs]
    simp only [Array.getD_eq_getD_getElem?, Array.getElem?_append, List.size_toArray, List.getElem?_toArray, Array.getElem?_replicate]
    by_cases hk : k < l.length
    · simp [hk]
    · simp [hk]; split <;> rfl
  refine wpIn_mono (h _ hag) ?_
  rintro e a' w' ⟨ds', f', hag', hq⟩
  cases e with
  | normal => rw [← hag'.ds] at hq; exact hq N a' (by rw [hag'.ds]; exact hag')
  | ret => rw [← hag'.ds] at hq; exact hq N a' (by rw [hag'.ds]; exact hag')
  | exit id => exact hq.elim
  | goto l => exact hq.elim
  | panic ch => exact hq.elim
  | outgrown => exact hq.elim

/-- a result: a temporary, or what stands in a variable's cells -/
def RV (P : Program) (f : Fr) (w : World) : ResultVar → Value → Prop
  | .tmp t, v => f.get t = v
  | .cell a t, v => ∃ p, f.get a = .pointer (some p) ∧ (loadVar t p).run P w = .ok v w

def rvSem (tmps : Array Value) : ResultVar → Sem Value
  | .tmp t => pure (tmps.getD t undef)
  | .cell a t => do loadVar t (← asAddr (tmps.getD a undef))

theorem results_eq (fn : Func) (tmps : Array Value) : results fn tmps = (do
    let vs ← fn.results.mapM (rvSem tmps)
    pure (if h : vs.size = 1 then vs[0] else .tuple vs)) := rfl

theorem rv_run {a : Act} (ha : Ag N ds f a) {r : ResultVar} {v : Value} (h : RV P f w r v) : (rvSem a.tmps r).run P w = .ok v w := by
  cases r with
  | tmp t => have h' : f.get t = v := h; simp only [rvSem, ha.get t, h', Sem.run_pure]
  | cell x t =>
    obtain ⟨p, hp, hr⟩ := h
    simp only [rvSem, ha.get x, hp, asAddr, Sem.run_bind, Sem.run_pure, Result.andThen_ok]
    exact hr

theorem End_0 (hr : fn.results = #[]) (hR : R (.tuple #[]) w) : End P fn R [] f w := fun N a _ =>
  ⟨.tuple #[], by simp [results, hr], _, rfl, hR⟩
theorem End_1 {r : ResultVar} {v : Value} (hr : fn.results = #[r]) (h : RV P f w r v) (hR : R v w) : End P fn R [] f w := fun N a ha =>
  ⟨v, by
    rw [results_eq, hr]
    simp only [Sem.run_bind, List.mapM_toArray, List.mapM_cons, List.mapM_nil, rv_run ha h, Result.andThen_ok, Sem.run_map, Sem.run_pure]
    rfl, v, rfl, hR⟩
theorem End_2 {r1 r2 : ResultVar} {v1 v2 : Value} (hr : fn.results = #[r1, r2]) (h1 : RV P f w r1 v1) (h2 : RV P f w r2 v2) (hR : R (.tuple #[v1, v2]) w) : End P fn R [] f w := fun N a ha =>
  ⟨.tuple #[v1, v2], by
    rw [results_eq, hr]
    simp only [Sem.run_bind, List.mapM_toArray, List.mapM_cons, List.mapM_nil, rv_run ha h1, rv_run ha h2, Result.andThen_ok, Sem.run_map, Sem.run_pure]
    rfl, _, rfl, hR⟩
theorem End_3 {r1 r2 r3 : ResultVar} {v1 v2 v3 : Value} (hr : fn.results = #[r1, r2, r3]) (h1 : RV P f w r1 v1) (h2 : RV P f w r2 v2) (h3 : RV P f w r3 v3) (hR : R (.tuple #[v1, v2, v3]) w) : End P fn R [] f w := fun N a ha =>
  ⟨.tuple #[v1, v2, v3], by
    rw [results_eq, hr]
    simp only [Sem.run_bind, List.mapM_toArray, List.mapM_cons, List.mapM_nil, rv_run ha h1, rv_run ha h2, rv_run ha h3, Result.andThen_ok, Sem.run_map, Sem.run_pure]
    rfl, _, rfl, hR⟩

def mark (D : Nat) : Deferred := { target := .collected D, args := #[] }

/-- the function has gone over an iterator: the block for its rounds' deferred calls is shut -/
theorem End_m {D : Nat} (h : w.heap[D]? = some (.deferred (some []))) (k : ∀ w', Upd (fun b => b = D) w w' → End P fn R ds f w') : End P fn R (mark D :: ds) f w := by
  intro N a ha
  refine ⟨by simp, .inl ⟨D, _, rfl, run_takeDeferred h, ?_⟩⟩
  refine k (w.putObj D (.deferred none)) ⟨rfl, rfl, rfl, by simp, fun b hb hd => World.putObj_heap_other hd⟩ N { a with defers := ds } ⟨ha.size, ha.get, rfl⟩
end functions

/-! ### Calls -/

section calls
variable {ρ : Option Nat} {P : Program} {ty : TypeId} {f : Fr} {w : World} {K : Value → World → Prop}

theorem run_call_value {ev : Operand → Value} {x : Operand} {as : List Operand} {ats : Array TypeId} {fnv : Fn} {cap : Array Value} {o : Oper}
    (ho : o.op = .call { callee := .value x, args := as.toArray, argTypes := ats }) (hx : ev x = .func fnv #[] cap) :
    (execOp ev o).run P w = (invoke (.fn fnv cap) (as.map ev).toArray).run P w := by
  unfold execOp
  rw [ho]
  simp only [Sem.run_bind, resolve, hx, Deferred.ofValue, Sem.run_pure, Result.andThen_ok, List.map_toArray]
  simp

/-- a call of a Go function that is named outright -/
theorem X_fn {g : FuncId} {as : List Operand} {ats : Array TypeId} {vs : List Value} (eg : ∀ args w, (callFunc g args).run P w = .ok (.enter g args) w) (hv : as.map (ev f) = vs)
    (h : CT P g vs.toArray w K) : Exec ρ P (.call { callee := .value (.func g), args := as.toArray, argTypes := ats }) ty f w K := by
  refine X_enter (g := g) (args := vs.toArray) (w1 := w) (fun _ => by simp) (fun o ho _ => ?_) h
  rw [run_call_value (x := .func g) ho rfl]
  subst hv
  simp only [invoke, Array.append_empty]
  exact eg _ _
/-- a call of a closure whose value is known -/
theorem X_cl {g : FuncId} {x : Operand} {cap : List Value} {as : List Operand} {ats : Array TypeId} {vs : List Value} (eg : ∀ args w, (callFunc g args).run P w = .ok (.enter g args) w)
    (hx : ev f x = .func (.func g) #[] cap.toArray) (hv : as.map (ev f) = vs) (h : CT P g (vs ++ cap).toArray w K) : Exec ρ P (.call { callee := .value x, args := as.toArray, argTypes := ats }) ty f w K := by
  refine X_enter (g := g) (args := (vs ++ cap).toArray) (w1 := w) (fun _ => by simp) (fun o ho _ => ?_) h
  rw [run_call_value (x := x) ho hx]
  subst hv
  simp only [invoke, List.append_toArray]
  exact eg _ _

/-- a call of yield: what the round that it runs comes to -/
def YieldC (P : Program) (l : Nat) (args : Array Value) (w : World) (R : Value → World → Prop) : Prop :=
  ∃ fn tmps assign body, (Instr.yield l args).run P w = .ok (.round l fn tmps assign body) w ∧ RoundIn Fence.wide 0 P l fn tmps assign body w fun e w' => ∃ v, e = .returned v ∧ R v w'

theorem YieldC.mono {l : Nat} {args : Array Value} {R R' : Value → World → Prop} (h : YieldC P l args w R) (hr : ∀ v w', R v w' → R' v w') : YieldC P l args w R' := by
  obtain ⟨fn, tmps, assign, body, h1, h2⟩ := h
  exact ⟨fn, tmps, assign, body, h1, h2.mono fun _ _ ⟨v, he, hv⟩ => ⟨v, he, hr _ _ hv⟩⟩

theorem X_yield {l : Nat} {x : Operand} {as : List Operand} {ats : Array TypeId} {vs : List Value} (hx : ev f x = .func (.yield l) #[] #[]) (hv : as.map (ev f) = vs)
    (h : YieldC P l vs.toArray w K) : Exec ρ P (.call { callee := .value x, args := as.toArray, argTypes := ats }) ty f w K := by
  obtain ⟨fn, tmps, assign, body, hy, hr⟩ := h
  intro o N ds a next Q ho ht ha hn
  refine ⟨about_ok ρ o w _ P, ?_⟩
  rw [semAt_of (ρ := ρ) (o := o) a.eval (by rw [ho]; simp), ha.eval, run_call_value (x := x) ho hx]
  subst hv
  simp only [invoke, hy]
  refine ⟨fun hd => (by cases hd), ?_⟩
  exact RoundIn.mono (show RoundIn (FR ρ) (0 - 1) P l fn tmps assign body w _ from hr) fun e w' ⟨v, he, hv⟩ => by subst he; exact hn _ _ hv
end calls

/-! ### A range over a function -/

/-- **AN ITERATOR**: called with a function 'yield' it hands on xs, one after the other, as long as yield says so. It leans on the blocks 'Dep' as they stood in w0 (a round turns none of them: 'Db'), it turns the blocks 'Di' alone (and lays new ones). -/
def IterC (P : Program) (gf : FuncId) (lb : List Value) (xs : List (List Value)) (w0 : World) (Dep Di : Nat → Prop) : Prop :=
  ∀ (l : Nat) (J Jx : Nat → World → Prop) (W : World) (Db : Nat → Prop), Upd (fun b => ¬ Dep b) w0 W → (∀ b, Db b → ¬ Dep b) →
    (∀ k W1 W2, J k W1 → Upd Di W1 W2 → J k W2) → (∀ k W1 W2, Jx k W1 → Upd Di W1 W2 → Jx k W2) →
    (∀ k x W1, xs[k]? = some x → J k W1 → YieldC P l x.toArray W1 fun v W' => (v = .bool true ∧ J (k + 1) W' ∧ Upd Db W1 W') ∨ (v = .bool false ∧ Jx k W')) →
    J 0 W → CT P gf (.func (.yield l) #[] #[] :: lb).toArray W fun _ W' => J xs.length W' ∨ ∃ k, k < xs.length ∧ Jx k W'

def putAll (f : Fr) : List Nat → List Value → Fr
  | p :: ps, v :: vs => putAll (f.put p v) ps vs
  | _, _ => f

theorem Ag.putAll {N : Nat} {ds : List Deferred} : ∀ (ps : List Nat) (vs : List Value) {f : Fr} {tmps : Array Value}, ps.all (fun p => Nat.blt p N) = true → Ag N ds f { tmps := tmps, defers := ds } →
    Ag N ds (putAll f ps vs) { tmps := (ps.zip vs).foldl (fun t (p, v) => t.setIfInBounds p v) tmps, defers := ds }
  | [], _, _, _, _, h => h
  | _ :: _, [], _, _, _, h => h
  | p :: ps, v :: vs, f, tmps, hb, h => by
    rw [List.all_cons, Bool.and_eq_true] at hb
    exact Ag.putAll ps vs hb.2 (h.put hb.1 v)

/-- how the body of a round is left -/
def roundQ (Db : Nat → Prop) (W : World) (I : World → Prop) (Ix : Exit → World → Prop) : Post := fun e _ _ W' =>
  match e with
  | .normal => Upd Db W W' ∧ I W'
  | .ret => Upd Db W W' ∧ Ix .ret W'
  | .exit id => Upd Db W W' ∧ Ix (.exit id) W'
  | _ => False

section rq
variable {Db : Nat → Prop} {W W' : World} {I : World → Prop} {Ix : Exit → World → Prop} {ds : List Deferred} {f : Fr}
theorem RQ_n (h : Upd Db W W') (hi : I W') : roundQ Db W I Ix .normal ds f W' := ⟨h, hi⟩
theorem RQ_r (h : Upd Db W W') (hi : Ix .ret W') : roundQ Db W I Ix .ret ds f W' := ⟨h, hi⟩
theorem RQ_e {id : Nat} (h : Upd Db W W') (hi : Ix (.exit id) W') : roundQ Db W I Ix (.exit id) ds f W' := ⟨h, hi⟩
end rq

theorem upd_putObj (w : World) (r : Nat) (o : Obj) : Upd (fun b => b = r) w (w.putObj r o) := ⟨rfl, rfl, rfl, by simp, fun _ _ hd => World.putObj_heap_other hd⟩
theorem ext_alloc (w : World) (o : Obj) : Ext w (w.alloc o) := ⟨rfl, rfl, rfl, by simp, fun b hb _ => Go.RowKit.Below.heap_alloc w o b hb⟩

section range
variable {P : Program} {N : Nat} {Q : Post} {ds : List Deferred} {f : Fr} {w : World}
variable {g : Operand} {ps : List Nat} {assign body : Code} {gf : FuncId} {lb : List Value} {xs : List (List Value)} {w0 : World} {Dep Di : Nat → Prop}

/-- the rounds of a loop over an iterator, in the one place and in the other: 'rec' is the loop's record at block l -/
theorem rounds_of {l : Nat} {fn : FuncId} {tmps : Array Value} {rec : LoopState → Option Code → Loop} {dd : Nat}
    (hrec : rec = fun st pe => { state := st, pending := pe, fn := fn, tmps := tmps, params := ps.toArray, assign := assign, body := body, defers := dd })
    (hag : Ag N ([] : List Deferred) f { tmps := tmps, defers := [] })
    (hit : IterC P gf lb xs w0 Dep Di) (hpn : ps.all (fun p => Nat.blt p N) = true) (hps : ∀ x ∈ xs, x.length = ps.length)
    (Db : Nat → Prop) (hDb : ∀ b, Db b → ¬ Dep b ∧ b ≠ l) (hDl : ¬ Dep l) (hDi : ¬ Di l)
    (X : World → Prop) (hX : ∀ W W', X W → Upd (fun b => Db b ∨ Di b ∨ b = l) W W' → X W')
    (I : Nat → World → Prop) (Ix : Nat → Exit → World → Prop)
    (hI : ∀ k W W', I k W → Upd (fun b => Di b ∨ b = l) W W' → I k W') (hIx : ∀ k e W W', Ix k e W → Upd (fun b => Di b ∨ b = l) W W' → Ix k e W')
    (hbody : ∀ k x W, xs[k]? = some x → I k W → X W → (∃ r, W.heap[l]? = some (.loop r)) →
      Wp (some l) P N assign (thenQ (fun ds' f1 W1 => Upd Db W W1 ∧ ∀ W2, Upd (fun b => b = l) W1 W2 → (∃ r, W2.heap[l]? = some (.loop r)) → Wp (some l) P N body (roundQ Db W2 (I (k + 1)) (Ix k)) ds' f1 W2) fun _ _ _ _ => False) [] (putAll f ps x) W)
    {W : World} (hW : Upd (fun b => ¬ Dep b) w0 W) (h0 : I 0 W) (hX0 : X W) (hl : W.heap[l]? = some (.loop (rec .ready none))) :
    CT P gf (.func (.yield l) #[] #[] :: lb).toArray W fun _ W' => ∃ jump W'', (Instr.endLoop l).run P W' = .ok jump W'' ∧ X W'' ∧
      ((jump = none ∧ I xs.length W'') ∨ (∃ k e c, k < xs.length ∧ jump = some c ∧ (c = .ret ∧ e = .ret ∨ ∃ id, c = .exit id ∧ e = .exit id) ∧ Ix k e W'')) := by
  have hlt : ∀ {W : World} {o : Obj}, W.heap[l]? = some o → l < W.heap.size := fun h => (Array.getElem?_eq_some_iff.1 h).1
  have keepL : ∀ {D : Nat → Prop} {W W' : World} {o : Obj}, Upd D W W' → ¬ D l → W.heap[l]? = some o → W'.heap[l]? = some o := fun hu hd h => (hu.blk l (hlt h) hd).trans h
  have hDib : ∀ {b : Nat}, Di b → b ≠ l := fun h e => by subst e; exact hDi h
  refine CT.mono (hit l (fun k W => I k W ∧ X W ∧ W.heap[l]? = some (.loop (rec .ready none)))
    (fun k W => ∃ e c, (c = .ret ∧ e = .ret ∨ ∃ id, c = .exit id ∧ e = .exit id) ∧ Ix k e W ∧ X W ∧ W.heap[l]? = some (.loop (rec .done (some c)))) W (fun b => Db b ∨ b = l) hW
    (fun b hb => by rcases hb with h | rfl; exact (hDb b h).1; exact hDl) ?_ ?_ ?_ ⟨h0, hX0, hl⟩) ?_
  · rintro k W1 W2 ⟨hi, hx, hl1⟩ hu
    exact ⟨hI k _ _ hi (hu.mono fun _ _ h => .inl h), hX _ _ hx (hu.mono fun _ _ h => .inr (.inl h)), keepL hu hDi hl1⟩
  · rintro k W1 W2 ⟨e, c, hc, hi, hx, hl1⟩ hu
    exact ⟨e, c, hc, hIx k e _ _ hi (hu.mono fun _ _ h => .inl h), hX _ _ hx (hu.mono fun _ _ h => .inr (.inl h)), keepL hu hDi hl1⟩
  · rintro k x W1 hk ⟨hi, hx, hl1⟩
    have hlen : x.toArray.size = (rec .ready none).params.size := by rw [hrec]; simpa using hps x (List.mem_of_getElem? hk)
    have hy := run_yield (P := P) hl1 hlen
    rw [hrec] at hy
    refine ⟨fn, _, assign, body, hy, roundIn_of_wpIn trivial ?_⟩
    have hput : Ag N [] (putAll f ps x) { tmps := (Array.zip ps.toArray x.toArray).foldl (fun t (p, v) => t.setIfInBounds p v) tmps, defers := [] } := by
      have := Ag.putAll (N := N) (ds := []) ps x (f := f) (tmps := tmps) hpn hag
      have e : (Array.zip ps.toArray x.toArray) = (ps.zip x).toArray := by simp
      rw [e]
      simpa using this
    refine wpIn_mono (hbody k x W1 hk hi hx ⟨_, hl1⟩ _ hput) ?_
    rintro e a1 W2 ⟨ds', f1, hag1, hq⟩
    cases e with
    | normal =>
      obtain ⟨hu1, hb⟩ := hq
      have hl2 := keepL hu1 (fun h => (hDb l h).2 rfl) hl1
      have hx2 := hX _ _ hx (hu1.mono fun _ _ h => .inl h)
      refine ⟨_, run_beginRound hl2 (by rw [hrec]), ?_⟩
      have hu2 := upd_putObj W2 l (.loop { rec .ready none with state := .busy })
      have hl3 : (W2.putObj l (.loop { rec .ready none with state := .busy })).heap[l]? = some (.loop { rec .ready none with state := .busy }) := World.putObj_heap_same (hlt hl2)
      have hx3 := hX _ _ hx2 (hu2.mono fun _ _ h => .inr (.inr h))
      refine wpIn_mono (hb _ hu2 ⟨_, hl3⟩ a1 hag1) ?_
      rintro e a2 W4 ⟨ds2, f2, _, hq2⟩
      have fin : ∀ (jump : Option Code), Upd Db (W2.putObj l (.loop { rec .ready none with state := .busy })) W4 →
          (Instr.endRound l jump).run P W4 = .ok (.bool jump.isNone) (W4.putObj l (.loop (rec (if jump.isNone then .ready else .done) jump))) ∧
          X (W4.putObj l (.loop (rec (if jump.isNone then .ready else .done) jump))) ∧
          (W4.putObj l (.loop (rec (if jump.isNone then .ready else .done) jump))).heap[l]? = some (.loop (rec (if jump.isNone then .ready else .done) jump)) ∧
          Upd (fun b => Db b ∨ b = l) W1 (W4.putObj l (.loop (rec (if jump.isNone then .ready else .done) jump))) := by
        intro jump hu4
        have hl4 := keepL hu4 (fun h => (hDb l h).2 rfl) hl3
        have hr := run_endRound (P := P) jump hl4
        rw [hrec] at hr ⊢
        refine ⟨hr, hX _ _ (hX _ _ hx3 (hu4.mono fun _ _ h => .inl h)) ((upd_putObj W4 l _).mono fun _ _ h => .inr (.inr h)), World.putObj_heap_same (hlt hl4), ?_⟩
        exact (((hu1.mono fun _ _ h => .inl h).trans (hu2.mono fun _ _ h => .inr h)).trans (hu4.mono fun _ _ h => .inl h)).trans ((upd_putObj W4 l _).mono fun _ _ h => .inr h)
      cases e with
      | normal =>
        obtain ⟨hu4, hi4⟩ := hq2
        obtain ⟨h1, h2, h3, h4⟩ := fin none hu4
        exact ⟨_, _, h1, _, rfl, .inl ⟨rfl, ⟨hI _ _ _ hi4 ((upd_putObj W4 l _).mono fun _ _ h => .inr h), h2, h3⟩, h4⟩⟩
      | ret =>
        obtain ⟨hu4, hi4⟩ := hq2
        obtain ⟨h1, h2, h3, h4⟩ := fin (some .ret) hu4
        exact ⟨_, _, h1, _, rfl, .inr ⟨rfl, .ret, .ret, .inl ⟨rfl, rfl⟩, hIx _ _ _ _ hi4 ((upd_putObj W4 l _).mono fun _ _ h => .inr h), h2, h3⟩⟩
      | exit id =>
        obtain ⟨hu4, hi4⟩ := hq2
        obtain ⟨h1, h2, h3, h4⟩ := fin (some (.exit id)) hu4
        exact ⟨_, _, h1, _, rfl, .inr ⟨rfl, .exit id, .exit id, .inr ⟨id, rfl, rfl⟩, hIx _ _ _ _ hi4 ((upd_putObj W4 l _).mono fun _ _ h => .inr h), h2, h3⟩⟩
      | goto t => exact hq2.elim
      | panic ch => exact hq2.elim
      | outgrown => exact hq2.elim
    | ret => exact hq.elim
    | exit id => exact hq.elim
    | goto t => exact hq.elim
    | panic ch => exact hq.elim
    | outgrown => exact hq.elim
  · rintro v W' (⟨hi, hx, hl1⟩ | ⟨k, hk, e, c, hc, hi, hx, hl1⟩)
    · have := run_endLoop (P := P) hl1 (by rw [hrec]; simp)
      have hu := upd_putObj W' l (.loop { rec .ready none with state := .exhausted })
      refine ⟨_, _, this, hX _ _ hx (hu.mono fun _ _ h => .inr (.inr h)), .inl ⟨by rw [hrec], hI _ _ _ hi (hu.mono fun _ _ h => .inr h)⟩⟩
    · have := run_endLoop (P := P) hl1 (by rw [hrec]; simp)
      have hu := upd_putObj W' l (.loop { rec .done (some c) with state := .exhausted })
      exact ⟨_, _, this, hX _ _ hx (hu.mono fun _ _ h => .inr (.inr h)), .inr ⟨k, e, c, hk, by rw [hrec], hc, hIx _ _ _ _ hi (hu.mono fun _ _ h => .inr h)⟩⟩
end range

section range2
variable {P : Program} {N : Nat} {Q : Post} {ds : List Deferred} {f : Fr} {w : World}
variable {g : Operand} {ps : List Nat} {assign body : Code} {gf : FuncId} {lb : List Value} {xs : List (List Value)} {w0 : World} {Dep Di : Nat → Prop}

theorem run_rangeCall {a : Act} (l : Nat) (hx : a.eval g = .func (.func gf) #[] lb.toArray) :
    (resolve a.eval (rangeCall g l) 0).run P w = .ok { target := .fn (.func gf) lb.toArray, args := #[.func (.yield l) #[] #[]] } w := by
  simp only [resolve, hx]
  simp [Deferred.ofValue, Act.eval]

/-- **A RANGE OVER AN ITERATOR, in a function's own activation.** -/
theorem W_range (hx : ev f g = .func (.func gf) #[] lb.toArray) (eg : ∀ args w, (callFunc gf args).run P w = .ok (.enter gf args) w)
    (hit : IterC P gf lb xs w0 Dep Di) (hw0 : Upd (fun b => ¬ Dep b) w0 w) (hpn : ps.all (fun p => Nat.blt p N) = true) (hps : ∀ x ∈ xs, x.length = ps.length)
    (Db : Nat → Prop) (hDb : ∀ b, Db b → ¬ Dep b ∧ b ≠ w.heap.size ∧ b ≠ w.heap.size + 1) (hDn : ∀ b, w.heap.size ≤ b → ¬ Dep b) (hDi : ∀ b, Di b → b < w.heap.size)
    (I : Nat → World → Prop) (Ix : Nat → Exit → World → Prop)
    (hI : ∀ k W W', I k W → Upd (fun b => Di b ∨ b = w.heap.size + 1) W W' → I k W') (hIx : ∀ k e W W', Ix k e W → Upd (fun b => Di b ∨ b = w.heap.size + 1) W W' → Ix k e W')
    (h0 : ∀ W, Ext w W → W.heap.size = w.heap.size + 2 → I 0 W)
    (hbody : ∀ k x W, xs[k]? = some x → I k W → w.heap.size + 2 ≤ W.heap.size → (∃ r, W.heap[w.heap.size + 1]? = some (.loop r)) →
      Wp (some (w.heap.size + 1)) P N assign (thenQ (fun ds' f1 W1 => Upd Db W W1 ∧ ∀ W2, Upd (fun b => b = w.heap.size + 1) W1 W2 → (∃ r, W2.heap[w.heap.size + 1]? = some (.loop r)) →
        Wp (some (w.heap.size + 1)) P N body (roundQ Db W2 (I (k + 1)) (Ix k)) ds' f1 W2) fun _ _ _ _ => False) [] (putAll f ps x) W)
    (hdone : ∀ W, I xs.length W → W.heap[w.heap.size]? = some (.deferred (some [])) → Q .normal (mark w.heap.size :: ds) f W)
    (hexit : ∀ k e W, k < xs.length → Ix k e W → W.heap[w.heap.size]? = some (.deferred (some [])) → (e = .ret ∨ ∃ id, e = .exit id) → Q e (mark w.heap.size :: ds) f W) :
    Wp none P N (.rangeFunc g ps.toArray assign body) Q ds f w := by
  intro a ha
  refine wpIn_rangeFunc ?_
  intro fn _
  obtain ⟨rec, hrec⟩ : ∃ rec : LoopState → Option Code → Loop, rec = fun st pe => { state := st, pending := pe, fn, tmps := a.tmps, params := ps.toArray, assign, body, defers := w.heap.size } := ⟨_, rfl⟩
  obtain ⟨W1, hW1⟩ : ∃ W1, (w.alloc (.deferred (some []))).alloc (.loop (rec .ready none)) = W1 := ⟨_, rfl⟩
  have hL1 : W1.heap[w.heap.size + 1]? = some (.loop (rec .ready none)) := by
    rw [← hW1]; have := World.alloc_heap_new (w.alloc (.deferred (some []))) (.loop (rec .ready none)); rwa [World.size_alloc] at this
  have hK1 : W1.heap[w.heap.size]? = some (.deferred (some [])) := by
    rw [← hW1]; exact (Go.RowKit.Below.heap_alloc _ _ _ (by simp)).trans (World.alloc_heap_new w _)
  have hS1 : W1.heap.size = w.heap.size + 2 := by rw [← hW1]; simp
  have hE1 : Ext w W1 := by rw [← hW1]; exact (ext_alloc w _).trans (ext_alloc _ _)
  have hev : a.eval g = .func (.func gf) #[] lb.toArray := by rw [ha.eval]; exact hx
  refine ⟨w.heap.size + 1, [mark w.heap.size], W1, { target := .fn (.func gf) lb.toArray, args := #[.func (.yield (w.heap.size + 1)) #[] #[]] }, W1, gf,
    (.func (.yield (w.heap.size + 1)) #[] #[] :: lb).toArray, W1, ?_, run_rangeCall _ hev, fun _ _ => trivial, ?_, fun hd => (by cases hd), ?_⟩
  · rw [← hW1, hrec]; exact run_enterLoop_outer _ _ _ _ _
  · simp only [invoke, List.append_toArray, List.cons_append, List.nil_append]
    exact eg _ _
  · have hag : Ag N ([] : List Deferred) f { tmps := a.tmps, defers := [] } := ⟨ha.size, ha.get, rfl⟩
    have hR := rounds_of (P := P) hrec hag hit hpn hps Db (fun b hb => ⟨(hDb b hb).1, (hDb b hb).2.2⟩) (hDn _ (by omega)) (fun h => by have := hDi _ h; omega)
      (fun W => W.heap[w.heap.size]? = some (.deferred (some [])) ∧ w.heap.size + 2 ≤ W.heap.size)
      (fun W W' hX hu => ⟨(hu.blk _ (by have := hX.2; omega) (fun h => by
        rcases h with h | h | h
        · exact (hDb _ h).2.1 rfl
        · have := hDi _ h; omega
        · omega)).trans hX.1, Nat.le_trans hX.2 hu.size⟩) I Ix hI hIx
      (fun k x W hk hi hX hr => hbody k x W hk hi hX.2 hr) (hw0.comp hE1 (fun _ _ h => h) (fun _ _ h => h.elim)) (h0 W1 hE1 hS1) ⟨hK1, by omega⟩ hL1
    have hC : CallsIn Fence.wide 0 P gf (.func (.yield (w.heap.size + 1)) #[] #[] :: lb).toArray W1 _ := callsIn_wide.2 hR
    refine CallsIn.mono (show CallsIn (FR none) (0 - 1) P gf _ W1 _ from hC) ?_
    rintro e W' ⟨v, rfl, jump, W2, hend, hX2, h⟩
    have hag2 : Ag N (mark w.heap.size :: ds) f { a with defers := [mark w.heap.size] ++ a.defers } := ⟨ha.size, ha.get, by simp [ha.ds]⟩
    refine ⟨jump, W2, hend, ?_⟩
    rcases h with ⟨rfl, hi⟩ | ⟨k, e, c, hk, rfl, hc, hi⟩
    · exact ⟨_, f, hag2, hdone W2 hi hX2.1⟩
    · rcases hc with ⟨rfl, rfl⟩ | ⟨id, rfl, rfl⟩
      · exact wpIn_ret ⟨_, f, hag2, hexit k .ret W2 hk hi hX2.1 (.inl rfl)⟩
      · exact wpIn_exit ⟨_, f, hag2, hexit k (.exit id) W2 hk hi hX2.1 (.inr ⟨id, rfl⟩)⟩

/-- **A RANGE OVER AN ITERATOR in a round of another one (of loop l0).** -/
theorem W_rangeN {l0 : Nat} (hl0 : ∃ r, w.heap[l0]? = some (.loop r)) (hx : ev f g = .func (.func gf) #[] lb.toArray) (eg : ∀ args w, (callFunc gf args).run P w = .ok (.enter gf args) w)
    (hit : IterC P gf lb xs w0 Dep Di) (hw0 : Upd (fun b => ¬ Dep b) w0 w) (hpn : ps.all (fun p => Nat.blt p N) = true) (hps : ∀ x ∈ xs, x.length = ps.length)
    (Db : Nat → Prop) (hDb : ∀ b, Db b → ¬ Dep b ∧ b ≠ w.heap.size) (hDn : ∀ b, w.heap.size ≤ b → ¬ Dep b) (hDi : ∀ b, Di b → b < w.heap.size)
    (I : Nat → World → Prop) (Ix : Nat → Exit → World → Prop)
    (hI : ∀ k W W', I k W → Upd (fun b => Di b ∨ b = w.heap.size) W W' → I k W') (hIx : ∀ k e W W', Ix k e W → Upd (fun b => Di b ∨ b = w.heap.size) W W' → Ix k e W')
    (h0 : ∀ W, Ext w W → W.heap.size = w.heap.size + 1 → I 0 W)
    (hbody : ∀ k x W, xs[k]? = some x → I k W → w.heap.size + 1 ≤ W.heap.size → (∃ r, W.heap[w.heap.size]? = some (.loop r)) →
      Wp (some w.heap.size) P N assign (thenQ (fun ds' f1 W1 => Upd Db W W1 ∧ ∀ W2, Upd (fun b => b = w.heap.size) W1 W2 → (∃ r, W2.heap[w.heap.size]? = some (.loop r)) →
        Wp (some w.heap.size) P N body (roundQ Db W2 (I (k + 1)) (Ix k)) ds' f1 W2) fun _ _ _ _ => False) [] (putAll f ps x) W)
    (hdone : ∀ W, I xs.length W → Q .normal ds f W)
    (hexit : ∀ k e W, k < xs.length → Ix k e W → (e = .ret ∨ ∃ id, e = .exit id) → Q e ds f W) :
    Wp (some l0) P N (.rangeFunc g ps.toArray assign body) Q ds f w := by
  intro a ha
  obtain ⟨r0, hr0⟩ := hl0
  refine wpIn_rangeFunc ?_
  intro fn _
  obtain ⟨rec, hrec⟩ : ∃ rec : LoopState → Option Code → Loop, rec = fun st pe => { state := st, pending := pe, fn, tmps := a.tmps, params := ps.toArray, assign, body, defers := r0.defers } := ⟨_, rfl⟩
  obtain ⟨W1, hW1⟩ : ∃ W1, w.alloc (.loop (rec .ready none)) = W1 := ⟨_, rfl⟩
  have hL1 : W1.heap[w.heap.size]? = some (.loop (rec .ready none)) := by rw [← hW1]; exact World.alloc_heap_new w _
  have hS1 : W1.heap.size = w.heap.size + 1 := by rw [← hW1]; simp
  have hE1 : Ext w W1 := by rw [← hW1]; exact ext_alloc w _
  have hev : a.eval g = .func (.func gf) #[] lb.toArray := by rw [ha.eval]; exact hx
  refine ⟨w.heap.size, [], W1, { target := .fn (.func gf) lb.toArray, args := #[.func (.yield w.heap.size) #[] #[]] }, W1, gf,
    (.func (.yield w.heap.size) #[] #[] :: lb).toArray, W1, ?_, run_rangeCall _ hev, fun _ _ => trivial, ?_, fun hd => (by cases hd), ?_⟩
  · show (Instr.enterLoop fn a.tmps ps.toArray assign body (some l0)).run P w = _
    unfold Instr.enterLoop
    simp only [Sem.run_bind, run_getLoop hr0, run_newObj_alloc, Result.andThen, Sem.run_pure]
    rw [← hW1, hrec]
  · simp only [invoke, List.append_toArray, List.cons_append, List.nil_append]
    exact eg _ _
  · have hag : Ag N ([] : List Deferred) f { tmps := a.tmps, defers := [] } := ⟨ha.size, ha.get, rfl⟩
    have hR := rounds_of (P := P) hrec hag hit hpn hps Db (fun b hb => ⟨(hDb b hb).1, (hDb b hb).2⟩) (hDn _ (by omega)) (fun h => by have := hDi _ h; omega)
      (fun W => w.heap.size + 1 ≤ W.heap.size) (fun W W' hX hu => Nat.le_trans hX hu.size) I Ix hI hIx
      (fun k x W hk hi hX hr => hbody k x W hk hi hX hr) (hw0.comp hE1 (fun _ _ h => h) (fun _ _ h => h.elim)) (h0 W1 hE1 hS1) (by omega) hL1
    have hC : CallsIn Fence.wide 0 P gf (.func (.yield w.heap.size) #[] #[] :: lb).toArray W1 _ := callsIn_wide.2 hR
    refine CallsIn.mono (show CallsIn (FR (some l0)) (0 - 1) P gf _ W1 _ from hC) ?_
    rintro e W' ⟨v, rfl, jump, W2, hend, _, h⟩
    have hag2 : Ag N ds f { a with defers := [] ++ a.defers } := ⟨ha.size, ha.get, by simp [ha.ds]⟩
    refine ⟨jump, W2, hend, ?_⟩
    rcases h with ⟨rfl, hi⟩ | ⟨k, e, c, hk, rfl, hc, hi⟩
    · exact ⟨_, f, hag2, hdone W2 hi⟩
    · rcases hc with ⟨rfl, rfl⟩ | ⟨id, rfl, rfl⟩
      · exact wpIn_ret ⟨_, f, hag2, hexit k .ret W2 hk hi (.inl rfl)⟩
      · exact wpIn_exit ⟨_, f, hag2, hexit k (.exit id) W2 hk hi (.inr ⟨id, rfl⟩)⟩

/-- a scope without a goto in it -/
theorem W_scope {ρ : Option Nat} {c : Code} (h : Wp ρ P N c (fun e ds f w => match e with | .goto _ => False | e => Q e ds f w) ds f w) : Wp ρ P N (.scope c) Q ds f w := by
  intro a ha b k cs hro hb hr
  have h0 : (lone (b.atR a (.code (.scope c) :: k)) cs w).fenced P (FR ρ) := fenced_calm hb hr rfl
  have s0 : step P (lone (b.atR a (.code (.scope c) :: k)) cs w) = .next (lone (b.atR a (.code c :: .inScope c :: k)) cs w) := step_lone_go (by simp [stepG, stepG.exec, Frame.atR])
  have s1 : ∀ a w, step P (lone (b.atR a (.inScope c :: k)) cs w) = .next (lone (b.atR a k) cs w) := fun a w => step_lone_go (by simp [stepG, stepG.exec, Frame.atR])
  obtain ⟨e, a₁, w₁, ⟨ds', f', hag, hq⟩, harr⟩ := h a ha b (.inScope c :: k) cs hro hb hr
  cases e with
  | normal => exact ⟨.normal, a₁, w₁, ⟨ds', f', hag, hq⟩, .head h0 s0 (StepsIn.trans harr (.one (fenced_calm hb hr rfl) (s1 _ _)))⟩
  | exit id =>
    have hx : exitTo id (.inScope c :: k) = exitTo id k := by simp [exitTo]
    exact ⟨.exit id, a₁, w₁, ⟨ds', f', hag, hq⟩, fun k' hk => .head h0 s0 (harr.1 k' (by rw [hx]; exact hk)),
      fun hr' hk => let ⟨k₁, h1, h2⟩ := harr.2 hr' (by rw [hx]; exact hk); ⟨k₁, h1, .head h0 s0 h2⟩⟩
  | goto l => exact hq.elim
  | ret => exact ⟨_, a₁, w₁, ⟨ds', f', hag, hq⟩, .of_steps (.one h0 s0) harr⟩
  | panic ch => exact ⟨_, a₁, w₁, ⟨ds', f', hag, hq⟩, .of_steps (.one h0 s0) harr⟩
  | outgrown => exact ⟨_, a₁, w₁, ⟨ds', f', hag, hq⟩, .of_steps (.one h0 s0) harr⟩
end range2

/-! ### Memory -/

def Blk (w : World) (b : Nat) (c : Array Value) (t : TypeId) : Prop := w.heap[b]? = some (.cells c t (0, 0))

/-- the cells xs lie behind slice value v, of n elements of sz cells each -/
def Rd (w : World) (sz : Nat) (v : Value) (n : Nat) (xs : List Value) : Prop :=
  xs.length = n * sz ∧ ∃ a c, v = .slice a n c ∧ n ≤ c ∧ c ≤ maxLen ∧ (0 < n → ∃ b o, a = some ⟨b, o, none⟩ ∧ ∀ j u, xs[j]? = some u → w.cell? ⟨b, o + j, none⟩ = some u)

/-- slice value v owns its row: a block from B on, of which it is the head; spare room and all may be written -/
def Own (w : World) (B : Nat) (e : TypeId) (sz : Nat) (v : Value) (n : Nat) (xs : List Value) : Prop :=
  xs.length = n * sz ∧ ∃ a c, v = .slice a n c ∧ n ≤ c ∧ c ≤ maxLen ∧ (c = 0 ∨ ∃ g cur, a = some ⟨g, 0, none⟩ ∧ B ≤ g ∧ Blk w g cur e ∧ c * sz ≤ cur.size ∧ cur.toList.take (n * sz) = xs)

/-- the block that an owned slice may write -/
def obk : Value → Option Nat
  | .slice (some a) _ (_ + 1) => some a.block
  | _ => none

/-- the block in which a slice's elements lie -/
def rbk : Value → Option Nat
  | .slice (some a) (_ + 1) _ => some a.block
  | _ => none

theorem addr_add (b o j : Nat) : (⟨b, o, none⟩ : Addr).add j = ⟨b, o + j, none⟩ := by
  unfold Addr.add; split
  · simp_all
  · rfl

section mem
variable {w w' : World} {D : Nat → Prop}

theorem Upd.cell (h : Upd D w w') {a : Addr} (hd : ¬ D a.block) {v : Value} (hc : w.cell? a = some v) : w'.cell? a = some v := by
  have hlt := World.block_lt_of_cell? w a hc
  rw [← hc]
  unfold World.cell?
  rw [h.blk _ hlt hd]

theorem Blk.lt {b : Nat} {c : Array Value} {t : TypeId} (h : Blk w b c t) : b < w.heap.size := (Array.getElem?_eq_some_iff.1 h).1
theorem Blk.upd {b : Nat} {c : Array Value} {t : TypeId} (h : Blk w b c t) (hu : Upd D w w') (hd : ¬ D b) : Blk w' b c t := (hu.blk b h.lt hd).trans h
theorem Blk.cell {b : Nat} {c : Array Value} {t : TypeId} (h : Blk w b c t) {i : Nat} {v : Value} (hv : c[i]? = some v) : w.cell? ⟨b, i, none⟩ = some v := by
  unfold Blk at h; unfold World.cell?; simp [h, hv]
theorem Blk.unfrozen {b : Nat} {c : Array Value} {t : TypeId} (h : Blk w b c t) (i : Nat) : w.frozen? ⟨b, i, none⟩ = false := by
  unfold Blk at h; unfold World.frozen?; simp [h]

theorem Rd.upd {sz n : Nat} {v : Value} {xs : List Value} (h : Rd w sz v n xs) (hu : Upd D w w') (hd : ∀ b, rbk v = some b → ¬ D b) : Rd w' sz v n xs := by
  obtain ⟨hl, a, c, rfl, h1, h2, h3⟩ := h
  refine ⟨hl, a, c, rfl, h1, h2, fun hn => ?_⟩
  obtain ⟨b, o, rfl, h4⟩ := h3 hn
  refine ⟨b, o, rfl, fun j u hj => hu.cell (hd b ?_) (h4 j u hj)⟩
  obtain ⟨k, rfl⟩ : ∃ k, n = k + 1 := ⟨n - 1, by omega⟩
  rfl
theorem Rd.ext {sz n : Nat} {v : Value} {xs : List Value} (h : Rd w sz v n xs) (hu : Ext w w') : Rd w' sz v n xs := h.upd hu fun _ _ hx => hx
theorem Rd.bound {sz n : Nat} {v : Value} {xs : List Value} (h : Rd w sz v n xs) (hs : 0 < sz) {b : Nat} (hb : rbk v = some b) : b < w.heap.size := by
  obtain ⟨hl, a, c, rfl, h1, h2, h3⟩ := h
  cases n with
  | zero => cases a <;> simp [rbk] at hb
  | succ n =>
    obtain ⟨b', o, rfl, h4⟩ := h3 (by omega)
    have : b' = b := by simpa [rbk] using hb
    subst this
    have hlen : 0 < xs.length := by rw [hl]; exact Nat.mul_pos (by omega) hs
    have := h4 0 _ (List.getElem?_eq_getElem hlen)
    exact World.block_lt_of_cell? w _ this
theorem Rd.nil (w : World) (sz : Nat) : Rd w sz (.slice none 0 0) 0 [] := ⟨by simp, none, 0, rfl, Nat.le_refl _, Nat.zero_le _, fun h => absurd h (Nat.lt_irrefl _)⟩

theorem Own.rd {B e sz n : Nat} {v : Value} {xs : List Value} (h : Own w B e sz v n xs) : Rd w sz v n xs := by
  obtain ⟨hl, a, c, rfl, h1, h2, h3⟩ := h
  refine ⟨hl, a, c, rfl, h1, h2, fun hn => ?_⟩
  rcases h3 with rfl | ⟨g, cur, rfl, hB, hb, hs, hx⟩
  · omega
  · refine ⟨g, 0, rfl, fun j u hj => hb.cell ?_⟩
    rw [← hx, List.getElem?_take] at hj
    split at hj
    · simpa using hj
    · cases hj
theorem Own.upd {B e sz n : Nat} {v : Value} {xs : List Value} (h : Own w B e sz v n xs) (hu : Upd D w w') (hd : ∀ b, obk v = some b → ¬ D b) : Own w' B e sz v n xs := by
  obtain ⟨hl, a, c, rfl, h1, h2, h3⟩ := h
  refine ⟨hl, a, c, rfl, h1, h2, ?_⟩
  rcases h3 with h | ⟨g, cur, rfl, hB, hb, hs, hx⟩
  · exact .inl h
  · rcases Nat.eq_zero_or_pos c with h | h
    · exact .inl h
    · refine .inr ⟨g, cur, rfl, hB, hb.upd hu (hd g ?_), hs, hx⟩
      obtain ⟨k, rfl⟩ : ∃ k, c = k + 1 := ⟨c - 1, by omega⟩
      rfl
theorem Own.ext {B e sz n : Nat} {v : Value} {xs : List Value} (h : Own w B e sz v n xs) (hu : Ext w w') : Own w' B e sz v n xs := h.upd hu fun _ _ hx => hx
theorem Own.lt {B e sz n : Nat} {v : Value} {xs : List Value} (h : Own w B e sz v n xs) {b : Nat} (hb : obk v = some b) : B ≤ b ∧ b < w.heap.size := by
  obtain ⟨hl, a, c, rfl, h1, h2, h3⟩ := h
  rcases h3 with rfl | ⟨g, cur, rfl, hB, hk, hs, hx⟩
  · cases a <;> simp [obk] at hb
  · cases c with
    | zero => simp [obk] at hb
    | succ c =>
      have : g = b := by simpa [obk] using hb
      subst this
      exact ⟨hB, hk.lt⟩
theorem Own.more {B B' e sz n : Nat} {v : Value} {xs : List Value} (h : Own w B e sz v n xs) (hB : B' ≤ B) : Own w B' e sz v n xs := by
  obtain ⟨hl, a, c, rfl, h1, h2, h3⟩ := h
  refine ⟨hl, a, c, rfl, h1, h2, ?_⟩
  rcases h3 with h | ⟨g, cur, rfl, hB', hb, hs, hx⟩
  · exact .inl h
  · exact .inr ⟨g, cur, rfl, by omega, hb, hs, hx⟩
theorem Own.nil (w : World) (B e sz : Nat) : Own w B e sz (.slice none 0 0) 0 [] := ⟨by simp, none, 0, rfl, Nat.le_refl _, Nat.zero_le _, .inl rfl⟩
/-- a slice of length and capacity nought -/
theorem Own.zero (w : World) (B e sz : Nat) (a : Option Addr) : Own w B e sz (.slice a 0 0) 0 [] := ⟨by simp, a, 0, rfl, Nat.le_refl _, Nat.zero_le _, .inl rfl⟩
theorem rbk_obk {v : Value} {b n : Nat} {a : Option Addr} {c : Nat} (hv : v = .slice a n c) (hn : n ≤ c) (h : rbk v = some b) : obk v = some b := by
  subst hv
  cases n with
  | zero => cases a <;> simp [rbk] at h
  | succ n =>
    obtain ⟨k, rfl⟩ : ∃ k, c = k + 1 := ⟨c - 1, by omega⟩
    cases a with
    | none => simp [rbk] at h
    | some a => simpa [rbk, obk] using h
theorem Own.rbk_ {B e sz n : Nat} {v : Value} {xs : List Value} (h : Own w B e sz v n xs) {b : Nat} (hb : rbk v = some b) : B ≤ b ∧ b < w.heap.size := by
  obtain ⟨a, c, hv, h1, _⟩ := h.2
  exact h.lt (rbk_obk hv h1 hb)
end mem

/-! ### What the program's tables say of a type -/

/-- a type of one cell (no struct, no array) -/
structure Ty1 (P : Program) (t : TypeId) : Prop where
  agg : ∃ d, P.underlying t = some d ∧ (match d with | .struct _ | .array _ _ => true | _ => false) = false
  size : (P.info? t).map (·.size) = some 1
def ty1B (P : Program) (t : TypeId) : Bool :=
  (match P.underlying t with | some (.struct _) | some (.array _ _) | none => false | _ => true) && (P.info? t).map (·.size) == some 1
theorem ty1_of {P : Program} {t : TypeId} (h : ty1B P t = true) : Ty1 P t := by
  unfold ty1B at h
  rw [Bool.and_eq_true] at h
  refine ⟨?_, by simpa using h.2⟩
  cases hu : P.underlying t with
  | none => rw [hu] at h; simp at h
  | some d => rw [hu] at h; exact ⟨d, rfl, by cases d <;> simp_all⟩

/-- a struct or an array of n cells -/
structure TyA (P : Program) (t : TypeId) (n : Nat) : Prop where
  agg : ∃ d, P.underlying t = some d ∧ (match d with | .struct _ | .array _ _ => true | _ => false) = true
  size : (P.info? t).map (·.size) = some n
def tyAB (P : Program) (t : TypeId) (n : Nat) : Bool :=
  (match P.underlying t with | some (.struct _) | some (.array _ _) => true | _ => false) && (P.info? t).map (·.size) == some n
theorem tyA_of {P : Program} {t : TypeId} {n : Nat} (h : tyAB P t n = true) : TyA P t n := by
  unfold tyAB at h
  rw [Bool.and_eq_true] at h
  refine ⟨?_, by simpa using h.2⟩
  cases hu : P.underlying t with
  | none => rw [hu] at h; simp at h
  | some d => rw [hu] at h; exact ⟨d, rfl, by cases d <;> simp_all⟩

/-- a slice type: its element type, of sz cells and so many bytes, its zero value -/
structure TyS (P : Program) (t e sz bytes : Nat) (z : Value) : Prop where
  und : P.underlying t = some (.slice e)
  info : ∃ i, P.info? e = some i ∧ i.size = sz ∧ i.bytes = bytes ∧ i.zero = some z
  zs : z.cells.size = sz
theorem tyS_of {P : Program} {t e sz bytes : Nat} {z : Value} (h : P.underlying t = some (.slice e)) (hi : (P.info? e).map (fun i => (i.size, i.bytes, i.zero)) = some (sz, bytes, some z)) (hz : z.cells.size = sz) : TyS P t e sz bytes z := by
  cases hq : P.info? e with
  | none => rw [hq] at hi; cases hi
  | some i =>
    rw [hq] at hi
    simp only [Option.map_some, Option.some.injEq, Prod.mk.injEq] at hi
    exact ⟨h, ⟨i, hq, hi.1, hi.2.1, hi.2.2⟩, hz⟩

theorem run_sizeOf_of {P : Program} {t n : Nat} (h : (P.info? t).map (·.size) = some n) (w : World) : (sizeOf t).run P w = .ok n w := by
  cases hi : P.info? t with
  | none => rw [hi] at h; cases h
  | some i =>
    rw [hi] at h
    simp only [Option.map_some, Option.some.injEq] at h
    simp [sizeOf, typeInfo, hi, h]
theorem run_isAgg_of {P : Program} {t : Nat} {b : Bool} (h : ∃ d, P.underlying t = some d ∧ (match d with | .struct _ | .array _ _ => true | _ => false) = b) (w : World) : (isAgg t).run P w = .ok b w := by
  obtain ⟨d, hd, hb⟩ := h
  unfold isAgg
  simp only [Sem.run_bind, run_underlying hd, Result.andThen_ok]
  cases d <;> simp_all
theorem run_zero_of {P : Program} {t : Nat} {z : Value} (h : (P.info? t).bind (·.zero) = some z) (w : World) : (zeroValue t).run P w = .ok z w := by
  cases hi : P.info? t with
  | none => rw [hi] at h; cases h
  | some i =>
    rw [hi] at h
    simp only [Option.bind_some] at h
    simp [zeroValue, typeInfo, hi, h]

/-! ### append -/

section append
variable {P : Program} {w : World}

theorem setRow_upd (w : World) (g : Nat) (cs : Array Value) : Upd (fun b => b = g) w (w.setRow g cs) :=
  ⟨rfl, rfl, rfl, by simp [World.setRow], fun b _ hd => setRow_other w g b cs hd⟩

theorem run_append {t t2 ty e sz bytes B n m : Nat} {z s x : Value} {xs ys : List Value} (hS : TyS P t e sz bytes z) (ht2 : ∃ e2, P.underlying t2 = some (.slice e2)) (hO : Own w B e sz s n xs) (hR : Rd w sz x m ys)
    (h1 : ∀ u ∈ ys, u.oneCell' = true) (hm : n + m ≤ maxLen) (hb : (n + m) * bytes ≤ 140737488355328) (hB : B ≤ w.heap.size) :
    ∃ v' w', (Builtin.append_ #[t, t2] ty #[s, x]).run P w = .ok v' w' ∧ Own w' B e sz v' (n + m) (xs ++ ys) ∧ Upd (fun b => obk s = some b) w w' ∧
      (∀ b, obk v' = some b → obk s = some b ∨ w.heap.size ≤ b) := by
  obtain ⟨i, hi, hi1, hi2, hi3⟩ := hS.info
  obtain ⟨e2, he2⟩ := ht2
  obtain ⟨hlx, a, c, rfl, hnc, hcm, hcase⟩ := hO
  obtain ⟨hly, ax, cx, rfl, hmc, _, hrx⟩ := hR
  have hlen : (xs ++ ys).length = (n + m) * sz := by rw [List.length_append, hlx, hly, Nat.add_mul]
  have hfx : ∀ w' : World, (∀ p, w'.cell? p = w.cell? p) → (Builtin.firstCells sz m (.slice ax m cx)).run P w' = .ok ys.toArray w' := by
    intro w' hw'
    rcases Nat.eq_zero_or_pos m with h0 | h0
    · subst h0
      have : ys = [] := List.eq_nil_of_length_eq_zero (by simpa using hly)
      subst this
      cases ax <;> simp [Builtin.firstCells, loadCells, loadCellsFrom]
    · obtain ⟨b, o, rfl, hc⟩ := hrx h0
      exact run_firstCells_some w' sz m _ m cx ys hly fun j u hj => by rw [addr_add, hw']; exact hc j u hj
  by_cases hroom : n + m ≤ c
  · -- there is room
    rcases Nat.eq_zero_or_pos c with hc0 | hc0
    · subst hc0
      have hn0 : n = 0 := by omega
      have hm0 : m = 0 := by omega
      subst hn0; subst hm0
      have hx0 : xs = [] := List.eq_nil_of_length_eq_zero (by simpa using hlx)
      have hy0 : ys = [] := List.eq_nil_of_length_eq_zero (by simpa using hly)
      subst hx0; subst hy0
      refine ⟨.slice a 0 0, w, ?_, Own.zero w B e sz a, Upd.refl _ _, fun b hb' => .inl hb'⟩
      have hf := hfx w fun _ => rfl
      cases a <;> simp [Builtin.append_, run_underlying hS.und, run_underlying he2, sizeOf, typeInfo, hi, Builtin.lenOf, hi1, hf, storeCells]
    · rcases hcase with h | ⟨g, cur, rfl, hBg, hg, hfit, htk⟩
      · omega
      · have hf := hfx w fun _ => rfl
        have hst := run_storeCells_at P g (n * sz) e ys 0 cur w hg (by
          have : (n + m) * sz ≤ c * sz := Nat.mul_le_mul_right _ hroom
          rw [Nat.add_mul] at this
          omega) h1
        simp only [Nat.add_zero] at hst
        refine ⟨.slice (some ⟨g, 0, none⟩) (n + m) c, w.setRow g (cur.toList.take (n * sz) ++ ys ++ cur.toList.drop (n * sz + ys.length)).toArray, ?_, ?_, ?_, fun b hb' => .inl ?_⟩
        · simp [Builtin.append_, run_underlying hS.und, run_underlying he2, sizeOf, typeInfo, hi, Builtin.lenOf, hi1, hf, hroom, addr_add, hst]
        · refine ⟨hlen, _, c, rfl, hroom, hcm, .inr ⟨g, _, rfl, hBg, setRow_heap w g cur _ e (0, 0) hg, ?_, ?_⟩⟩
          · have h1' : (n + m) * sz ≤ c * sz := Nat.mul_le_mul_right _ hroom
            have h2' : cur.toList.length = cur.size := by simp
            have h3' : n * sz + m * sz ≤ cur.size := by rw [Nat.add_mul] at h1'; omega
            simp only [List.size_toArray, List.length_append, List.length_take, List.length_drop, h2', hly]
            omega
          · have h2' : cur.toList.length = cur.size := by simp
            have hcs : n * sz + m * sz ≤ cur.size := by
              have h1' : (n + m) * sz ≤ c * sz := Nat.mul_le_mul_right _ hroom
              rw [Nat.add_mul] at h1'; omega
            rw [List.toList_toArray, htk]
            rw [show (n + m) * sz = (xs ++ ys).length by rw [hlen]]
            exact List.take_left
        · refine (setRow_upd w g _).mono fun b hb' hd => ?_
          subst hd
          obtain ⟨k, rfl⟩ : ∃ k, c = k + 1 := ⟨c - 1, by omega⟩
          rfl
        · obtain ⟨k, rfl⟩ : ∃ k, c = k + 1 := ⟨c - 1, by omega⟩
          exact hb'
  · -- it grows
    have hneed : c < n + m := by omega
    have hcap := nextslicecap_le hneed
    have hbytes : ¬ Builtin.nextslicecap (n + m) c * i.bytes > 2 ^ 48 := by
      rw [hi2]
      have : Builtin.nextslicecap (n + m) c * bytes ≤ 2 * (n + m) * bytes := Nat.mul_le_mul_right _ hcap
      rw [Nat.mul_assoc] at this
      omega
    have hold : (Builtin.firstCells sz n (.slice a n c)).run P w.drew = .ok xs.toArray w.drew := by
      rcases Nat.eq_zero_or_pos n with h0 | h0
      · subst h0
        have : xs = [] := List.eq_nil_of_length_eq_zero (by simpa using hlx)
        subst this
        cases a <;> simp [Builtin.firstCells, loadCells, loadCellsFrom]
      · have hrd := (Own.rd (w := w) (B := B) (e := e) (sz := sz) ⟨hlx, a, c, rfl, hnc, hcm, hcase⟩)
        obtain ⟨_, a', c', hv, _, _, h3⟩ := hrd
        cases hv
        obtain ⟨b, o, rfl, h4⟩ := h3 h0
        exact run_firstCells_some w.drew sz n _ n c xs hlx fun j u hj => by rw [addr_add]; exact h4 j u hj
    have hnew := hfx w.drew fun _ => rfl
    have hge := grownCap_ge w (n + m) c e
    have hle := grownCap_le_maxLen w (n + m) c e hm
    have hsmall : ¬ (9223372036854775807 < (n : Int) + (m : Int)) := by
      simp only [maxLen] at hm
      omega
    have hbytes' : ¬ (281474976710656 < Builtin.nextslicecap (n + m) c * i.bytes) := by simpa using hbytes
    refine ⟨.slice (some ⟨w.heap.size, 0, none⟩) (n + m) (grownCap w (n + m) c e), w.drew.alloc (.cells (xs.toArray ++ ys.toArray ++ Builtin.zeroCells z.cells (grownCap w (n + m) c e - (n + m))) e), ?_, ?_, ?_, ?_⟩
    · simp [Builtin.append_, run_underlying hS.und, run_underlying he2, sizeOf, typeInfo, zeroValue, hi, hi3, Builtin.lenOf, hi1, hroom, hsmall, hbytes', Question.forced, hold, hnew, newRow, grownCap]
      rw [← List.append_toArray, Array.append_assoc]
    · refine ⟨hlen, _, _, rfl, hge, hle, .inr ⟨w.heap.size, _, rfl, hB, heap_alloc_new w.drew _, ?_, ?_⟩⟩
      · simp only [Array.size_append, List.size_toArray, size_zeroCells, hS.zs, hlx, hly, ← Nat.add_mul]
        rw [Nat.add_sub_cancel' hge]
        exact Nat.le_refl _
      · simp only [Array.toList_append, List.append_assoc]
        rw [← List.append_assoc, ← hlen]
        exact List.take_left
    · exact (Upd.drew _ w).trans (ext_alloc w.drew _).upd
    · intro b hb'
      right
      rcases Nat.eq_zero_or_pos (grownCap w (n + m) c e) with h0 | h0
      · omega
      · obtain ⟨k, hk⟩ : ∃ k, grownCap w (n + m) c e = k + 1 := ⟨_ - 1, (Nat.succ_pred_eq_of_pos h0).symm⟩
        rw [hk] at hb'
        have : w.heap.size = b := by simpa [obk] using hb'
        omega
end append
end Go.SL
