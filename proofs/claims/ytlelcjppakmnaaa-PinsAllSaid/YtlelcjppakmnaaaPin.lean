/-
  The contracts of chapter 14: tables of pins. (Printed by wip/gen/t14.py of this repo.)
-/
import Derived.Test.YtlelcjppakmnaaaHead
import Derived.Test.YtlelcjppakmnaaaBaseAR
import Derived.Test.YtlelcjppakmnaaaBaseWS
import Derived.Test.YtlelcjppakmnaaaBaseT
namespace Go.Proofs.Ytlelcjppakmnaaa
open Go Go.SL Go.Proofs
set_option linter.unusedVariables false

theorem sv8 (b o : Nat) : SV (.slice (some ⟨b, o, none⟩) 8 8) 8 := ⟨_, _, rfl, Nat.le_refl _, by decide, fun _ => ⟨_, _, rfl⟩⟩
theorem pof_at (b o k : Nat) : pof (.slice (some ⟨b, o, none⟩) 8 8) k = ptr b (o + k) := by simp [pof, addr_add, ptr]
theorem built48 (a b : Option Addr) (n c m d : Nat) : Try.prog.built 48 [(0, .slice a n c), (1, .slice b m d)] = some #[.slice a n c, .slice b m d] := by kernel_rfl
def isO (on : List Bool) (h : Int) : Bool := decide (1 ≤ h ∧ h ≤ 8) && on.getD (h - 1).toNat false
theorem isO_in {on : List Bool} {h : Int} {o : Bool} (h1 : 1 ≤ h) (h2 : h ≤ 8) (ho : on[(h - 1).toNat]? = some o) : isO on h = o := by
  unfold isO
  rw [decide_eq_true ⟨h1, h2⟩, List.getD_eq_getElem?_getD, ho]; rfl
theorem isO_out {on : List Bool} {h : Int} (h1 : ¬ (1 ≤ h ∧ h ≤ 8)) : isO on h = false := by
  unfold isO
  rw [decide_eq_false h1]; rfl
theorem isO_true {on : List Bool} {h : Int} (h1 : isO on h = true) : 1 ≤ h ∧ h ≤ 8 ∧ on[(h - 1).toNat]? = some true := by
  unfold isO at h1
  rw [Bool.and_eq_true] at h1
  have h2 := of_decide_eq_true h1.1
  refine ⟨h2.1, h2.2, ?_⟩
  have h3 := h1.2
  rw [List.getD_eq_getElem?_getD] at h3
  cases hx : on[(h - 1).toNat]? with
  | none => rw [hx] at h3; cases h3
  | some o => rw [hx] at h3; cases o <;> first | rfl | cases h3
/-- the place of the first one that is not open -/
def fstO : List Bool → Nat
  | [] => 0
  | true :: r => fstO r + 1
  | false :: _ => 0
theorem fst_at : ∀ {on : List Bool} {i : Nat}, on[i]? = some false → (∀ j, j < i → on[j]? = some true) → fstO on = i
  | [], _, h, _ => by cases h
  | true :: r, 0, h, _ => by cases h
  | true :: r, i + 1, h, ha => by
    show fstO r + 1 = i + 1
    rw [fst_at (on := r) (i := i) h fun j hj => ha (j + 1) (by omega)]
  | false :: r, 0, _, _ => rfl
  | false :: r, i + 1, _, ha => by have := ha 0 (by omega); cases this
theorem fst_all : ∀ {on : List Bool}, (∀ j, j < on.length → on[j]? = some true) → fstO on = on.length
  | [], _ => rfl
  | true :: r, h => by
    show fstO r + 1 = r.length + 1
    rw [fst_all (on := r) fun j hj => h (j + 1) (Nat.succ_lt_succ hj)]
  | false :: r, h => by have := h 0 (Nat.zero_lt_succ _); cases this
/-- the commits of those that are open, in their handles' order -/
def openL : List Bool → List Int → List Int
  | true :: r, x :: s => x :: openL r s
  | false :: r, _ :: s => openL r s
  | _, _ => []
def cntO (on : List Bool) (i : Nat) : Nat := (on.take i).countP id
theorem cntO_hit {on : List Bool} {i : Nat} (h : on[i]? = some true) : cntO on (i + 1) = cntO on i + 1 := by
  unfold cntO
  rw [List.take_add_one, h, List.countP_append]; rfl
theorem cntO_miss {on : List Bool} {i : Nat} (h : on[i]? = some false) : cntO on (i + 1) = cntO on i := by
  unfold cntO
  rw [List.take_add_one, h, List.countP_append]; rfl
theorem open_at : ∀ {on : List Bool} {tx : List Int} {i : Nat} {x : Int}, on[i]? = some true → tx[i]? = some x → (openL on tx)[cntO on i]? = some x
  | [], _, _, _, h, _ => by cases h
  | o :: r, [], _, _, _, h => by cases h
  | true :: r, y :: s, 0, x, _, h => h
  | false :: r, y :: s, 0, x, h, _ => by cases h
  | true :: r, y :: s, i + 1, x, h, h2 => by
    have e : cntO (true :: r) (i + 1) = cntO r i + 1 := by unfold cntO; rw [List.take_succ_cons, List.countP_cons_of_pos rfl]
    rw [e]
    exact open_at (on := r) (tx := s) h h2
  | false :: r, y :: s, i + 1, x, h, h2 => by
    have e : cntO (false :: r) (i + 1) = cntO r i := by unfold cntO; rw [List.take_succ_cons, List.countP_cons_of_neg (by decide)]
    rw [e]
    exact open_at (on := r) (tx := s) h h2
theorem open_len : ∀ {on : List Bool} {tx : List Int}, on.length = tx.length → (openL on tx).length = on.countP id
  | [], [], _ => rfl
  | [], _ :: _, h => by cases h
  | _ :: _, [], h => by cases h
  | true :: r, y :: s, h => by
    rw [List.countP_cons_of_pos rfl, ← open_len (on := r) (tx := s) (Nat.succ.inj h)]; rfl
  | false :: r, y :: s, h => by
    rw [List.countP_cons_of_neg (by decide), ← open_len (on := r) (tx := s) (Nat.succ.inj h)]; rfl
def openX (on : List Bool) (tx : List Int) : List (List Value) := (openL on tx).map fun x => [u32V x]
theorem openX_length (on : List Bool) (tx : List Int) : (openX on tx).length = (openL on tx).length := List.length_map _
theorem openX_at {on : List Bool} {tx : List Int} {k : Nat} {x : Int} (h : (openL on tx)[k]? = some x) : (openX on tx)[k]? = some [u32V x] := by unfold openX; rw [List.getElem?_map, h]; rfl
theorem openX_out {on : List Bool} {tx : List Int} {k : Nat} {x : List Value} (h : (openX on tx)[k]? = some x) : ∃ y, (openL on tx)[k]? = some y ∧ x = [u32V y] := by
  unfold openX at h
  rw [List.getElem?_map] at h
  cases hp : (openL on tx)[k]? with
  | none => rw [hp] at h; cases h
  | some p => rw [hp] at h; cases h; exact ⟨p, rfl, rfl⟩

theorem c_of (b : Nat) (w : World) : CT Try.prog 14 #[(ptr b (0))] w fun v w' => v = .agg #[.slice (some ⟨b, 0, none⟩) 8 8, .slice (some ⟨b, 8, none⟩) 8 8] ∧ Ext w w' := by
  obtain ⟨n0, hn0⟩ : ∃ n, n = w.heap.size := ⟨_, rfl⟩
  have hU : Upd (fun i => n0 ≤ i) w w := Upd.refl _ _
  refine CT_of Try.func14 rfl rfl rfl ?_
  refine W_seq ?_
  refine W_reg ?_
  refine L_op rfl (X_alloc (z := (.agg #[(.slice none 0 0), (.slice none 0 0)])) (c := #[(.slice none 0 0), (.slice none 0 0)]) Zv48 rfl ?_)
  intro b1 w1 hn1
  have hbn1 := hn1.num; have hbs1 := hn1.size
  replace hU := hU.trans (Ext.upd hn1.ext)
  have hB1 := hn1.blk
  refine L_nil ?_
  refine T_n ?_
  refine W_seq ?_
  refine W_draw 8 [[], [0], [0, 1], [0, 1, 2], [], [4], [4, 5], [4, 5, 6], [0, 1, 2, 3, 4, 5, 6, 7], [0, 1, 2, 3, 4, 5, 6, 7, 8]] mixed (by kernel_rfl) ?_
  refine ⟨.det (fun val => (ptr b (0))), ⟨fun _ _ hv => rfl, fun _ _ _ _ _ => trivial⟩, fun val h_ W hx he => ⟨trivial, ?_⟩, ?_⟩
  · replace hx := (Upd.drew _ _).trans hx
    replace hB1 := hB1.ext hx
    have hE := Upd.refl (fun _ => False) W
    refine id (X_move (v := (ptr b (0))) rfl ?_)
    exact ⟨hE, rfl⟩
  refine ⟨.det (fun val => (ptr b (0))), ⟨fun _ _ hv => rfl, fun _ _ _ _ _ => trivial⟩, fun val h_ W hx he => ⟨trivial, ?_⟩, ?_⟩
  · replace hx := (Upd.drew _ _).trans hx
    replace hB1 := hB1.ext hx
    have hE := Upd.refl (fun _ => False) W
    refine id (X_nilCheck (v := (ptr b (0))) rfl ⟨_, _, rfl⟩ ?_)
    exact ⟨hE, rfl⟩
  refine ⟨.det (fun val => (ptr b (0))), ⟨fun _ _ hv => rfl, fun _ _ _ _ _ => trivial⟩, fun val h_ W hx he => ⟨trivial, ?_⟩, ?_⟩
  · replace hx := (Upd.drew _ _).trans hx
    replace hB1 := hB1.ext hx
    have hE := Upd.refl (fun _ => False) W
    refine id (X_fldP (b := b) (o := 0) (r := 0) Fd26_0 rfl rfl ?_)
    exact ⟨hE, rfl⟩
  refine ⟨.det (fun val => (.slice (some ⟨b, 0, none⟩) 8 8)), ⟨fun _ _ hv => rfl, fun _ _ _ _ _ => trivial⟩, fun val h_ W hx he => ⟨trivial, ?_⟩, ?_⟩
  · replace hx := (Upd.drew _ _).trans hx
    replace hB1 := hB1.ext hx
    have hE := Upd.refl (fun _ => False) W
    refine id (X_sliceAO (len := 8) (sz := 1) (b := b) (o := 0) (l := 0) (h' := 8) (kl := .i64) (kh := .i64) Try.underlying22 Z4 rfl rfl rfl (by decide) (by decide) ?_)
    exact ⟨hE, rfl⟩
  refine ⟨.det (fun val => (ptr b (0))), ⟨fun _ _ hv => rfl, fun _ _ _ _ _ => trivial⟩, fun val h_ W hx he => ⟨trivial, ?_⟩, ?_⟩
  · replace hx := (Upd.drew _ _).trans hx
    replace hB1 := hB1.ext hx
    have hE := Upd.refl (fun _ => False) W
    refine id (X_move (v := (ptr b (0))) rfl ?_)
    exact ⟨hE, rfl⟩
  refine ⟨.det (fun val => (ptr b (0))), ⟨fun _ _ hv => rfl, fun _ _ _ _ _ => trivial⟩, fun val h_ W hx he => ⟨trivial, ?_⟩, ?_⟩
  · replace hx := (Upd.drew _ _).trans hx
    replace hB1 := hB1.ext hx
    have hE := Upd.refl (fun _ => False) W
    refine id (X_nilCheck (v := (ptr b (0))) rfl ⟨_, _, rfl⟩ ?_)
    exact ⟨hE, rfl⟩
  refine ⟨.det (fun val => (ptr b (8))), ⟨fun _ _ hv => rfl, fun _ _ _ _ _ => trivial⟩, fun val h_ W hx he => ⟨trivial, ?_⟩, ?_⟩
  · replace hx := (Upd.drew _ _).trans hx
    replace hB1 := hB1.ext hx
    have hE := Upd.refl (fun _ => False) W
    refine id (X_fldP (b := b) (o := 0) (r := 8) Fd26_1 rfl rfl ?_)
    exact ⟨hE, rfl⟩
  refine ⟨.det (fun val => (.slice (some ⟨b, 8, none⟩) 8 8)), ⟨fun _ _ hv => rfl, fun _ _ _ _ _ => trivial⟩, fun val h_ W hx he => ⟨trivial, ?_⟩, ?_⟩
  · replace hx := (Upd.drew _ _).trans hx
    replace hB1 := hB1.ext hx
    have hE := Upd.refl (fun _ => False) W
    refine id (X_sliceAO (len := 8) (sz := 1) (b := b) (o := 8) (l := 0) (h' := 8) (kl := .i64) (kh := .i64) Try.underlying24 Z23 rfl rfl rfl (by decide) (by decide) ?_)
    exact ⟨hE, rfl⟩
  intro val W2 hx2 he2
  replace hx2 := (Upd.drew _ _).trans hx2
  have hz2 := hx2.size
  replace hU := hU.trans (Ext.upd hx2)
  replace hB1 := hB1.ext hx2
  refine L_op rfl (X_build (built48 _ _ _ _ _ _) ?_)
  refine L_op0 (X_storeW (b := b1) (ys := [(.slice (some ⟨b, 0, none⟩) 8 8), (.slice (some ⟨b, 8, none⟩) 8 8)]) A48 rfl rfl (List.forall_mem_cons.2 ⟨rfl, (List.forall_mem_cons.2 ⟨rfl, (fun _ h => by cases h)⟩)⟩) rfl hB1 rfl ?_)
  intro w3 hu3 hb3
  have hz3 := hu3.size
  replace hU := hU.trans (hu3.mono fun i _ h => by have h : i = b1 := h; show n0 ≤ i; omega)
  replace hB1 : Blk w3 b1 #[(.slice (some ⟨b, 0, none⟩) 8 8), (.slice (some ⟨b, 8, none⟩) 8 8)] 48 := hb3
  refine L_nil ?_
  refine T_n ?_
  refine W_ret ?_
  exact BQ_r (End_1 Try.results14 (RV_A A48 rfl hB1.atAll rfl) ⟨rfl, hU.own hn0⟩)

theorem c_topen (b : Nat) (on : List Bool) (tx : List Int) (h : Int) (w : World) (hP : Blk w b (pinC on tx).toArray 26) (hon : on.length = 8) (htx : tx.length = 8) : CT Try.prog 16 #[(.agg #[(.slice (some ⟨b, 0, none⟩) 8 8), (.slice (some ⟨b, 8, none⟩) 8 8)]), (.int .i64 (h))] w fun v w' => v = .bool (isO on h) ∧ Ext w w' := by
  obtain ⟨n0, hn0⟩ : ∃ n, n = w.heap.size := ⟨_, rfl⟩
  have hU : Upd (fun i => n0 ≤ i) w w := Upd.refl _ _
  have hbl := hP.lt
  refine CT_of Try.func16 rfl rfl rfl ?_
  refine W_seq ?_
  refine W_reg ?_
  refine L_op rfl (X_box (v := (.agg #[(.slice (some ⟨b, 0, none⟩) 8 8), (.slice (some ⟨b, 8, none⟩) 8 8)])) (c := ([(.slice (some ⟨b, 0, none⟩) 8 8), (.slice (some ⟨b, 8, none⟩) 8 8)]).toArray) rfl rfl ?_)
  intro b1 w1 hn1
  have hbn1 := hn1.num; have hbs1 := hn1.size
  replace hP := hP.ext hn1.ext
  replace hU := hU.trans (Ext.upd hn1.ext)
  have hB1 := hn1.blk
  refine L_op rfl (X_assign (v := (.bool (false))) rfl ?_)
  refine L_nil ?_
  refine T_n ?_
  refine W_seq ?_
  refine W_reg ?_
  refine L_op rfl (X_move (v := (.int .i64 (h))) rfl ?_)
  by_cases hc2 : (h : Int) ≥ (1)
  · refine L_op rfl (X_cmp (k := .i64) (a := h) (b := 1) (r := true) rfl rfl rfl (decide_eq_true (p := ((1) : Int) ≤ ((h) : Int)) (by omega)) ?_)
    refine L_op rfl (X_move (v := (.bool (true))) rfl ?_)
    refine L_gy (dj := 7) rfl rfl rfl (X_move (v := (.int .i64 (h))) rfl ?_)
    refine L_gy (dj := 7) rfl rfl rfl (X_fldP (b := b1) (o := 0) (r := 0) Fd48_0 rfl rfl ?_)
    refine L_gy (dj := 7) rfl rfl rfl (X_load (p := (ptr b1 (0))) (v := (.slice (some ⟨b, 0, none⟩) 8 8)) T46 rfl (hB1.at1 rfl) ?_)
    refine L_gy (dj := 7) rfl rfl rfl (X_len (v := (.slice (some ⟨b, 0, none⟩) 8 8)) (n := 8) Try.underlying46 rfl (sv8 b 0) ?_)
    by_cases hc3 : (h : Int) ≤ (8)
    · refine L_gy (dj := 7) rfl rfl rfl (X_cmp (k := .i64) (a := h) (b := 8) (r := true) rfl rfl rfl (decide_eq_true (p := ((h) : Int) ≤ ((8) : Int)) (by omega)) ?_)
      refine L_op rfl (X_pick (t := true) (v := (.bool (true))) rfl rfl ?_)
      refine L_op rfl (X_move (v := (.bool (true))) rfl ?_)
      refine L_gy (dj := 14) rfl rfl rfl (X_fldP (b := b1) (o := 0) (r := 0) Fd48_0 rfl rfl ?_)
      refine L_gy (dj := 14) rfl rfl rfl (X_load (p := (ptr b1 (0))) (v := (.slice (some ⟨b, 0, none⟩) 8 8)) T46 rfl (hB1.at1 rfl) ?_)
      refine L_gy (dj := 14) rfl rfl rfl (X_move (v := (.int .i64 (h))) rfl ?_)
      refine L_gy (dj := 14) rfl rfl rfl (X_arith (k := .i64) (a := h) (b := 1) (r := (h - 1 : Int)) rfl rfl rfl (isub64 rfl (by omega) (by omega)) ?_)
      refine L_gy (dj := 14) rfl rfl rfl (X_idx (v := (.slice (some ⟨b, 0, none⟩) 8 8)) (n := 8) (k := .i64) (i := (h - 1 : Int)) S46 rfl (sv8 b 0) rfl (by omega) (by omega) ?_)
      obtain ⟨o1, ho1⟩ : ∃ o, on[(h - 1).toNat]? = some o := ⟨_, List.getElem?_eq_getElem (by omega)⟩
      have hR := pin_on hP hon
      rcases Bool.eq_false_or_eq_true o1 with ho2 | ho2
      · rw [ho2] at ho1
        refine L_gy (dj := 14) rfl rfl rfl (X_load (v := .bool true) T4 rfl (hR.cell (by rw [show ((h - 1 : Int) : Int).toNat * 1 = (h - 1).toNat by omega, List.getElem?_map, ho1]; rfl)) ?_)
        refine L_op rfl (X_pick (t := true) (v := (.bool (true))) rfl rfl ?_)
        refine L_op rfl (X_assign (v := (.bool (true))) rfl ?_)
        refine L_nil ?_
        refine T_n ?_
        refine W_ret ?_
        exact BQ_r (End_1 Try.results16 (v := .bool true) rfl ⟨by rw [isO_in (by omega) (by omega) ho1], hU.own hn0⟩)
      · rw [ho2] at ho1
        refine L_gy (dj := 14) rfl rfl rfl (X_load (v := .bool false) T4 rfl (hR.cell (by rw [show ((h - 1 : Int) : Int).toNat * 1 = (h - 1).toNat by omega, List.getElem?_map, ho1]; rfl)) ?_)
        refine L_op rfl (X_pick (t := true) (v := (.bool (false))) rfl rfl ?_)
        refine L_op rfl (X_assign (v := (.bool (false))) rfl ?_)
        refine L_nil ?_
        refine T_n ?_
        refine W_ret ?_
        exact BQ_r (End_1 Try.results16 (v := .bool false) rfl ⟨by rw [isO_in (by omega) (by omega) ho1], hU.own hn0⟩)
    · refine L_gy (dj := 7) rfl rfl rfl (X_cmp (k := .i64) (a := h) (b := 8) (r := false) rfl rfl rfl (decide_eq_false (p := ((h) : Int) ≤ ((8) : Int)) (by omega)) ?_)
      refine L_op rfl (X_pick (t := true) (v := (.bool (false))) rfl rfl ?_)
      refine L_op rfl (X_move (v := (.bool (false))) rfl ?_)
      refine L_gn (dj := 14) (t := false) rfl rfl rfl rfl ?_
      refine L_gn (dj := 14) (t := false) rfl rfl rfl rfl ?_
      refine L_gn (dj := 14) (t := false) rfl rfl rfl rfl ?_
      refine L_gn (dj := 14) (t := false) rfl rfl rfl rfl ?_
      refine L_gn (dj := 14) (t := false) rfl rfl rfl rfl ?_
      refine L_gn (dj := 14) (t := false) rfl rfl rfl rfl ?_
      refine L_op rfl (X_pick (t := false) (v := (.bool (false))) rfl rfl ?_)
      refine L_op rfl (X_assign (v := (.bool (false))) rfl ?_)
      refine L_nil ?_
      refine T_n ?_
      refine W_ret ?_
      exact BQ_r (End_1 Try.results16 (v := .bool false) rfl ⟨by rw [isO_out (by omega)], hU.own hn0⟩)
  · refine L_op rfl (X_cmp (k := .i64) (a := h) (b := 1) (r := false) rfl rfl rfl (decide_eq_false (p := ((1) : Int) ≤ ((h) : Int)) (by omega)) ?_)
    refine L_op rfl (X_move (v := (.bool (false))) rfl ?_)
    refine L_gn (dj := 7) (t := false) rfl rfl rfl rfl ?_
    refine L_gn (dj := 7) (t := false) rfl rfl rfl rfl ?_
    refine L_gn (dj := 7) (t := false) rfl rfl rfl rfl ?_
    refine L_gn (dj := 7) (t := false) rfl rfl rfl rfl ?_
    refine L_gn (dj := 7) (t := false) rfl rfl rfl rfl ?_
    refine L_op rfl (X_pick (t := false) (v := (.bool (false))) rfl rfl ?_)
    refine L_op rfl (X_move (v := (.bool (false))) rfl ?_)
    refine L_gn (dj := 14) (t := false) rfl rfl rfl rfl ?_
    refine L_gn (dj := 14) (t := false) rfl rfl rfl rfl ?_
    refine L_gn (dj := 14) (t := false) rfl rfl rfl rfl ?_
    refine L_gn (dj := 14) (t := false) rfl rfl rfl rfl ?_
    refine L_gn (dj := 14) (t := false) rfl rfl rfl rfl ?_
    refine L_gn (dj := 14) (t := false) rfl rfl rfl rfl ?_
    refine L_op rfl (X_pick (t := false) (v := (.bool (false))) rfl rfl ?_)
    refine L_op rfl (X_assign (v := (.bool (false))) rfl ?_)
    refine L_nil ?_
    refine T_n ?_
    refine W_ret ?_
    exact BQ_r (End_1 Try.results16 (v := .bool false) rfl ⟨by rw [isO_out (by omega)], hU.own hn0⟩)

theorem c_ofh (on : List Bool) (tx : List Int) (h : Int) (w : World) (hon : on.length = 8) (htx : tx.length = 8) : CT Try.prog 9 #[(.agg (pinC on tx).toArray), (.int .i64 (h))] w fun v w' => ∃ x e, v = .tuple #[u32V x, .int .i64 e] ∧ (isO on h = true → tx[(h - 1).toNat]? = some x ∧ e = 0) ∧ (isO on h = false → x = 0 ∧ e = 140) ∧ Ext w w' := by
  obtain ⟨n0, hn0⟩ : ∃ n, n = w.heap.size := ⟨_, rfl⟩
  have hU : Upd (fun i => n0 ≤ i) w w := Upd.refl _ _
  refine CT_of Try.func9 rfl rfl rfl ?_
  refine W_seq ?_
  refine W_reg ?_
  refine L_op rfl (X_box (v := (.agg (pinC on tx).toArray)) (c := ((pinC on tx)).toArray) rfl rfl ?_)
  intro b1 w1 hn1
  have hbn1 := hn1.num; have hbs1 := hn1.size
  replace hU := hU.trans (Ext.upd hn1.ext)
  have hB1 := hn1.blk
  refine L_op rfl (X_assign (v := (.int .u32 (0))) rfl ?_)
  refine L_op rfl (X_assign (v := (.int .i64 (0))) rfl ?_)
  refine L_nil ?_
  refine T_n ?_
  refine W_seq ?_
  refine W_seq ?_
  refine W_reg ?_
  refine L_op rfl (X_fn (vs := [(ptr b1 (0))]) en14 rfl (CT.mono (c_of b1 _) ?_))
  rintro _ w2 ⟨rfl, hu2⟩
  have hz2 := hu2.size
  replace hU := hU.trans (Ext.upd hu2)
  replace hB1 := hB1.ext hu2
  refine L_op rfl (X_move (v := (.int .i64 (h))) rfl ?_)
  refine L_op rfl (X_fn (vs := [(.agg #[(.slice (some ⟨b1, 0, none⟩) 8 8), (.slice (some ⟨b1, 8, none⟩) 8 8)]), (.int .i64 (h))]) en16 rfl (CT.mono (c_topen b1 on tx h _ hB1 hon htx) ?_))
  rintro _ w3 ⟨rfl, hu3⟩
  have hz3 := hu3.size
  replace hU := hU.trans (Ext.upd hu3)
  replace hB1 := hB1.ext hu3
  rcases Bool.eq_false_or_eq_true ((isO on h)) with hc4 | hc4
  · rw [hc4]
    obtain ⟨h1, h2, h3⟩ := isO_true hc4
    refine L_op rfl (X_not (b := true) (r := false) rfl rfl ?_)
    refine L_nil ?_
    refine T_n ?_
    refine W_cf rfl ?_
    refine W_skip ?_
    refine T_n ?_
    refine W_seq ?_
    refine W_reg ?_
    refine L_op rfl (X_move (v := (.int .i64 (h))) rfl ?_)
    refine L_op rfl (X_arith (k := .i64) (a := h) (b := 1) (r := (h - 1 : Int)) rfl rfl rfl (isub64 rfl (by omega) (by omega)) ?_)
    refine L_op rfl (X_fldP (b := b1) (o := 0) (r := 8) Fd26_1 rfl rfl ?_)
    refine L_op rfl (X_idxAP (len := 8) (sz := 1) (b := b1) (o := 8) (k := .i64) (i := (h - 1 : Int)) (r := 8 + ((h - 1 : Int) : Int).toNat * 1) Try.underlying24 Z23 rfl rfl (by omega) (by omega) (by omega) ?_)
    obtain ⟨x, hx⟩ : ∃ x, tx[(h - 1).toNat]? = some x := ⟨_, List.getElem?_eq_getElem (by omega)⟩
    refine L_op rfl (X_load (p := (ptr b1 (8 + ((h - 1 : Int) : Int).toNat * 1))) (v := u32V x) T23 rfl (hB1.at1 (by rw [List.getElem?_toArray]; unfold pinC; rw [List.getElem?_append_right (by rw [List.length_map]; omega), List.length_map, show 8 + (h - 1 : Int).toNat * 1 - on.length = (h - 1).toNat by omega, List.getElem?_map, hx]; rfl)) ?_)
    refine L_op rfl (X_assign (v := (u32V x)) rfl ?_)
    refine L_op rfl (X_assign (v := (.int .i64 (0))) rfl ?_)
    refine L_nil ?_
    refine T_n ?_
    refine W_ret ?_
    exact BQ_r (End_2 Try.results9 (v1 := u32V x) (v2 := .int .i64 0) rfl rfl ⟨_, _, rfl, fun _ => ⟨hx, rfl⟩, fun h4 => (by cases h4), hU.own hn0⟩)
  · rw [hc4]
    refine L_op rfl (X_not (b := false) (r := true) rfl rfl ?_)
    refine L_nil ?_
    refine T_n ?_
    refine W_ct rfl ?_
    refine W_seq ?_
    refine W_reg ?_
    refine L_op rfl (X_assign (v := (.int .u32 (0))) rfl ?_)
    refine L_op rfl (X_assign (v := (.int .i64 (140))) rfl ?_)
    refine L_nil ?_
    refine T_n ?_
    refine W_ret ?_
    refine T_r ?_
    exact BQ_r (End_2 Try.results9 (v1 := u32V 0) (v2 := .int .i64 140) rfl rfl ⟨_, _, rfl, fun h4 => (by cases h4), fun _ => ⟨rfl, rfl⟩, hU.own hn0⟩)

theorem c_close (on : List Bool) (tx : List Int) (h : Int) (w : World) (hon : on.length = 8) (htx : tx.length = 8) : CT Try.prog 10 #[(.agg (pinC on tx).toArray), (.int .i64 (h))] w fun v w' => ∃ on' tx' e, v = .tuple #[.agg (pinC on' tx').toArray, .int .i64 e] ∧ on'.length = 8 ∧ tx'.length = 8 ∧ (isO on h = true → on' = on.set (h - 1).toNat false ∧ tx' = tx.set (h - 1).toNat 0 ∧ e = 0) ∧ (isO on h = false → on' = on ∧ tx' = tx ∧ e = 140) ∧ Ext w w' := by
  obtain ⟨n0, hn0⟩ : ∃ n, n = w.heap.size := ⟨_, rfl⟩
  have hU : Upd (fun i => n0 ≤ i) w w := Upd.refl _ _
  refine CT_of Try.func10 rfl rfl rfl ?_
  refine W_seq ?_
  refine W_reg ?_
  refine L_op rfl (X_box (v := (.agg (pinC on tx).toArray)) (c := ((pinC on tx)).toArray) rfl rfl ?_)
  intro b1 w1 hn1
  have hbn1 := hn1.num; have hbs1 := hn1.size
  replace hU := hU.trans (Ext.upd hn1.ext)
  have hB1 := hn1.blk
  refine L_op rfl (X_alloc (z := (.agg #[(.bool (false)), (.bool (false)), (.bool (false)), (.bool (false)), (.bool (false)), (.bool (false)), (.bool (false)), (.bool (false)), (.int .u32 (0)), (.int .u32 (0)), (.int .u32 (0)), (.int .u32 (0)), (.int .u32 (0)), (.int .u32 (0)), (.int .u32 (0)), (.int .u32 (0))])) (c := #[(.bool (false)), (.bool (false)), (.bool (false)), (.bool (false)), (.bool (false)), (.bool (false)), (.bool (false)), (.bool (false)), (.int .u32 (0)), (.int .u32 (0)), (.int .u32 (0)), (.int .u32 (0)), (.int .u32 (0)), (.int .u32 (0)), (.int .u32 (0)), (.int .u32 (0))]) Zv26 rfl ?_)
  intro b2 w2 hn2
  have hbn2 := hn2.num; have hbs2 := hn2.size
  replace hU := hU.trans (Ext.upd hn2.ext)
  replace hB1 := hB1.ext hn2.ext
  have hB2 := hn2.blk
  refine L_op rfl (X_assign (v := (.int .i64 (0))) rfl ?_)
  refine L_nil ?_
  refine T_n ?_
  refine W_seq ?_
  refine W_seq ?_
  refine W_reg ?_
  refine L_op rfl (X_fn (vs := [(ptr b1 (0))]) en14 rfl (CT.mono (c_of b1 _) ?_))
  rintro _ w3 ⟨rfl, hu3⟩
  have hz3 := hu3.size
  replace hU := hU.trans (Ext.upd hu3)
  replace hB1 := hB1.ext hu3
  replace hB2 := hB2.ext hu3
  refine L_op rfl (X_move (v := (.int .i64 (h))) rfl ?_)
  refine L_op rfl (X_fn (vs := [(.agg #[(.slice (some ⟨b1, 0, none⟩) 8 8), (.slice (some ⟨b1, 8, none⟩) 8 8)]), (.int .i64 (h))]) en16 rfl (CT.mono (c_topen b1 on tx h _ hB1 hon htx) ?_))
  rintro _ w4 ⟨rfl, hu4⟩
  have hz4 := hu4.size
  replace hU := hU.trans (Ext.upd hu4)
  replace hB1 := hB1.ext hu4
  replace hB2 := hB2.ext hu4
  rcases Bool.eq_false_or_eq_true ((isO on h)) with hc5 | hc5
  · rw [hc5]
    obtain ⟨h1, h2, h3⟩ := isO_true hc5
    refine L_op rfl (X_not (b := true) (r := false) rfl rfl ?_)
    refine L_nil ?_
    refine T_n ?_
    refine W_cf rfl ?_
    refine W_skip ?_
    refine T_n ?_
    refine W_seq ?_
    refine W_reg ?_
    refine L_op rfl (X_move (v := (.int .i64 (h))) rfl ?_)
    refine L_op rfl (X_arith (k := .i64) (a := h) (b := 1) (r := (h - 1 : Int)) rfl rfl rfl (isub64 rfl (by omega) (by omega)) ?_)
    refine L_op rfl (X_move (v := (.int .i64 (h))) rfl ?_)
    refine L_op rfl (X_arith (k := .i64) (a := h) (b := 1) (r := (h - 1 : Int)) rfl rfl rfl (isub64 rfl (by omega) (by omega)) ?_)
    refine L_op rfl (X_fldP (b := b1) (o := 0) (r := 0) Fd26_0 rfl rfl ?_)
    refine L_op rfl (X_idxAP (len := 8) (sz := 1) (b := b1) (o := 0) (k := .i64) (i := (h - 1 : Int)) (r := ((h - 1 : Int) : Int).toNat) Try.underlying22 Z4 rfl rfl (by omega) (by omega) (by omega) ?_)
    refine L_op0 (X_store (b := b1) (o := (h - 1 : Int).toNat) (v := .bool false) T4 rfl rfl rfl hB1 (by rw [List.size_toArray, (pinC_len hon htx)]; omega) ?_)
    intro w6 hu6 hb6
    have hz6 := hu6.size
    replace hU := hU.trans (hu6.mono fun i _ h => by have h : i = b1 := h; show n0 ≤ i; omega)
    replace hB2 := hB2.upd hu6 fun h => by have h : b2 = b1 := h; omega
    rw [pin_setOn hon (by omega)] at hb6
    replace hB1 := hb6
    refine L_op rfl (X_fldP (b := b1) (o := 0) (r := 8) Fd26_1 rfl rfl ?_)
    refine L_op rfl (X_idxAP (len := 8) (sz := 1) (b := b1) (o := 8) (k := .i64) (i := (h - 1 : Int)) (r := 8 + ((h - 1 : Int) : Int).toNat * 1) Try.underlying24 Z23 rfl rfl (by omega) (by omega) (by omega) ?_)
    refine L_op0 (X_store (b := b1) (o := 8 + (h - 1 : Int).toNat * 1) (v := u32V 0) T23 rfl rfl rfl hB1 (by rw [List.size_toArray, (pinC_len (by rw [List.length_set]; exact hon) htx)]; omega) ?_)
    intro w7 hu7 hb7
    have hz7 := hu7.size
    replace hU := hU.trans (hu7.mono fun i _ h => by have h : i = b1 := h; show n0 ≤ i; omega)
    replace hB2 := hB2.upd hu7 fun h => by have h : b2 = b1 := h; omega
    rw [show 8 + (h - 1 : Int).toNat * 1 = 8 + (h - 1).toNat by omega, pin_setTx (by rw [List.length_set]; exact hon)] at hb7
    replace hB1 := hb7
    refine L_nil ?_
    refine T_n ?_
    refine W_seq ?_
    refine W_reg ?_
    refine L_op rfl (X_loadA (p := (ptr b1 (0))) (xs := (pinC (on.set (h - 1).toNat false) (tx.set (h - 1).toNat 0))) A26 rfl hB1.atAll (pinC_len (by rw [List.length_set]; exact hon) (by rw [List.length_set]; exact htx)) ?_)
    refine L_op0 (X_storeW (b := b2) (ys := (pinC (on.set (h - 1).toNat false) (tx.set (h - 1).toNat 0))) A26 rfl rfl (pinC_one _ _) (pinC_len (by rw [List.length_set]; exact hon) (by rw [List.length_set]; exact htx)) hB2 rfl ?_)
    intro w8 hu8 hb8
    have hz8 := hu8.size
    replace hU := hU.trans (hu8.mono fun i _ h => by have h : i = b2 := h; show n0 ≤ i; omega)
    replace hB1 := hB1.upd hu8 fun h => by have h : b1 = b2 := h; omega
    replace hB2 := hb8
    refine L_op rfl (X_assign (v := (.int .i64 (0))) rfl ?_)
    refine L_nil ?_
    refine T_n ?_
    refine W_ret ?_
    exact BQ_r (End_2 Try.results10 (RV_A A26 rfl hB2.atAll (pinC_len (by rw [List.length_set]; exact hon) (by rw [List.length_set]; exact htx))) (v2 := .int .i64 0) rfl ⟨_, _, _, rfl, (by rw [List.length_set]; exact hon), (by rw [List.length_set]; exact htx), fun _ => ⟨rfl, rfl, rfl⟩, fun h4 => (by cases h4), hU.own hn0⟩)
  · rw [hc5]
    refine L_op rfl (X_not (b := false) (r := true) rfl rfl ?_)
    refine L_nil ?_
    refine T_n ?_
    refine W_ct rfl ?_
    refine W_seq ?_
    refine W_reg ?_
    refine L_op rfl (X_loadA (p := (ptr b1 (0))) (xs := (pinC on tx)) A26 rfl hB1.atAll (pinC_len hon htx) ?_)
    refine L_op0 (X_storeW (b := b2) (ys := (pinC on tx)) A26 rfl rfl (pinC_one _ _) (pinC_len hon htx) hB2 rfl ?_)
    intro w9 hu9 hb9
    have hz9 := hu9.size
    replace hU := hU.trans (hu9.mono fun i _ h => by have h : i = b2 := h; show n0 ≤ i; omega)
    replace hB1 := hB1.upd hu9 fun h => by have h : b1 = b2 := h; omega
    replace hB2 := hb9
    refine L_op rfl (X_assign (v := (.int .i64 (140))) rfl ?_)
    refine L_nil ?_
    refine T_n ?_
    refine W_ret ?_
    refine T_r ?_
    exact BQ_r (End_2 Try.results10 (RV_A A26 rfl hB2.atAll (pinC_len hon htx)) (v2 := .int .i64 140) rfl ⟨_, _, _, rfl, hon, htx, fun h4 => (by cases h4), fun _ => ⟨rfl, rfl, rfl⟩, hU.own hn0⟩)

theorem c_put (b : Nat) (on : List Bool) (tx : List Int) (x : Int) (w : World) (hP : Blk w b (pinC on tx).toArray 26) (hon : on.length = 8) (htx : tx.length = 8) : CT Try.prog 17 #[(.agg #[(.slice (some ⟨b, 0, none⟩) 8 8), (.slice (some ⟨b, 8, none⟩) 8 8)]), (u32V x)] w fun v w' => v = .int .i64 (if fstO on < 8 then ((fstO on + 1 : Nat) : Int) else 0) ∧ Blk w' b (pinC (on.set (fstO on) true) (tx.set (fstO on) x)).toArray 26 ∧ Upd (fun i => i = b) w w' := by
  obtain ⟨n0, hn0⟩ : ∃ n, n = w.heap.size := ⟨_, rfl⟩
  have hbl := hP.lt
  have hV := Upd.refl (fun i => i = b ∨ n0 ≤ i) w
  refine CT_of Try.func17 rfl rfl rfl ?_
  refine W_seq ?_
  refine W_reg ?_
  refine L_op rfl (X_box (v := (.agg #[(.slice (some ⟨b, 0, none⟩) 8 8), (.slice (some ⟨b, 8, none⟩) 8 8)])) (c := ([(.slice (some ⟨b, 0, none⟩) 8 8), (.slice (some ⟨b, 8, none⟩) 8 8)]).toArray) rfl rfl ?_)
  intro b1 w1 hn1
  have hbn1 := hn1.num; have hbs1 := hn1.size
  replace hP := hP.ext hn1.ext
  replace hV := hV.trans (Ext.upd hn1.ext)
  have hB1 := hn1.blk
  refine L_op rfl (X_assign (v := (.int .i64 (0))) rfl ?_)
  refine L_nil ?_
  refine T_n ?_
  refine W_scopeQ ?_
  refine W_seq ?_
  refine W_label ?_
  refine T_n ?_
  refine W_seq ?_
  refine W_seq ?_
  refine W_reg ?_
  refine L_op rfl (X_fldP (b := b1) (o := 0) (r := 0) Fd48_0 rfl rfl ?_)
  refine L_op rfl (X_load (p := (ptr b1 (0))) (v := (.slice (some ⟨b, 0, none⟩) 8 8)) T46 rfl (hB1.at1 rfl) ?_)
  refine L_op rfl (X_len (v := (.slice (some ⟨b, 0, none⟩) 8 8)) (n := 8) Try.underlying46 rfl (sv8 b 0) ?_)
  refine L_op rfl (X_move (v := (.int .i64 (0))) rfl ?_)
  refine L_nil ?_
  refine T_n ?_
  refine W_block ?_
  refine W_loop (α := Nat) [4, 5, 6, 10, 11, 12, 13, 14, 15, 16, 17, 18, 19, 20, 21, 22, 23, 24, 25, 26, 27, 28] (fun i => [(10, (.int .i64 (((i : Nat) : Int)))), (4, (.int .i64 (0)))]) (fun i w_ => i ≤ 8 ∧ (∀ j, j < i → on[j]? = some true) ∧ Blk w_ b (pinC on tx).toArray 26 ∧ Blk w_ b1 #[(.slice (some ⟨b, 0, none⟩) 8 8), (.slice (some ⟨b, 8, none⟩) 8 8)] 48 ∧ Upd (fun i => i = b ∨ n0 ≤ i) w w_) (fun i => 8 - i) ⟨rfl, 0, ⟨Nat.zero_le _, fun j h => absurd h (Nat.not_lt_zero j), hP, hB1, hV⟩, Out.refl _ _, ⟨rfl, rfl, trivial⟩⟩ ?_
  rintro i w2 _ ⟨hil, hall, hP, hB1, hV⟩
  have hbl2 := hB1.lt
  refine W_seq ?_
  refine W_reg ?_
  by_cases hc3 : (((i : Nat) : Int) : Int) < (8)
  · refine L_op rfl (X_cmp (k := .i64) (a := ((i : Nat) : Int)) (b := 8) (r := true) rfl rfl rfl (decide_eq_true (p := ((((i : Nat) : Int)) : Int) < ((8) : Int)) (by omega)) ?_)
    refine L_nil ?_
    refine T_n ?_
    refine W_seq ?_
    refine W_ct rfl ?_
    refine W_skip ?_
    refine T_n ?_
    refine W_seq ?_
    refine W_block ?_
    refine W_seq ?_
    refine W_reg ?_
    refine L_op rfl (X_move (v := (.int .i64 (((i : Nat) : Int)))) rfl ?_)
    refine L_op rfl (X_idx (v := (.slice (some ⟨b, 0, none⟩) 8 8)) (n := 8) (k := .i64) (i := ((i : Nat) : Int)) S46 rfl (sv8 b 0) rfl (by omega) (by omega) ?_)
    obtain ⟨o1, ho1⟩ : ∃ o, on[i]? = some o := ⟨_, List.getElem?_eq_getElem (by omega)⟩
    have hR := pin_on hP hon
    rcases Bool.eq_false_or_eq_true o1 with ho2 | ho2
    · rw [ho2] at ho1
      refine L_op rfl (X_load (v := .bool true) T4 rfl (hR.cell (by rw [show (((i : Nat) : Int) : Int).toNat * 1 = i by omega, List.getElem?_map, ho1]; rfl)) ?_)
      refine L_op rfl (X_assign (v := (.int .i64 (((i : Nat) : Int)))) rfl ?_)
      refine L_op rfl (X_assign (v := (.bool (true))) rfl ?_)
      refine L_nil ?_
      refine T_n ?_
      refine W_seq ?_
      refine W_reg ?_
      refine L_op rfl (X_move (v := (.bool (true))) rfl ?_)
      refine L_op rfl (X_not (b := true) (r := false) rfl rfl ?_)
      refine L_nil ?_
      refine T_n ?_
      refine W_cf rfl ?_
      refine W_skip ?_
      refine B_n ?_
      refine T_n ?_
      refine W_reg ?_
      refine L_op rfl (X_arith (k := .i64) (a := ((i : Nat) : Int)) (b := 1) (r := ((i + 1 : Nat) : Int)) rfl rfl rfl (iadd64 (by omega) (by omega) (by omega)) ?_)
      refine L_op rfl (X_move (v := (.int .i64 (((i + 1 : Nat) : Int)))) rfl ?_)
      refine L_nil ?_
      refine T_n ?_
      exact ⟨rfl, i + 1, ⟨⟨by omega, fun j hj => (Nat.lt_or_ge j i).elim (hall j) fun h => by obtain rfl : j = i := by { omega }; exact ho1, hP, hB1, hV⟩, (by show 8 - (i + 1) < 8 - i; omega)⟩, (Out.mk rfl), ⟨rfl, rfl, trivial⟩⟩
    · rw [ho2] at ho1
      refine L_op rfl (X_load (v := .bool false) T4 rfl (hR.cell (by rw [show (((i : Nat) : Int) : Int).toNat * 1 = i by omega, List.getElem?_map, ho1]; rfl)) ?_)
      have hfst := fst_at ho1 hall
      refine L_op rfl (X_assign (v := (.int .i64 (((i : Nat) : Int)))) rfl ?_)
      refine L_op rfl (X_assign (v := (.bool (false))) rfl ?_)
      refine L_nil ?_
      refine T_n ?_
      refine W_seq ?_
      refine W_reg ?_
      refine L_op rfl (X_move (v := (.bool (false))) rfl ?_)
      refine L_op rfl (X_not (b := false) (r := true) rfl rfl ?_)
      refine L_nil ?_
      refine T_n ?_
      refine W_ct rfl ?_
      refine W_seq ?_
      obtain ⟨bb, hbb⟩ : ∃ n, n = b := ⟨_, rfl⟩
      refine W_drawS 9 [[], [0], [], [], [3], [], [], [0, 1, 2], [0, 1, 2, 7], [0, 1, 2, 3, 4, 5, 6, 7, 8], [0, 1, 2, 3, 4, 5, 6, 7, 8, 9]] (fun j b => (j = 8 ∧ b = bb)) mixed (by kernel_rfl) ?_
      refine ⟨.det (fun val => (ptr b1 (0))), ⟨fun _ _ hv => rfl, fun _ _ _ _ _ => trivial⟩, fun val h_ W hx he => ⟨trivial, ?_⟩, ?_⟩
      · replace hx := (Upd.drew _ _).trans hx
        replace hx : Upd (fun b => False) w2 W := hx.mono fun b _ h_ => by obtain ⟨j, _, hne, hm_, hS⟩ := h_; obtain ⟨rfl, hS⟩ := hS; exact absurd hm_ (by decide)
        replace hP := hP.ext hx
        replace hB1 := hB1.ext hx
        have hE := Upd.refl (fun _ => False) W
        refine id (X_fldP (b := b1) (o := 0) (r := 0) Fd48_0 rfl rfl ?_)
        exact ⟨Ext.upd hE, rfl⟩
      refine ⟨.det (fun val => (.slice (some ⟨b, 0, none⟩) 8 8)), ⟨fun _ _ hv => rfl, fun _ _ _ _ _ => trivial⟩, fun val h_ W hx he => ⟨trivial, ?_⟩, ?_⟩
      · replace hx := (Upd.drew _ _).trans hx
        replace hx : Upd (fun b => False) w2 W := hx.mono fun b _ h_ => by obtain ⟨j, _, hne, hm_, hS⟩ := h_; obtain ⟨rfl, hS⟩ := hS; exact absurd hm_ (by decide)
        replace hP := hP.ext hx
        replace hB1 := hB1.ext hx
        have hE := Upd.refl (fun _ => False) W
        refine id (X_load (p := (ptr b1 (0))) (v := (.slice (some ⟨b, 0, none⟩) 8 8)) T46 rfl (hB1.at1 rfl) ?_)
        exact ⟨Ext.upd hE, rfl⟩
      refine ⟨.det (fun val => (.int .i64 (((i : Nat) : Int)))), ⟨fun _ _ hv => rfl, fun _ _ _ _ _ => trivial⟩, fun val h_ W hx he => ⟨trivial, ?_⟩, ?_⟩
      · replace hx := (Upd.drew _ _).trans hx
        replace hx : Upd (fun b => False) w2 W := hx.mono fun b _ h_ => by obtain ⟨j, _, hne, hm_, hS⟩ := h_; obtain ⟨rfl, hS⟩ := hS; exact absurd hm_ (by decide)
        replace hP := hP.ext hx
        replace hB1 := hB1.ext hx
        have hE := Upd.refl (fun _ => False) W
        refine id (X_move (v := (.int .i64 (((i : Nat) : Int)))) rfl ?_)
        exact ⟨Ext.upd hE, rfl⟩
      refine ⟨.det (fun val => (ptr b1 (1))), ⟨fun _ _ hv => rfl, fun _ _ _ _ _ => trivial⟩, fun val h_ W hx he => ⟨trivial, ?_⟩, ?_⟩
      · replace hx := (Upd.drew _ _).trans hx
        replace hx : Upd (fun b => (b = bb)) w2 W := hx.mono fun b _ h_ => by obtain ⟨j, _, hne, hm_, hS⟩ := h_; obtain ⟨rfl, hS⟩ := hS; exact hS
        replace hB1 := hB1.upd hx fun h => by have h : b1 = bb := h; omega
        have hE := Upd.refl (fun _ => False) W
        refine id (X_fldP (b := b1) (o := 0) (r := 1) Fd48_1 rfl rfl ?_)
        exact ⟨Ext.upd hE, rfl⟩
      refine ⟨.det (fun val => (.slice (some ⟨b, 8, none⟩) 8 8)), ⟨fun _ _ hv => rfl, fun _ _ _ _ _ => trivial⟩, fun val h_ W hx he => ⟨trivial, ?_⟩, ?_⟩
      · replace hx := (Upd.drew _ _).trans hx
        replace hx : Upd (fun b => (b = bb)) w2 W := hx.mono fun b _ h_ => by obtain ⟨j, _, hne, hm_, hS⟩ := h_; obtain ⟨rfl, hS⟩ := hS; exact hS
        replace hB1 := hB1.upd hx fun h => by have h : b1 = bb := h; omega
        have hE := Upd.refl (fun _ => False) W
        refine id (X_load (p := (ptr b1 (1))) (v := (.slice (some ⟨b, 8, none⟩) 8 8)) T27 rfl (hB1.at1 rfl) ?_)
        exact ⟨Ext.upd hE, rfl⟩
      refine ⟨.det (fun val => (.int .i64 (((i : Nat) : Int)))), ⟨fun _ _ hv => rfl, fun _ _ _ _ _ => trivial⟩, fun val h_ W hx he => ⟨trivial, ?_⟩, ?_⟩
      · replace hx := (Upd.drew _ _).trans hx
        replace hx : Upd (fun b => (b = bb)) w2 W := hx.mono fun b _ h_ => by obtain ⟨j, _, hne, hm_, hS⟩ := h_; obtain ⟨rfl, hS⟩ := hS; exact hS
        replace hB1 := hB1.upd hx fun h => by have h : b1 = bb := h; omega
        have hE := Upd.refl (fun _ => False) W
        refine id (X_move (v := (.int .i64 (((i : Nat) : Int)))) rfl ?_)
        exact ⟨Ext.upd hE, rfl⟩
      refine ⟨.det (fun val => (u32V x)), ⟨fun _ _ hv => rfl, fun _ _ _ _ _ => trivial⟩, fun val h_ W hx he => ⟨trivial, ?_⟩, ?_⟩
      · replace hx := (Upd.drew _ _).trans hx
        replace hx : Upd (fun b => (b = bb)) w2 W := hx.mono fun b _ h_ => by obtain ⟨j, _, hne, hm_, hS⟩ := h_; obtain ⟨rfl, hS⟩ := hS; exact hS
        replace hB1 := hB1.upd hx fun h => by have h : b1 = bb := h; omega
        have hE := Upd.refl (fun _ => False) W
        refine id (X_move (v := (u32V x)) rfl ?_)
        exact ⟨Ext.upd hE, rfl⟩
      refine ⟨.det (fun val => (pof (.slice (some ⟨b, 0, none⟩) 8 8) ((((i : Nat) : Int) : Int).toNat * 1))), ⟨fun _ _ hv => rfl, fun _ _ _ _ _ => trivial⟩, fun val h_ W hx he => ⟨trivial, ?_⟩, ?_⟩
      · replace hx := (Upd.drew _ _).trans hx
        replace hx : Upd (fun b => False) w2 W := hx.mono fun b _ h_ => by obtain ⟨j, _, hne, hm_, hS⟩ := h_; obtain ⟨rfl, hS⟩ := hS; exact absurd hm_ (by decide)
        replace hP := hP.ext hx
        replace hB1 := hB1.ext hx
        have hE := Upd.refl (fun _ => False) W
        refine id (X_idx (v := (.slice (some ⟨b, 0, none⟩) 8 8)) (n := 8) (k := .i64) (i := ((i : Nat) : Int)) S46 rfl (sv8 b 0) rfl (by omega) (by omega) ?_)
        exact ⟨Ext.upd hE, rfl⟩
      refine ⟨.abs (fun _ _ W_ => Blk W_ b (pinC (on.set i true) tx).toArray 26), ⟨fun _ _ _ => rfl, fun _ _ _ _ hu0 h => have hu : Upd (fun b => False) _ _ := hu0.mono fun b _ h_ => (by obtain ⟨j, _, hne, hm_, hS⟩ := h_; obtain ⟨rfl, hS⟩ := hS; exact absurd rfl hne)
         Blk.ext h hu⟩, fun val h_ W hx he => ⟨trivial, ?_⟩, ?_⟩
      · replace hx := (Upd.drew _ _).trans hx
        replace hx : Upd (fun b => False) w2 W := hx.mono fun b _ h_ => by obtain ⟨j, _, hne, hm_, hS⟩ := h_; obtain ⟨rfl, hS⟩ := hS; exact absurd rfl hne
        replace hP := hP.ext hx
        replace hB1 := hB1.ext hx
        have hE := Upd.refl (fun _ => False) W
        refine X_store (b := b) (o := i) (v := .bool true) T4 ((pof_at b 0 (((i : Nat) : Int).toNat * 1)).trans (congrArg (ptr b) (by omega))) rfl rfl hP (by rw [List.size_toArray, pinC_len hon htx]; omega) ?_
        intro w7 hu7 hb7
        rw [pin_setOn hon (by omega)] at hb7
        exact ⟨hu7.mono fun b_ _ h => ⟨rfl, h.trans hbb.symm⟩, hb7⟩
      intro val W4 hx4 he4
      replace hx4 := (Upd.drew _ _).trans hx4
      replace hx4 : Upd (fun b => (b = bb)) w2 W4 := hx4.mono fun b _ h_ => by obtain ⟨j, _, hS⟩ := h_; obtain ⟨rfl, hS⟩ := hS; exact hS
      have hz4 := hx4.size
      replace hB1 := hB1.upd hx4 fun h => by have h : b1 = bb := h; omega
      replace hV := hV.trans (hx4.mono fun i _ h => Or.inl (h.trans hbb))
      obtain ⟨hP8, he4⟩ := he4
      refine L_op rfl (X_idx (v := (.slice (some ⟨b, 8, none⟩) 8 8)) (n := 8) (k := .i64) (i := ((i : Nat) : Int)) S27 rfl (sv8 b 8) rfl (by omega) (by omega) ?_)
      refine L_op0 (X_store (b := b) (o := 8 + i) (v := u32V x) T23 ((pof_at b 8 (((i : Nat) : Int).toNat * 1)).trans (congrArg (ptr b) (by omega))) rfl rfl hP8 (by rw [List.size_toArray, pinC_len (by rw [List.length_set]; exact hon) htx]; omega) ?_)
      intro w9 hu9 hb9
      have hz9 := hu9.size
      rw [pin_setTx (by rw [List.length_set]; exact hon)] at hb9
      replace hB1 := hB1.upd hu9 fun h => by have h : b1 = b := h; omega
      replace hV := hV.trans (hu9.mono fun i _ h => Or.inl h)
      refine L_nil ?_
      refine T_n ?_
      refine W_seq ?_
      refine W_reg ?_
      refine L_op rfl (X_move (v := (.int .i64 (((i : Nat) : Int)))) rfl ?_)
      refine L_op rfl (X_arith (k := .i64) (a := ((i : Nat) : Int)) (b := 1) (r := ((i : Nat) + 1 : Int)) rfl rfl rfl (iadd64 rfl (by omega) (by omega)) ?_)
      refine L_op rfl (X_assign (v := (.int .i64 (((i : Nat) + 1 : Int)))) rfl ?_)
      refine L_nil ?_
      refine T_n ?_
      refine W_exit ?_
      refine B_e rfl ?_
      refine T_e ?_
      refine T_e ?_
      refine B_x ?_
      refine T_n ?_
      refine W_seq ?_
      refine W_reg ?_
      refine L_op rfl (X_move (v := (.int .i64 (((i : Nat) + 1 : Int)))) rfl ?_)
      refine L_op rfl (X_assign (v := (.int .i64 (((i : Nat) + 1 : Int)))) rfl ?_)
      refine L_nil ?_
      refine T_n ?_
      refine W_ret ?_
      refine S_r ?_
      exact BQ_r (End_1 Try.results17 (v := .int .i64 ((i : Nat) + 1 : Int)) rfl ⟨by rw [hfst, if_pos (by omega)]; rfl, by rw [hfst]; exact hb9, hV.mono fun j hj h => h.elim id fun h => by omega⟩)
  · refine L_op rfl (X_cmp (k := .i64) (a := ((i : Nat) : Int)) (b := 8) (r := false) rfl rfl rfl (decide_eq_false (p := ((((i : Nat) : Int)) : Int) < ((8) : Int)) (by omega)) ?_)
    have hfa : fstO on = 8 := (fst_all fun j hj => hall j (by omega)).trans hon
    refine L_nil ?_
    refine T_n ?_
    refine W_seq ?_
    refine W_cf rfl ?_
    refine W_exit ?_
    refine T_e ?_
    refine T_e ?_
    refine B_x ?_
    refine T_n ?_
    refine W_seq ?_
    refine W_reg ?_
    refine L_op rfl (X_move (v := (.int .i64 (0))) rfl ?_)
    refine L_op rfl (X_assign (v := (.int .i64 (0))) rfl ?_)
    refine L_nil ?_
    refine T_n ?_
    refine W_ret ?_
    refine S_r ?_
    exact BQ_r (End_1 Try.results17 (v := .int .i64 0) rfl ⟨by rw [hfa, if_neg (by omega)], by rw [hfa, List.set_eq_of_length_le (by omega), List.set_eq_of_length_le (by omega)]; exact hP, hV.mono fun j hj h => h.elim id fun h => by omega⟩)
end Go.Proofs.Ytlelcjppakmnaaa
