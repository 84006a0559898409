/-
  The card LeafOwn: the row's statement out of its walk, the listed table tied to the program's text. (Printed by wip/gen/bridge.py of this repo.)
-/
import Derived.Test.YtmddmghgkkjbiaaDoorRows
import Derived.Test.YtmddmghgkkjbiaaDoorTie
import Derived.Test.YtmddmghgkkjbiaaDoorCards
import Derived.WalkKit
import Derived.ProofKit
import Derived.OpenShut
import Derived.JoinedOf
import Derived.JoinedCond
import Derived.Handed
import Derived.ChangeVars
import Derived.LaidLaws
import Derived.LaidHandle
import Derived.SevenTiedAt
import Derived.Test.YtmddmghgkkjbiaaDoorBaseY
import Derived.Test.YtmddmghgkkjbiaaDoorArg
import Derived.Test.YtmddmghgkkjbiaaDoorOwn
namespace Go.Proofs.YtmddmghgkkjbiaaDoor.leafOwn
open Go Go.SL Go.Proofs Go.ChangeShapes Go.WideShapes Go.ChangeAt Go.RowKit
set_option linter.unusedVariables false

theorem own : ownKnob Tryd.prog.godebug = none := by kernel_rfl
theorem laidOut : laidOutB Tryd.prog = true := by kernel_rfl
theorem readable : (Tryd.f7.params.toList.all fun t => Tryd.prog.readableRec t && decide (t < Tryd.prog.types.size)) = true := by kernel_rfl
theorem gname : Tryd.prog.globalNamed "suture/ptr.widths" = some 0 := by kernel_rfl
theorem gtype : (Tryd.prog.globals[0]?).map (·.type) = some 70 := by kernel_rfl
theorem tab {W : World} (h : laidMetH Tryd.prog [("suture/ptr.widths", Rows.laid_suture_ptr_widths)] W) : TabR W := by
  have h' : laidMet Tryd.prog [("suture/ptr.widths", Rows.laid_suture_ptr_widths)] W := h
  have h2 := cells_of_laid gname gtype Tryd.underlying70 Tryd.underlying3 (by kernel_rfl) (by kernel_rfl) h'
  exact tab_of_var (l := [1, 2, 2, 4, 8]) gname (by decide) h2
noncomputable def laidWorld (os : Os) : World :=
  { World.holding Tryd.prog os ⟨#[], #[], []⟩ with heap := (World.holding Tryd.prog os ⟨#[], #[], []⟩).heap.modify 0 fun
      | .cells _ t frozen => .cells #[.int .i64 1, .int .i64 2, .int .i64 2, .int .i64 4, .int .i64 8] t frozen
      | o => o }
theorem ity : ItTy Tryd.prog 43 :=
  ⟨⟨_, _, _, _, _, _, _, _, 5, 36, Tryd.underlying43, rfl, rfl, rfl, rfl, Tryd.underlying35, Tryd.underlying35, Tryd.underlying5, by kernel_rfl, by kernel_rfl, by kernel_rfl, Tryd.underlying41, by kernel_rfl, Tryd.underlying36, by kernel_rfl, rfl, rfl, rfl, rfl,
    Tryd.underlying5, Tryd.underlying37, Tryd.underlying36, Tryd.underlying38, Tryd.underlying39, by kernel_rfl, by kernel_rfl, by kernel_rfl, by kernel_rfl, by kernel_rfl⟩, by kernel_rfl⟩
theorem laidWorld_row (os : Os) : ((laidWorld os).forCall (fun _ _ => 0) ⟨#[], #[.slice none 0 0], []⟩).memory.heap[0]? = some (.cells #[.int .i64 1, .int .i64 2, .int .i64 2, .int .i64 4, .int .i64 8] 70 (0, 0)) := by kernel_rfl
theorem laidWorld_met (os : Os) : laidMetH Tryd.prog [("suture/ptr.widths", Rows.laid_suture_ptr_widths)] ((laidWorld os).forCall (fun _ _ => 0) ⟨#[], #[.slice none 0 0], []⟩).memory := by
  show laidMet Tryd.prog [("suture/ptr.widths", Rows.laid_suture_ptr_widths)] _
  exact ⟨_, ⟨0, 70, #[.int .i64 1, .int .i64 2, .int .i64 2, .int .i64 4, .int .i64 8], 8, [], [], by kernel_rfl, by kernel_rfl, by kernel_rfl, by kernel_rfl, rfl, rfl⟩, by decide, fun b off h => by
    have h' : MemPlace.cell b off ∈ [MemPlace.cell 0 0, .cell 0 1, .cell 0 2, .cell 0 3, .cell 0 4] := h
    have hb : b = 0 := by
      simp at h'
      omega
    subst hb
    refine ⟨⟨_, _, laidWorld_row os⟩, fun u v hc => ?_⟩
    simp only [World.cell?, laidWorld_row os] at hc
    simp at h'
    rcases h' with rfl | rfl | rfl | rfl | rfl <;> simp at hc⟩
theorem contract (H : Type) (enc : TypeId × Value → H) (W : World) (base : Nat) (args : Array Value) (ds gs : List (DataW H)) (before : List MemPlace)
    (hval : ∀ (j : Nat) t v, Tryd.f7.params[j]? = some t → args[j]? = some v → Value.okWide Tryd.prog W .any base t v)
    (hW : DataW.Whole enc Tryd.prog Tryd.f7.params.toList Rows.leafOwnSpec.vars false W args.toList ds gs before) (hTab : TabR W) :
    Calls Tryd.prog 7 args W fun e W' => ∃ v, e = .returned v ∧ Rows.leafOwnSpec.post enc Tryd.prog Tryd.f7 false true false false W args v W' := by
  have hW' := hW
  obtain ⟨p, q, hA0, hV, rfl, hfz, hnd⟩ := hW
  have hA : DataW.TrodAll enc Tryd.prog W 0 (fun _ => true) true Tryd.f7.params.toList args.toList ds p := hA0
  rw [Tryd.params7] at hA hval
  obtain ⟨v0, vs0, d0, ds0, p0, q0, hargs, rfl, rfl, h0, r0⟩ := trodAll_cons hA
  obtain ⟨rfl, rfl, rfl⟩ := trodAll_nil r0
  obtain rfl : args = #[v0] := by cases args; simp_all
  obtain ⟨rfl, rfl⟩ := trodVars_none hV
  obtain ⟨es0, hl0, hp0⟩ := open_itemsP Tryd.underlying22 ity (hval 0 22 v0 rfl rfl) h0
  clear hA0
  have hwalk := c_leafOwn v0 es0 W 0 W.heap.size (Nat.le_refl _) hl0 hp0 hTab
  refine Calls.mono hwalk ?_
  rintro e W' ⟨v, rfl, rfl, hx⟩
  exact ⟨_, rfl, law_post laidOut readable rfl Tryd.underlying4 rfl ⟨rfl, rfl, rfl⟩ hW' hx⟩
set_option maxRecDepth 100000 in
theorem lifted (os : Os) (started : os.Started) (H : Type) (enc : TypeId × Value → H) :
    ReturnsInHanded {} Tryd.checked os 7 .any (fun w args => (Rows.leafOwnSpec.pre enc Tryd.prog Tryd.f7 [] false w args ∧ laidMetH Tryd.prog [("suture/ptr.widths", Rows.laid_suture_ptr_widths)] w) ∧ sizedMet enc Tryd.prog Tryd.f7 (OpenSpec.ofChange Rows.leafOwnSpec) false w args)
      (Rows.leafOwnSpec.post enc Tryd.prog Tryd.f7 false true false false) := by
  refine returnsInHanded_of_change_and (C := Tryd.checked) (X := fun w _ => laidMetH Tryd.prog [("suture/ptr.widths", Rows.laid_suture_ptr_widths)] w) (fun _ _ _ hh h => h.of_heap hh) own started (by kernel_rfl) Tryd.func7
    (ChangeSpec.witness_at (enc := enc) (C := Tryd.checked) (os := os) (X := fun w _ => laidMetH Tryd.prog [("suture/ptr.widths", Rows.laid_suture_ptr_widths)] w) false (laidWorld os) #[.slice none 0 0] 8 rfl (by kernel_rfl) (by kernel_rfl) (by kernel_rfl) (by kernel_rfl) (by kernel_rfl) (laidWorld_met os)) ?_
  intro W base args ds gs before hval hW _ _ hL _
  exact contract H enc W base args ds gs before hval hW (tab hL)
theorem row_proved : Rows.LeafOwnSaid :=
  OpenClaim.holds_of_wide 7 Tryd.f7 rfl rfl rfl rfl rfl rfl rfl ⟨rfl, rfl, rfl, rfl, rfl⟩ rfl rfl rfl rfl rfl (by kernel_rfl) Tryd.func7 (by kernel_rfl)
    (of_decide_eq_true (by kernel_rfl)) (by unfold Func.isWrapper; first | (rw [if_pos (by decide +kernel)]; kernel_rfl) | (rw [if_neg (by decide +kernel)]; exact ⟨rfl, rfl⟩))
    (fun os started H enc _ => lifted os started H enc)
theorem proved : Rows.LeafOwnCardSaid :=
  Claim7.holds_tied_plain_at .later [] [.data] true (true, "e253765331f52f0e5b94a878c2fd6d4fb9a45289af619b5c589e1df180139648") false
    row_proved (fun _ h => by cases h) (by kernel_rfl) (fun _ h => by cases h) leafOwn_row_tie rfl ⟨rfl, rfl⟩ (by kernel_rfl) rfl
    (fun f fn hf hfn => by
      obtain rfl : f = 7 := Option.some.inj ((show Tryd.prog.funcNamed "suture/suturelaw06.LeafOwn" = some 7 by kernel_rfl).symm.trans hf) |>.symm
      obtain rfl : fn = Tryd.f7 := (Option.some.inj (Tryd.func7.symm.trans hfn)).symm
      exact ⟨by kernel_rfl, fun j t ht => by
        rw [Tryd.params7] at ht
        have hm := Array.mem_of_getElem? ht
        simp only [List.mem_toArray, List.mem_cons, List.not_mem_nil, or_false] at hm
        rcases hm with rfl
        · exact (show Tryd.prog.wantsStandIn 22 = false by kernel_rfl)⟩)
    (by kernel_rfl)
end Go.Proofs.YtmddmghgkkjbiaaDoor.leafOwn
