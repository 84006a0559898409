/-
  The card ChainTells: the row's statement out of its walk, the listed table tied to the program's text. (Printed by wip/gen/bridge.py of this repo.)
-/
import Derived.Test.YtmggaahkfidfaaaDoorRows
import Derived.Test.YtmggaahkfidfaaaDoorTie
import Derived.Test.YtmggaahkfidfaaaDoorCards
import Derived.WalkKit
import Derived.ProofKit
import Derived.OpenShut
import Derived.JoinedOf
import Derived.JoinedCond
import Derived.Handed
import Derived.ChangeVars
import Derived.LaidLaws
import Derived.LaidHandle
import Derived.SevenTiedAt
import Derived.Test.YtmggaahkfidfaaaDoorBaseY
import Derived.Test.YtmggaahkfidfaaaDoorTells
namespace Go.Proofs.YtmggaahkfidfaaaDoor.chainTells
open Go Go.SL Go.Proofs Go.ChangeShapes Go.WideShapes Go.ChangeAt Go.RowKit
set_option linter.unusedVariables false

theorem own : ownKnob Tryd.prog.godebug = none := by kernel_rfl
theorem laidOut : laidOutB Tryd.prog = true := by kernel_rfl
theorem readable : (Tryd.f5.params.toList.all fun t => Tryd.prog.readableRec t && decide (t < Tryd.prog.types.size)) = true := by kernel_rfl
theorem gname : Tryd.prog.globalNamed "suture/ptr.widths" = some 0 := by kernel_rfl
theorem gtype : (Tryd.prog.globals[0]?).map (·.type) = some 63 := by kernel_rfl
theorem tab {W : World} (h : laidMetH Tryd.prog [("suture/ptr.widths", Rows.laid_suture_ptr_widths)] W) : TabR W := by
  have h' : laidMet Tryd.prog [("suture/ptr.widths", Rows.laid_suture_ptr_widths)] W := h
  have h2 := cells_of_laid gname gtype Tryd.underlying63 Tryd.underlying3 (by kernel_rfl) (by kernel_rfl) h'
  exact tab_of_var (l := [1, 2, 2, 4, 8]) gname (by decide) h2
noncomputable def laidWorld (os : Os) : World :=
  { World.holding Tryd.prog os ⟨#[], #[], []⟩ with heap := (World.holding Tryd.prog os ⟨#[], #[], []⟩).heap.modify 0 fun
      | .cells _ t frozen => .cells #[.int .i64 1, .int .i64 2, .int .i64 2, .int .i64 4, .int .i64 8] t frozen
      | o => o }
theorem pty : PtrTy Tryd.prog 28 :=
  ⟨⟨_, _, _, _, 23, Tryd.underlying28, rfl, rfl, rfl, rfl, Tryd.underlying5, Tryd.underlying24, Tryd.underlying23, Tryd.underlying25, Tryd.underlying26, by kernel_rfl, by kernel_rfl, by kernel_rfl, by kernel_rfl, by kernel_rfl⟩, by kernel_rfl⟩
theorem laidWorld_row (os : Os) : ((laidWorld os).forCall (fun _ _ => 0) ⟨#[], #[.slice none 0 0, .agg #[.int .u8 0, .int .u16 0, .int .u16 0, .int .u32 0, .int .u64 0], .agg ((List.replicate 256 (.int .u8 0)).toArray), .int .i64 0], []⟩).memory.heap[0]? = some (.cells #[.int .i64 1, .int .i64 2, .int .i64 2, .int .i64 4, .int .i64 8] 63 (0, 0)) := by kernel_rfl
theorem laidWorld_met (os : Os) : laidMetH Tryd.prog [("suture/ptr.widths", Rows.laid_suture_ptr_widths)] ((laidWorld os).forCall (fun _ _ => 0) ⟨#[], #[.slice none 0 0, .agg #[.int .u8 0, .int .u16 0, .int .u16 0, .int .u32 0, .int .u64 0], .agg ((List.replicate 256 (.int .u8 0)).toArray), .int .i64 0], []⟩).memory := by
  show laidMet Tryd.prog [("suture/ptr.widths", Rows.laid_suture_ptr_widths)] _
  exact ⟨_, ⟨0, 63, #[.int .i64 1, .int .i64 2, .int .i64 2, .int .i64 4, .int .i64 8], 8, [], [], by kernel_rfl, by kernel_rfl, by kernel_rfl, by kernel_rfl, rfl, rfl⟩, by decide, fun b off h => by
    have h' : MemPlace.cell b off ∈ [MemPlace.cell 0 0, .cell 0 1, .cell 0 2, .cell 0 3, .cell 0 4] := h
    have hb : b = 0 := by
      simp at h'
      omega
    subst hb
    refine ⟨⟨_, _, laidWorld_row os⟩, fun u v hc => ?_⟩
    simp only [World.cell?, laidWorld_row os] at hc
    simp at h'
    rcases h' with rfl | rfl | rfl | rfl | rfl <;> simp at hc⟩
theorem contract (H : Type) (enc : TypeId × Value → H) (W : World) (base : Nat) (args : Array Value) (ds gs : List (DataW H)) (before : List MemPlace)
    (hval : ∀ (j : Nat) t v, Tryd.f5.params[j]? = some t → args[j]? = some v → Value.okWide Tryd.prog W .any base t v)
    (hW : DataW.Whole enc Tryd.prog Tryd.f5.params.toList Rows.chainTellsSpec.vars false W args.toList ds gs before) (hTab : TabR W) :
    Calls Tryd.prog 5 args W fun e W' => ∃ v, e = .returned v ∧ Rows.chainTellsSpec.post enc Tryd.prog Tryd.f5 false true false false W args v W' := by
  have hW' := hW
  obtain ⟨p, q, hA0, hV, rfl, hfz, hnd⟩ := hW
  have hA : DataW.TrodAll enc Tryd.prog W 0 (fun _ => true) true Tryd.f5.params.toList args.toList ds p := hA0
  rw [Tryd.params5] at hA hval
  obtain ⟨v0, vs0, d0, ds0, p0, q0, hargs, rfl, rfl, h0, r0⟩ := trodAll_cons hA
  obtain ⟨v1, vs1, d1, ds1, p1, q1, rfl, rfl, rfl, h1, r1⟩ := trodAll_cons r0
  obtain ⟨v2, vs2, d2, ds2, p2, q2, rfl, rfl, rfl, h2, r2⟩ := trodAll_cons r1
  obtain ⟨v3, vs3, d3, ds3, p3, q3, rfl, rfl, rfl, h3, r3⟩ := trodAll_cons r2
  obtain ⟨rfl, rfl, rfl⟩ := trodAll_nil r3
  obtain rfl : args = #[v0, v1, v2, v3] := by cases args; simp_all
  obtain ⟨rfl, rfl⟩ := trodVars_none hV
  obtain ⟨l0, hl0⟩ := open_bytes Tryd.underlying22 Tryd.underlying5 (by kernel_rfl) (hval 0 22 v0 rfl rfl) h0
  obtain ⟨q1, rfl, hq1⟩ := open_ptr pty (hval 1 28 v1 rfl rfl) h1
  obtain ⟨l2, hl2, rfl⟩ := open_byteArr (n := 256) Tryd.underlying30 Tryd.underlying5 (by kernel_rfl) (by kernel_rfl) (hval 2 30 v2 rfl rfl) h2
  obtain ⟨a3, rfl, rfl, rfl, w3⟩ := open_int Tryd.underlying3 (hval 3 3 v3 rfl rfl) h3
  clear hA0
  have hwalk := c_chainTells v0 l0 q1 l2 a3 W hq1 hl2 (by have := bounds_i64 w3; omega) hl0 hTab
  refine Calls.mono hwalk ?_
  rintro e W' ⟨v, rfl, rfl, hx⟩
  exact ⟨_, rfl, law_post laidOut readable rfl Tryd.underlying4 rfl ⟨rfl, rfl, rfl⟩ hW' hx⟩
set_option maxRecDepth 100000 in
theorem lifted (os : Os) (started : os.Started) (H : Type) (enc : TypeId × Value → H) :
    ReturnsInHanded {} Tryd.checked os 5 .any (fun w args => (Rows.chainTellsSpec.pre enc Tryd.prog Tryd.f5 [] false w args ∧ laidMetH Tryd.prog [("suture/ptr.widths", Rows.laid_suture_ptr_widths)] w) ∧ sizedMet enc Tryd.prog Tryd.f5 (OpenSpec.ofChange Rows.chainTellsSpec) false w args)
      (Rows.chainTellsSpec.post enc Tryd.prog Tryd.f5 false true false false) := by
  refine returnsInHanded_of_change_and (C := Tryd.checked) (X := fun w _ => laidMetH Tryd.prog [("suture/ptr.widths", Rows.laid_suture_ptr_widths)] w) (fun _ _ _ hh h => h.of_heap hh) own started (by kernel_rfl) Tryd.func5
    (ChangeSpec.witness_at (enc := enc) (C := Tryd.checked) (os := os) (X := fun w _ => laidMetH Tryd.prog [("suture/ptr.widths", Rows.laid_suture_ptr_widths)] w) false (laidWorld os) #[.slice none 0 0, .agg #[.int .u8 0, .int .u16 0, .int .u16 0, .int .u32 0, .int .u64 0], .agg ((List.replicate 256 (.int .u8 0)).toArray), .int .i64 0] 8 rfl (by kernel_rfl) (by kernel_rfl) (by kernel_rfl) (by kernel_rfl) (by kernel_rfl) (laidWorld_met os)) ?_
  intro W base args ds gs before hval hW _ _ hL _
  exact contract H enc W base args ds gs before hval hW (tab hL)
theorem row_proved : Rows.ChainTellsSaid :=
  OpenClaim.holds_of_wide 5 Tryd.f5 rfl rfl rfl rfl rfl rfl rfl ⟨rfl, rfl, rfl, rfl, rfl⟩ rfl rfl rfl rfl rfl (by kernel_rfl) Tryd.func5 (by kernel_rfl)
    (of_decide_eq_true (by kernel_rfl)) (by unfold Func.isWrapper; first | (rw [if_pos (by decide +kernel)]; kernel_rfl) | (rw [if_neg (by decide +kernel)]; exact ⟨rfl, rfl⟩))
    (fun os started H enc _ => lifted os started H enc)
theorem proved : Rows.ChainTellsCardSaid :=
  Claim7.holds_tied_plain_at .later [] [.data] true (true, "5ffc4cb9e5deaa6a467635f31420adac237b2258529e138913e0230025c9a93d") false
    row_proved (fun _ h => by cases h) (by kernel_rfl) (fun _ h => by cases h) chainTells_row_tie rfl ⟨rfl, rfl⟩ (by kernel_rfl) rfl
    (fun f fn hf hfn => by
      obtain rfl : f = 5 := Option.some.inj ((show Tryd.prog.funcNamed "suture/suturelaw08.ChainTells" = some 5 by kernel_rfl).symm.trans hf) |>.symm
      obtain rfl : fn = Tryd.f5 := (Option.some.inj (Tryd.func5.symm.trans hfn)).symm
      exact ⟨by kernel_rfl, fun j t ht => by
        rw [Tryd.params5] at ht
        have hm := Array.mem_of_getElem? ht
        simp only [List.mem_toArray, List.mem_cons, List.not_mem_nil, or_false] at hm
        rcases hm with rfl | rfl | rfl | rfl
        · exact (show Tryd.prog.wantsStandIn 22 = false by kernel_rfl)
        · exact (show Tryd.prog.wantsStandIn 28 = false by kernel_rfl)
        · exact (show Tryd.prog.wantsStandIn 30 = false by kernel_rfl)
        · exact (show Tryd.prog.wantsStandIn 3 = false by kernel_rfl)⟩)
    (by kernel_rfl)
end Go.Proofs.YtmggaahkfidfaaaDoor.chainTells
