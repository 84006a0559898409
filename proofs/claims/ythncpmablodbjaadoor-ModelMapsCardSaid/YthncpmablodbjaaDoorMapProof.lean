/-
  The card ModelMaps: the row's statement out of its walk, the listed table tied to the program's text. (Printed by wip/gen/bridge.py of this repo.)
-/
import Derived.Test.YthncpmablodbjaaDoorRows
import Derived.Test.YthncpmablodbjaaDoorTie
import Derived.Test.YthncpmablodbjaaDoorCards
import Derived.WalkKit
import Derived.ProofKit
import Derived.OpenShut
import Derived.JoinedOf
import Derived.JoinedCond
import Derived.Handed
import Derived.ChangeVars
import Derived.LaidLaws
import Derived.LaidHandle
import Derived.SevenTiedAt
import Derived.Test.YthncpmablodbjaaDoorBaseY
import Derived.Test.YthncpmablodbjaaDoorBaseRW
import Derived.Test.YthncpmablodbjaaDoorMapWalk
namespace Go.Proofs.YthncpmablodbjaaDoor.modelMaps
open Go Go.SL Go.Proofs Go.ChangeShapes Go.WideShapes Go.ChangeAt Go.RowKit
set_option linter.unusedVariables false

theorem own : ownKnob Tryd.prog.godebug = none := by kernel_rfl
theorem laidOut : laidOutB Tryd.prog = true := by kernel_rfl
theorem readable : (Tryd.f3.params.toList.all fun t => Tryd.prog.readableRec t && decide (t < Tryd.prog.types.size)) = true := by kernel_rfl
noncomputable def laidOne (os : Os) : World :=
  { World.holding Tryd.prog os ⟨#[], #[], []⟩ with heap := (World.holding Tryd.prog os ⟨#[], #[], []⟩).heap.modify 0 fun
      | .cells _ t frozen => .cells #[.int .i64 0, .int .i64 2, .int .i64 20, .int .i64 21, .int .i64 30, .int .i64 31, .int .i64 32, .int .i64 50, .int .i64 100, .int .i64 120, .int .i64 121, .int .i64 130, .int .i64 140, .int .i64 250, .int .i64 251] t frozen
      | o => o }
noncomputable def laidWorld (os : Os) : World :=
  { laidOne os with heap := (laidOne os).heap.modify 1 fun
      | .cells _ t frozen => .cells #[.int .u8 0, .int .u8 1, .int .u8 3, .int .u8 4, .int .u8 5, .int .u8 9, .int .u8 10, .int .u8 12] t frozen
      | o => o }
theorem laidWorld_row0 (os : Os) : ((laidWorld os).forCall (fun _ _ => 0) ⟨#[], #[.slice none 0 0, .slice none 0 0, .slice none 0 0], []⟩).memory.heap[0]? = some (.cells #[.int .i64 0, .int .i64 2, .int .i64 20, .int .i64 21, .int .i64 30, .int .i64 31, .int .i64 32, .int .i64 50, .int .i64 100, .int .i64 120, .int .i64 121, .int .i64 130, .int .i64 140, .int .i64 250, .int .i64 251] 71 (0, 0)) := by kernel_rfl
theorem laidWorld_row1 (os : Os) : ((laidWorld os).forCall (fun _ _ => 0) ⟨#[], #[.slice none 0 0, .slice none 0 0, .slice none 0 0], []⟩).memory.heap[1]? = some (.cells #[.int .u8 0, .int .u8 1, .int .u8 3, .int .u8 4, .int .u8 5, .int .u8 9, .int .u8 10, .int .u8 12] 82 (0, 0)) := by kernel_rfl
theorem laidWorld_met (os : Os) : laidMetH Tryd.prog [("suture/model.touching", Rows.laid_suture_model_touching), ("suture/model.errors", Rows.laid_suture_model_errors)] ((laidWorld os).forCall (fun _ _ => 0) ⟨#[], #[.slice none 0 0, .slice none 0 0, .slice none 0 0], []⟩).memory := by
  show laidMet Tryd.prog [("suture/model.touching", Rows.laid_suture_model_touching), ("suture/model.errors", Rows.laid_suture_model_errors)] _
  exact ⟨_, ⟨1, 82, #[.int .u8 0, .int .u8 1, .int .u8 3, .int .u8 4, .int .u8 5, .int .u8 9, .int .u8 10, .int .u8 12], 8, [], _, by kernel_rfl, by kernel_rfl, by kernel_rfl, by kernel_rfl, ⟨0, 71, #[.int .i64 0, .int .i64 2, .int .i64 20, .int .i64 21, .int .i64 30, .int .i64 31, .int .i64 32, .int .i64 50, .int .i64 100, .int .i64 120, .int .i64 121, .int .i64 130, .int .i64 140, .int .i64 250, .int .i64 251], 8, [], [], by kernel_rfl, by kernel_rfl, by kernel_rfl, by kernel_rfl, rfl, rfl⟩, rfl⟩, by decide, fun b off h => by
    have h' : MemPlace.cell b off ∈ [MemPlace.cell 1 0, MemPlace.cell 1 1, MemPlace.cell 1 2, MemPlace.cell 1 3, MemPlace.cell 1 4, MemPlace.cell 1 5, MemPlace.cell 1 6, MemPlace.cell 1 7, MemPlace.cell 0 0, MemPlace.cell 0 1, MemPlace.cell 0 2, MemPlace.cell 0 3, MemPlace.cell 0 4, MemPlace.cell 0 5, MemPlace.cell 0 6, MemPlace.cell 0 7, MemPlace.cell 0 8, MemPlace.cell 0 9, MemPlace.cell 0 10, MemPlace.cell 0 11, MemPlace.cell 0 12, MemPlace.cell 0 13, MemPlace.cell 0 14] := h
    simp only [List.mem_cons, MemPlace.cell.injEq, List.not_mem_nil, or_false] at h'
    rcases h' with ⟨rfl, rfl⟩ | ⟨rfl, rfl⟩ | ⟨rfl, rfl⟩ | ⟨rfl, rfl⟩ | ⟨rfl, rfl⟩ | ⟨rfl, rfl⟩ | ⟨rfl, rfl⟩ | ⟨rfl, rfl⟩ | ⟨rfl, rfl⟩ | ⟨rfl, rfl⟩ | ⟨rfl, rfl⟩ | ⟨rfl, rfl⟩ | ⟨rfl, rfl⟩ | ⟨rfl, rfl⟩ | ⟨rfl, rfl⟩ | ⟨rfl, rfl⟩ | ⟨rfl, rfl⟩ | ⟨rfl, rfl⟩ | ⟨rfl, rfl⟩ | ⟨rfl, rfl⟩ | ⟨rfl, rfl⟩ | ⟨rfl, rfl⟩ | ⟨rfl, rfl⟩
    · exact ⟨⟨_, _, laidWorld_row1 os⟩, fun u v hc => by simp only [World.cell?, laidWorld_row1 os] at hc; simp at hc⟩
    · exact ⟨⟨_, _, laidWorld_row1 os⟩, fun u v hc => by simp only [World.cell?, laidWorld_row1 os] at hc; simp at hc⟩
    · exact ⟨⟨_, _, laidWorld_row1 os⟩, fun u v hc => by simp only [World.cell?, laidWorld_row1 os] at hc; simp at hc⟩
    · exact ⟨⟨_, _, laidWorld_row1 os⟩, fun u v hc => by simp only [World.cell?, laidWorld_row1 os] at hc; simp at hc⟩
    · exact ⟨⟨_, _, laidWorld_row1 os⟩, fun u v hc => by simp only [World.cell?, laidWorld_row1 os] at hc; simp at hc⟩
    · exact ⟨⟨_, _, laidWorld_row1 os⟩, fun u v hc => by simp only [World.cell?, laidWorld_row1 os] at hc; simp at hc⟩
    · exact ⟨⟨_, _, laidWorld_row1 os⟩, fun u v hc => by simp only [World.cell?, laidWorld_row1 os] at hc; simp at hc⟩
    · exact ⟨⟨_, _, laidWorld_row1 os⟩, fun u v hc => by simp only [World.cell?, laidWorld_row1 os] at hc; simp at hc⟩
    · exact ⟨⟨_, _, laidWorld_row0 os⟩, fun u v hc => by simp only [World.cell?, laidWorld_row0 os] at hc; simp at hc⟩
    · exact ⟨⟨_, _, laidWorld_row0 os⟩, fun u v hc => by simp only [World.cell?, laidWorld_row0 os] at hc; simp at hc⟩
    · exact ⟨⟨_, _, laidWorld_row0 os⟩, fun u v hc => by simp only [World.cell?, laidWorld_row0 os] at hc; simp at hc⟩
    · exact ⟨⟨_, _, laidWorld_row0 os⟩, fun u v hc => by simp only [World.cell?, laidWorld_row0 os] at hc; simp at hc⟩
    · exact ⟨⟨_, _, laidWorld_row0 os⟩, fun u v hc => by simp only [World.cell?, laidWorld_row0 os] at hc; simp at hc⟩
    · exact ⟨⟨_, _, laidWorld_row0 os⟩, fun u v hc => by simp only [World.cell?, laidWorld_row0 os] at hc; simp at hc⟩
    · exact ⟨⟨_, _, laidWorld_row0 os⟩, fun u v hc => by simp only [World.cell?, laidWorld_row0 os] at hc; simp at hc⟩
    · exact ⟨⟨_, _, laidWorld_row0 os⟩, fun u v hc => by simp only [World.cell?, laidWorld_row0 os] at hc; simp at hc⟩
    · exact ⟨⟨_, _, laidWorld_row0 os⟩, fun u v hc => by simp only [World.cell?, laidWorld_row0 os] at hc; simp at hc⟩
    · exact ⟨⟨_, _, laidWorld_row0 os⟩, fun u v hc => by simp only [World.cell?, laidWorld_row0 os] at hc; simp at hc⟩
    · exact ⟨⟨_, _, laidWorld_row0 os⟩, fun u v hc => by simp only [World.cell?, laidWorld_row0 os] at hc; simp at hc⟩
    · exact ⟨⟨_, _, laidWorld_row0 os⟩, fun u v hc => by simp only [World.cell?, laidWorld_row0 os] at hc; simp at hc⟩
    · exact ⟨⟨_, _, laidWorld_row0 os⟩, fun u v hc => by simp only [World.cell?, laidWorld_row0 os] at hc; simp at hc⟩
    · exact ⟨⟨_, _, laidWorld_row0 os⟩, fun u v hc => by simp only [World.cell?, laidWorld_row0 os] at hc; simp at hc⟩
    · exact ⟨⟨_, _, laidWorld_row0 os⟩, fun u v hc => by simp only [World.cell?, laidWorld_row0 os] at hc; simp at hc⟩⟩

theorem contract (H : Type) (enc : TypeId × Value → H) (W : World) (base : Nat) (args : Array Value) (ds gs : List (DataW H)) (before : List MemPlace)
    (hval : ∀ (j : Nat) t v, Tryd.f3.params[j]? = some t → args[j]? = some v → Value.okWide Tryd.prog W .any base t v)
    (hW : DataW.Whole enc Tryd.prog Tryd.f3.params.toList Rows.modelMapsSpec.vars false W args.toList ds gs before) (hwt : (DataW.weightsEach Tryd.prog (Tryd.f3.params.toList ++ Rows.modelMapsSpec.plain.varTypes Tryd.prog) (ds ++ gs)).all (· ≤ reachBytes) = true) :
    Calls Tryd.prog 3 args W fun e W' => ∃ v, e = .returned v ∧ Rows.modelMapsSpec.post enc Tryd.prog Tryd.f3 false true false false W args v W' := by
  have hW' := hW
  obtain ⟨p, q, hA0, hV, rfl, hfz, hnd⟩ := hW
  have hA : DataW.TrodAll enc Tryd.prog W 0 (fun _ => true) true Tryd.f3.params.toList args.toList ds p := hA0
  rw [Tryd.params3] at hA hval hwt
  obtain ⟨v0, vs0, d0, ds0, p0, q0, hargs, rfl, rfl, h0, r0⟩ := trodAll_cons hA
  obtain ⟨v1, vs1, d1, ds1, p1, q1, rfl, rfl, rfl, h1, r1⟩ := trodAll_cons r0
  obtain ⟨v2, vs2, d2, ds2, p2, q2, rfl, rfl, rfl, h2, r2⟩ := trodAll_cons r1
  obtain ⟨rfl, rfl, rfl⟩ := trodAll_nil r2
  obtain rfl : args = #[v0, v1, v2] := by cases args; simp_all
  obtain ⟨rfl, rfl⟩ := trodVars_none hV
  simp only [List.cons_append, List.nil_append, DataW.weightsEach, List.all_append, Bool.and_eq_true] at hwt
  obtain ⟨hw0, hw1, hw2, _⟩ := hwt
  obtain ⟨es0, hl0, hb0⟩ := open_rowsW Tryd.underlying22 Tryd.underlying23 Tryd.underlying5 (by kernel_rfl) (by kernel_rfl) (by kernel_rfl) hw0 (hval 0 22 v0 rfl rfl) h0
  obtain ⟨es1, hl1, hb1⟩ := open_rowsW Tryd.underlying22 Tryd.underlying23 Tryd.underlying5 (by kernel_rfl) (by kernel_rfl) (by kernel_rfl) hw1 (hval 1 22 v1 rfl rfl) h1
  obtain ⟨l2, hl2, hb2⟩ := open_bytesW Tryd.underlying23 Tryd.underlying5 (by kernel_rfl) (by kernel_rfl) hw2 (hval 2 23 v2 rfl rfl) h2
  clear hA0
  have hwalk := c_modelMaps v0 es0 v1 es1 W hl0 hl1 hb0 hb1 v2 l2 hb2 hl2
  refine Calls.mono hwalk ?_
  rintro e W' ⟨v, rfl, rfl, hx⟩
  exact ⟨_, rfl, law_post laidOut readable rfl Tryd.underlying4 rfl ⟨rfl, rfl, rfl⟩ hW' hx⟩
set_option maxRecDepth 100000 in
theorem lifted (os : Os) (started : os.Started) (H : Type) (enc : TypeId × Value → H) :
    ReturnsInHanded {} Tryd.checked os 3 .any (fun w args => (Rows.modelMapsSpec.pre enc Tryd.prog Tryd.f3 [] false w args ∧ laidMetH Tryd.prog [("suture/model.touching", Rows.laid_suture_model_touching), ("suture/model.errors", Rows.laid_suture_model_errors)] w) ∧ sizedMet enc Tryd.prog Tryd.f3 (OpenSpec.ofChange Rows.modelMapsSpec) false w args)
      (Rows.modelMapsSpec.post enc Tryd.prog Tryd.f3 false true false false) := by
  refine returnsInHanded_of_change_and (C := Tryd.checked) (X := fun w _ => laidMetH Tryd.prog [("suture/model.touching", Rows.laid_suture_model_touching), ("suture/model.errors", Rows.laid_suture_model_errors)] w) (fun _ _ _ hh h => h.of_heap hh) own started (by kernel_rfl) Tryd.func3
    (ChangeSpec.witness_at (enc := enc) (C := Tryd.checked) (os := os) (X := fun w _ => laidMetH Tryd.prog [("suture/model.touching", Rows.laid_suture_model_touching), ("suture/model.errors", Rows.laid_suture_model_errors)] w) false (laidWorld os) #[.slice none 0 0, .slice none 0 0, .slice none 0 0] 8 rfl (by kernel_rfl) (by kernel_rfl) (by kernel_rfl) (by kernel_rfl) (by kernel_rfl) (laidWorld_met os)) ?_
  intro W base args ds gs before hval hW _ hwt _ _
  exact contract H enc W base args ds gs before hval hW hwt
theorem row_proved : Rows.ModelMapsSaid :=
  OpenClaim.holds_of_wide 3 Tryd.f3 rfl rfl rfl rfl rfl rfl rfl ⟨rfl, rfl, rfl, rfl, rfl⟩ rfl rfl rfl rfl rfl (by kernel_rfl) Tryd.func3 (by kernel_rfl)
    (of_decide_eq_true (by kernel_rfl)) (by unfold Func.isWrapper; first | (rw [if_pos (by decide +kernel)]; kernel_rfl) | (rw [if_neg (by decide +kernel)]; exact ⟨rfl, rfl⟩))
    (fun os started H enc _ => lifted os started H enc)
theorem proved : Rows.ModelMapsCardSaid :=
  Claim7.holds_tied_plain_at .later [] [.widerDeep, .widerDeep] true (true, "352ab6114df5c5e42f1b5a255dd7229e59e760d8d343b09b8a576c01f7d32c8b") false
    row_proved (fun _ h => by cases h) (by kernel_rfl) (fun _ h => by cases h) modelMaps_row_tie rfl ⟨rfl, rfl⟩ (by kernel_rfl) rfl
    (fun f fn hf hfn => by
      obtain rfl : f = 3 := Option.some.inj ((show Tryd.prog.funcNamed "suture/suturelaw31.ModelMaps" = some 3 by kernel_rfl).symm.trans hf) |>.symm
      obtain rfl : fn = Tryd.f3 := (Option.some.inj (Tryd.func3.symm.trans hfn)).symm
      exact ⟨by kernel_rfl, fun j t ht => by
        rw [Tryd.params3] at ht
        have hm := Array.mem_of_getElem? ht
        simp only [List.mem_toArray, List.mem_cons, List.not_mem_nil, or_false] at hm
        rcases hm with rfl | rfl | rfl
        · exact (show Tryd.prog.wantsStandIn 22 = false by kernel_rfl)
        · exact (show Tryd.prog.wantsStandIn 22 = false by kernel_rfl)
        · exact (show Tryd.prog.wantsStandIn 23 = false by kernel_rfl)⟩)
    (by kernel_rfl)
end Go.Proofs.YthncpmablodbjaaDoor.modelMaps
