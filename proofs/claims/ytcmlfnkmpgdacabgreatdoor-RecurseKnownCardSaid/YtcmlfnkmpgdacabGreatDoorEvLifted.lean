/-
  RecurseKnown: the call, and the row's contract.
-/
import Derived.Test.YtcmlfnkmpgdacabGreatDoorEvJoin
import Derived.Test.YtcmlfnkmpgdacabGreatDoorEvStart
import Derived.ProofKit
import Derived.LaidMore
import Derived.Stop.Joined
namespace Go.Proofs.YtcmlfnkmpgdacabGreatDoor
open Go.ChangeShapes Go.WideShapes Go.ChangeAt Go.WideMaps Go.WideElems Go.RowKit Go.Ev

/-- the call, at every world in which the variable reads as it is laid -/
theorem known_calls {W : World} (hL : laidMetH Tryz.prog [("attestor/field.fields", Rows.laid_attestor_field_fields)] W) :
    Calls Tryz.prog 7 #[] W fun e W' => e = .returned (.bool true) ∧ W'.os = W.os ∧ W'.output = W.output ∧ W.heap.size ≤ W'.heap.size ∧ ∀ b, b < W.heap.size → W'.heap[b]? = W.heap[b]? := by
  obtain ⟨w', hrun⟩ := known_run
  obtain ⟨ι, n, hR, hf⟩ := start_rel hL
  have hwf : WfW Tryz.prog (mkW hp7 4 []) := mkW_wf Tryz.prog (fun id cs h => by
    have h2 : ∀ o ∈ hp7, ∀ i c, o = Ob.mk i c → i < 4 := by
      intro o ho i c e
      simp only [hp7, List.mem_cons, List.not_mem_nil, or_false] at ho
      rcases ho with rfl | rfl | rfl | rfl <;> (cases e; decide)
    exact obL_lt hp7 h2 id cs h) []
  obtain ⟨_, _, p⟩ := known_sum [] _ _ _ hrun hwf
  have hc := p W.heap.size ι n W #[] hR (fun id h1 h2 => hf _ id h1 h2) .nil
  refine (callsIn_wide.1 hc).mono ?_
  rintro e W' ⟨v', ι', rfl, q1, _, q3⟩
  refine ⟨by cases q1; rfl, q3.os, q3.output, q3.size, fun b hb => q3.frame b hb fun id hid hr he => ?_⟩
  have h1 := hR.own id hid hr
  omega

theorem own : ownKnob Tryz.prog.godebug = Option.none := by kernel_rfl
theorem door_met (os : Os) (args : Array Value) : laidMetH Tryz.prog [("attestor/field.fields", Rows.laid_attestor_field_fields)] ((World.doorLaid Tryz.prog 21 os).forCall (fun _ _ => 0) ⟨#[], args, []⟩).memory :=
  laidMetH_of_parts3 (fuel := 8) (laidMet_of_run' 8 (by kernel_rfl) (by kernel_rfl)) (by kernel_rfl) (by kernel_rfl)

set_option maxRecDepth 100000 in
theorem lifted (os : Os) (started : os.Started) (H : Type) (enc : TypeId × Value → H) :
    ReturnsInHanded {} Tryz.checked os 7 .any (fun w args => (Rows.recurseKnownSpec.pre enc Tryz.prog Tryz.f7 [] false w args ∧ laidMetH Tryz.prog [("attestor/field.fields", Rows.laid_attestor_field_fields)] w) ∧ sizedMet enc Tryz.prog Tryz.f7 (OpenSpec.ofChange Rows.recurseKnownSpec) false w args)
      (Rows.recurseKnownSpec.post enc Tryz.prog Tryz.f7 false true false false) := by
  refine returnsInHanded_of_change_and (C := Tryz.checked) (X := fun w _ => laidMetH Tryz.prog [("attestor/field.fields", Rows.laid_attestor_field_fields)] w) (fun _ _ _ hh h => h.of_heap hh) own started (by kernel_rfl) Tryz.func7
    (ChangeSpec.witness_shaped (enc := enc) (C := Tryz.checked) (os := os) (X := fun w _ => laidMetH Tryz.prog [("attestor/field.fields", Rows.laid_attestor_field_fields)] w) false (World.doorLaid Tryz.prog 21 os) #[] 8 rfl (World.shaped_of_RefB (by kernel_rfl) (by kernel_rfl)) (by kernel_rfl) (by kernel_rfl) (by kernel_rfl) (door_met os _)) ?_
  intro W base args ds gs before _ hW _ _ hL _
  have hW' := hW
  obtain ⟨p, q, hA0, hV, _, _, _⟩ := hW
  rw [Tryz.params7] at hA0
  have hargs : args = #[] := by
    obtain ⟨args⟩ := args
    cases args with
    | nil => rfl
    | cons a l => exact absurd hA0 (by simp [DataW.TrodAll])
  subst hargs
  have hds : ds = [] := by
    cases ds with
    | nil => rfl
    | cons a l => exact absurd hA0 (by simp [DataW.TrodAll])
  subst hds
  obtain ⟨rfl, rfl⟩ := trodVars_none hV
  refine (known_calls hL).mono fun e W' h => ?_
  obtain ⟨rfl, h1, h2, h3, h4⟩ := h
  refine ⟨.bool true, rfl, [], [], before, [], [], [], hW', ?_, ?_, ?_, ⟨h1, h2, ?_⟩, fun h => by cases h⟩
  · exact trodAll_mk1 (shut_bool Tryz.underlying4 _)
  · rfl
  · rfl
  · intro i hi
    have hr := (World.keptBut_refl W (fun p => p ∈ before ∧ (p ∈ ([] : List MemPlace) ∨ p ∈ ([] : List MemPlace) ∨ p ∈ ([] : List MemPlace)))).2.2 i hi
    rw [h4 i hi]
    exact hr

end Go.Proofs.YtcmlfnkmpgdacabGreatDoor
