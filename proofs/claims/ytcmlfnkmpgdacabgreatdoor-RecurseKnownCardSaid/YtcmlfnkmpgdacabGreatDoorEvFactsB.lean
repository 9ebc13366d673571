/-
  Closed facts of the card.
-/
import Derived.Test.YtcmlfnkmpgdacabGreatDoorRows
import Derived.SevenTiedAt
namespace Go.Proofs.YtcmlfnkmpgdacabGreatDoor
set_option maxRecDepth 100000
theorem ky_wf : Rows.recurseKnownRow.wfByText (OpenSpec.ofChange Rows.recurseKnownSpec) = true := by kernel_rfl
theorem ky_main : Tryz.prog.mainIs = some (true, "640af377ea196c6f58da1d5409258e11039d9ac8ed9267a54dd98131afbeac7c".toList) := by kernel_rfl
theorem ky_looks : false = Tryz.prog.looks [] := by kernel_rfl
theorem ky_none : Tryz.prog.funcs.any Func.goes = false := by kernel_rfl
theorem goes_none {P : Program} (h : P.funcs.any Func.goes = false) (func : String) : false = P.goesAt .entering func := by
  have hall : ∀ fn ∈ P.funcs, Func.goes fn = false := fun fn hfn => by
    cases e : Func.goes fn with
    | false => rfl
    | true => rw [Array.any_eq_true'.2 ⟨fn, hfn, e⟩] at h; cases h
  have h1 : ∀ g : FuncId, (P.funcs[g]?).any Func.goes = false := fun g => by
    cases e : P.funcs[g]? with
    | none => rfl
    | some fn => exact hall fn (Array.mem_of_getElem? e)
  have h2 : ∀ f, P.goes f = false := fun f => by
    unfold Program.goes
    rw [h, Bool.and_false, Bool.or_false]
    simp only [h1]
    simp
  show false = (P.goesFrom func || false)
  rw [Bool.or_false]
  unfold Program.goesFrom
  cases P.funcNamed func with
  | none => rfl
  | some f => exact (h2 f).symm
theorem ky_goes : false = Rows.recurseKnownRow.goesBy Tryz.prog := goes_none ky_none Rows.recurseKnownRow.func
theorem ky_named : Tryz.prog.funcNamed "attestor/attestorlaw31.RecurseKnown" = some 7 := by kernel_rfl
theorem ky_inst : Tryz.f7.isInstance Tryz.prog Rows.recurseKnownRow.origin Rows.recurseKnownRow.targs := of_decide_eq_true (by kernel_rfl)
theorem ky_wrap : Tryz.f7.isWrapper Tryz.prog Rows.recurseKnownRow.wrapper Rows.recurseKnownRow.mainSum := by
  unfold Func.isWrapper
  first
    | (rw [if_pos (by decide +kernel)]; kernel_rfl)
    | (rw [if_neg (by decide +kernel)]; exact ⟨rfl, rfl⟩)
end Go.Proofs.YtcmlfnkmpgdacabGreatDoor
