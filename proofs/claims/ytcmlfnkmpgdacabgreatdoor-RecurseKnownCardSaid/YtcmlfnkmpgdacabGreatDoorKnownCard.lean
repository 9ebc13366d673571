/-
  RecurseKnown returns true (a call without arguments), and nothing that was there before is changed.
  CONDITIONS: the package-level variable attestor/field.fields reads, when the call begins, as the program's text lays it; the card ties that to the text.
-/
import Derived.Test.YtcmlfnkmpgdacabGreatDoorEvLifted
import Derived.Test.YtcmlfnkmpgdacabGreatDoorEvFactsA
import Derived.Test.YtcmlfnkmpgdacabGreatDoorEvFactsB
import Derived.SevenTiedAt
import Derived.Test.YtcmlfnkmpgdacabGreatDoorTie
import Derived.Test.YtcmlfnkmpgdacabGreatDoorCards
namespace Go.Proofs.YtcmlfnkmpgdacabGreatDoor
open Go

theorem known_holds : Rows.RecurseKnownSaid :=
  OpenClaim.holds_of_wide (p := Tryz.pinned) 7 Tryz.f7 rfl rfl rfl rfl rfl rfl rfl ⟨rfl, rfl, rfl, rfl, rfl⟩ rfl rfl rfl rfl rfl ky_named Tryz.func7 kf_closed ky_inst ky_wrap
    (fun os started H enc _ => lifted os started H enc)

theorem known_card_holds : Rows.RecurseKnownCardSaid :=
  Claim7.holds_tied_plain_at (p := Tryz.pinned) .later [] [.widerDeep] true (true, "640af377ea196c6f58da1d5409258e11039d9ac8ed9267a54dd98131afbeac7c") false
    known_holds (fun _ h => by cases h) ky_wf (fun _ h => by cases h) recurseKnown_row_tie rfl ⟨rfl, rfl⟩ ky_main rfl
    (fun f fn hf hfn => by
      obtain rfl : f = 7 := Option.some.inj (ky_named.symm.trans hf) |>.symm
      obtain rfl : fn = Tryz.f7 := (Option.some.inj (Tryz.func7.symm.trans hfn)).symm
      exact ⟨ky_looks, fun j t ht => by
        rw [Tryz.params7] at ht
        simp at ht⟩)
    ky_goes
#print axioms known_card_holds

end Go.Proofs.YtcmlfnkmpgdacabGreatDoor
