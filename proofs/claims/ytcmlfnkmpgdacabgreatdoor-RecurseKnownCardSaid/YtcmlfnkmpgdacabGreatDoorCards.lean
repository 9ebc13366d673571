/-
  DERIVED. GIVEN WITH THE SEED: THE CARDS: each row of YtcmlfnkmpgdacabGreatDoorRows.lean that lists a variable, with what it lists TIED to the program's text (the seventh form; the later family's looks); each row that meets fmt, with fmt's text TOLD by the authors' own Lean function (tested against real Go, not proved from fmt's source: count such statements apart). THE CARD IS WHAT COUNTS. Prove the row's statement (the work); the ties are given (YtcmlfnkmpgdacabGreatDoorTie.lean); close each card by the builder's one call (the guide's Derived/Test/ToyasCard.lean, 'card_holds'). Laid BY PROGRAM, IN A SANDBOX (cutbox-door.mjs). By AI agents, Wed Nov 11 2026. No macro, syntax, notation, axiom, sorry.
-/
import Derived.Test.YtcmlfnkmpgdacabGreatDoorRows
import GoSem.ClaimSeven
namespace Go.Proofs.YtcmlfnkmpgdacabGreatDoor
namespace Rows

/-- THE TIED CARD OF 'attestorlaw31.RecurseAgrees'. -/
def recurseAgreesCard : Claim7 := { stood := { row := recurseAgreesRow, standIns := [], harness := (true, "640af377ea196c6f58da1d5409258e11039d9ac8ed9267a54dd98131afbeac7c"), looks := false }, kinds := [], alts := [], laidByText := true, laidKinds := [.widerDeep], laidTests := true, laidLooks := .later }
def RecurseAgreesCardSaid : Prop := Claim7.holds Tryz.pinned (.plain (OpenSpec.ofChange recurseAgreesSpec)) recurseAgreesCard

/-- THE TIED CARD OF 'attestorlaw31.RecurseSound'. -/
def recurseSoundCard : Claim7 := { stood := { row := recurseSoundRow, standIns := [], harness := (true, "640af377ea196c6f58da1d5409258e11039d9ac8ed9267a54dd98131afbeac7c"), looks := false }, kinds := [], alts := [], laidByText := true, laidKinds := [.widerDeep], laidTests := true, laidLooks := .later }
def RecurseSoundCardSaid : Prop := Claim7.holds Tryz.pinned (.plain (OpenSpec.ofChange recurseSoundSpec)) recurseSoundCard

/-- THE TIED CARD OF 'attestorlaw31.RecursePublic'. -/
def recursePublicCard : Claim7 := { stood := { row := recursePublicRow, standIns := [], harness := (true, "640af377ea196c6f58da1d5409258e11039d9ac8ed9267a54dd98131afbeac7c"), looks := false }, kinds := [], alts := [], laidByText := true, laidKinds := [.widerDeep], laidTests := true, laidLooks := .later }
def RecursePublicCardSaid : Prop := Claim7.holds Tryz.pinned (.plain (OpenSpec.ofChange recursePublicSpec)) recursePublicCard

/-- THE TIED CARD OF 'attestorlaw31.RecurseErrors'. -/
def recurseErrorsCard : Claim7 := { stood := { row := recurseErrorsRow, standIns := [], harness := (true, "640af377ea196c6f58da1d5409258e11039d9ac8ed9267a54dd98131afbeac7c"), looks := false }, kinds := [], alts := [], laidByText := true, laidKinds := [.widerDeep], laidTests := true, laidLooks := .later }
def RecurseErrorsCardSaid : Prop := Claim7.holds Tryz.pinned (.plain (OpenSpec.ofChange recurseErrorsSpec)) recurseErrorsCard

/-- THE TIED CARD OF 'attestorlaw31.RecurseKnown'. -/
def recurseKnownCard : Claim7 := { stood := { row := recurseKnownRow, standIns := [], harness := (true, "640af377ea196c6f58da1d5409258e11039d9ac8ed9267a54dd98131afbeac7c"), looks := false }, kinds := [], alts := [], laidByText := true, laidKinds := [.widerDeep], laidTests := true, laidLooks := .later }
def RecurseKnownCardSaid : Prop := Claim7.holds Tryz.pinned (.plain (OpenSpec.ofChange recurseKnownSpec)) recurseKnownCard

/-- THE SECOND FORM's CARD OF 'attestorlaw31.RecurseAgrees'. -/
def recurseAgreesUptoCard : Claim7 := { stood := { row := recurseAgreesUptoRow, standIns := [], harness := (true, "640af377ea196c6f58da1d5409258e11039d9ac8ed9267a54dd98131afbeac7c"), looks := false }, kinds := [], alts := [], laidByText := true, laidKinds := [.widerDeep], laidTests := true, laidLooks := .later }
def RecurseAgreesUptoCardSaid : Prop := Claim7.holds Tryz.pinned (.plain (OpenSpec.upto recurseAgreesSpec)) recurseAgreesUptoCard

/-- THE SECOND FORM's CARD OF 'attestorlaw31.RecurseSound'. -/
def recurseSoundUptoCard : Claim7 := { stood := { row := recurseSoundUptoRow, standIns := [], harness := (true, "640af377ea196c6f58da1d5409258e11039d9ac8ed9267a54dd98131afbeac7c"), looks := false }, kinds := [], alts := [], laidByText := true, laidKinds := [.widerDeep], laidTests := true, laidLooks := .later }
def RecurseSoundUptoCardSaid : Prop := Claim7.holds Tryz.pinned (.plain (OpenSpec.upto recurseSoundSpec)) recurseSoundUptoCard

/-- THE SECOND FORM's CARD OF 'attestorlaw31.RecursePublic'. -/
def recursePublicUptoCard : Claim7 := { stood := { row := recursePublicUptoRow, standIns := [], harness := (true, "640af377ea196c6f58da1d5409258e11039d9ac8ed9267a54dd98131afbeac7c"), looks := false }, kinds := [], alts := [], laidByText := true, laidKinds := [.widerDeep], laidTests := true, laidLooks := .later }
def RecursePublicUptoCardSaid : Prop := Claim7.holds Tryz.pinned (.plain (OpenSpec.upto recursePublicSpec)) recursePublicUptoCard

/-- THE SECOND FORM's CARD OF 'attestorlaw31.RecurseErrors'. -/
def recurseErrorsUptoCard : Claim7 := { stood := { row := recurseErrorsUptoRow, standIns := [], harness := (true, "640af377ea196c6f58da1d5409258e11039d9ac8ed9267a54dd98131afbeac7c"), looks := false }, kinds := [], alts := [], laidByText := true, laidKinds := [.widerDeep], laidTests := true, laidLooks := .later }
def RecurseErrorsUptoCardSaid : Prop := Claim7.holds Tryz.pinned (.plain (OpenSpec.upto recurseErrorsSpec)) recurseErrorsUptoCard

/-- THE SECOND FORM's CARD OF 'attestorlaw31.RecurseKnown'. -/
def recurseKnownUptoCard : Claim7 := { stood := { row := recurseKnownUptoRow, standIns := [], harness := (true, "640af377ea196c6f58da1d5409258e11039d9ac8ed9267a54dd98131afbeac7c"), looks := false }, kinds := [], alts := [], laidByText := true, laidKinds := [.widerDeep], laidTests := true, laidLooks := .later }
def RecurseKnownUptoCardSaid : Prop := Claim7.holds Tryz.pinned (.plain (OpenSpec.upto recurseKnownSpec)) recurseKnownUptoCard
end Rows
end Go.Proofs.YtcmlfnkmpgdacabGreatDoor
