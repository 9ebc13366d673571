/-
  NARROWER THAN 'FOR EVERY INPUT', by the rows' own cells (each row's printed sentence says how): RecurseAgrees: laid · RecurseSound: laid · RecursePublic: laid · RecurseErrors: laid · RecurseKnown: laid.
  DERIVED. THE GIVEN ROWS OF THIS SEAT. 5 by the template 'for every input the law returns true; each argument reads behind the call as it read before'; 0 by the template 'total and deterministic' (their statements: YtcmlfnkmpgdacabGreatDoorTotals.lean).
  GIVEN WITH THE SEED: the statements are not yours to turn. If you find one false, say at which input.
  Laid BY PROGRAM, IN A SANDBOX (cutbox-rows.mjs): the forced cells as the released guide's own fill.sh prints them over the translation 7b6c40fe2e497c36… (all of the seat's roots in one cut). By AI agents, Wed Nov 11 2026. No macro, syntax, notation, axiom, sorry.
-/
import Derived.Test.YtcmlfnkmpgdacabGreatDoorChecked
import GoSem.Claim
import GoSem.ClaimJoined
import GoSem.ClaimMapViews
import Derived.JoinedTies
import Derived.KernelRfl
namespace Go.Proofs.YtcmlfnkmpgdacabGreatDoor
/- THE CELL 'sum', in the pinned program and in every row, IS THE sha256 OF THE DUMP (.gsa) THAT YtcmlfnkmpgdacabGreatDoorProg.lean LOADS. Nothing in Lean hashes anything: it is a label: what it is worth is what the hold of that sum in a sandbox is worth. -/
noncomputable def Tryz.pinned : Pinned := { name := "ytcmlfnkmpgdacabgreatdoor", sum := "7b6c40fe2e497c36417f775d1dd6a3a75be1320a02fe25a70e9abbbac153b4b8", checked := Tryz.checked }
namespace Rows
def none {H : Type} : Left H := { results := [], args := [] }

/- WHAT THE LISTED PACKAGE-LEVEL VARIABLES READ AS WHEN THE CALL BEGINS. Each datum BY PROGRAM (the guide's laid-datum.mjs) off the statement by which the dump's own 'gosem.cut.vars' lays the variable. In a bare row this is a premise. The card (YtcmlfnkmpgdacabGreatDoorCards.lean) ties it to the program's text. -/
def laid_attestor_field_fields {H : Type} : DataW H := .agg [.agg [.lit (.int .u64 97), .lit (.int .u64 5), .lit (.int .i64 5), .lit (.int .i64 5), .slice [.lit (.int .u64 3)] []], .agg [.lit (.int .u64 257), .lit (.int .u64 3), .lit (.int .i64 8), .lit (.int .i64 3), .nil], .agg [.lit (.int .u64 12289), .lit (.int .u64 11), .lit (.int .i64 12), .lit (.int .i64 5), .slice [.lit (.int .u64 3)] []], .agg [.lit (.int .u64 998244353), .lit (.int .u64 3), .lit (.int .i64 23), .lit (.int .i64 3), .slice [.lit (.int .u64 7), .lit (.int .u64 17)] []]]

/-- 'attestorlaw31.RecurseAgrees': WHATEVER THE INPUT: true; the input reads as it did. -/
def recurseAgreesSpec : ChangeSpec := { name := "recurseAgrees", fn := fun _ => fun
  | [d1, d2, d3, d4] => { results := [.lit (.bool true)], args := [d1, d2, d3, d4] }
  | _ => none }
def recurseAgreesRow : OpenClaim := { program := "ytcmlfnkmpgdacabgreatdoor", sum := "7b6c40fe2e497c36417f775d1dd6a3a75be1320a02fe25a70e9abbbac153b4b8", func := "attestor/attestorlaw31.RecurseAgrees", spec := "recurseAgrees", unfollowed := true, recurses := true, named := ["attestor/field.fields"], apart := false, laid := [("attestor/field.fields", laid_attestor_field_fields)] }
def RecurseAgreesSaid : Prop := recurseAgreesRow.holds Tryz.pinned (OpenSpec.ofChange recurseAgreesSpec)

/-- ITS FALSE NEIGHBOUR: 'it returns false'. Refute it at one input. -/
def recurseAgreesWrong : ChangeSpec := { name := "recurseAgrees", fn := fun _ => fun
  | [d1, d2, d3, d4] => { results := [.lit (.bool false)], args := [d1, d2, d3, d4] }
  | _ => none }
def RecurseAgreesWrongFalsely : Prop := recurseAgreesRow.holds Tryz.pinned (OpenSpec.ofChange recurseAgreesWrong)

/-- 'attestorlaw31.RecurseSound': WHATEVER THE INPUT: true; the input reads as it did. -/
def recurseSoundSpec : ChangeSpec := { name := "recurseSound", fn := fun _ => fun
  | [d1, d2, d3, d4] => { results := [.lit (.bool true)], args := [d1, d2, d3, d4] }
  | _ => none }
def recurseSoundRow : OpenClaim := { program := "ytcmlfnkmpgdacabgreatdoor", sum := "7b6c40fe2e497c36417f775d1dd6a3a75be1320a02fe25a70e9abbbac153b4b8", func := "attestor/attestorlaw31.RecurseSound", spec := "recurseSound", unfollowed := true, recurses := true, named := ["attestor/field.fields"], apart := false, laid := [("attestor/field.fields", laid_attestor_field_fields)] }
def RecurseSoundSaid : Prop := recurseSoundRow.holds Tryz.pinned (OpenSpec.ofChange recurseSoundSpec)

/-- ITS FALSE NEIGHBOUR: 'it returns false'. Refute it at one input. -/
def recurseSoundWrong : ChangeSpec := { name := "recurseSound", fn := fun _ => fun
  | [d1, d2, d3, d4] => { results := [.lit (.bool false)], args := [d1, d2, d3, d4] }
  | _ => none }
def RecurseSoundWrongFalsely : Prop := recurseSoundRow.holds Tryz.pinned (OpenSpec.ofChange recurseSoundWrong)

/-- 'attestorlaw31.RecursePublic': WHATEVER THE INPUT: true; the input reads as it did. -/
def recursePublicSpec : ChangeSpec := { name := "recursePublic", fn := fun _ => fun
  | [d1, d2, d3, d4] => { results := [.lit (.bool true)], args := [d1, d2, d3, d4] }
  | _ => none }
def recursePublicRow : OpenClaim := { program := "ytcmlfnkmpgdacabgreatdoor", sum := "7b6c40fe2e497c36417f775d1dd6a3a75be1320a02fe25a70e9abbbac153b4b8", func := "attestor/attestorlaw31.RecursePublic", spec := "recursePublic", unfollowed := true, recurses := true, named := ["attestor/field.fields"], apart := false, laid := [("attestor/field.fields", laid_attestor_field_fields)] }
def RecursePublicSaid : Prop := recursePublicRow.holds Tryz.pinned (OpenSpec.ofChange recursePublicSpec)

/-- ITS FALSE NEIGHBOUR: 'it returns false'. Refute it at one input. -/
def recursePublicWrong : ChangeSpec := { name := "recursePublic", fn := fun _ => fun
  | [d1, d2, d3, d4] => { results := [.lit (.bool false)], args := [d1, d2, d3, d4] }
  | _ => none }
def RecursePublicWrongFalsely : Prop := recursePublicRow.holds Tryz.pinned (OpenSpec.ofChange recursePublicWrong)

/-- 'attestorlaw31.RecurseErrors': WHATEVER THE INPUT: true; the input reads as it did. -/
def recurseErrorsSpec : ChangeSpec := { name := "recurseErrors", fn := fun _ => fun
  | [d1, d2, d3] => { results := [.lit (.bool true)], args := [d1, d2, d3] }
  | _ => none }
def recurseErrorsRow : OpenClaim := { program := "ytcmlfnkmpgdacabgreatdoor", sum := "7b6c40fe2e497c36417f775d1dd6a3a75be1320a02fe25a70e9abbbac153b4b8", func := "attestor/attestorlaw31.RecurseErrors", spec := "recurseErrors", unfollowed := true, recurses := true, named := ["attestor/field.fields"], apart := false, laid := [("attestor/field.fields", laid_attestor_field_fields)] }
def RecurseErrorsSaid : Prop := recurseErrorsRow.holds Tryz.pinned (OpenSpec.ofChange recurseErrorsSpec)

/-- ITS FALSE NEIGHBOUR: 'it returns false'. Refute it at one input. -/
def recurseErrorsWrong : ChangeSpec := { name := "recurseErrors", fn := fun _ => fun
  | [d1, d2, d3] => { results := [.lit (.bool false)], args := [d1, d2, d3] }
  | _ => none }
def RecurseErrorsWrongFalsely : Prop := recurseErrorsRow.holds Tryz.pinned (OpenSpec.ofChange recurseErrorsWrong)

/-- 'attestorlaw31.RecurseKnown': WHATEVER THE INPUT: true; the input reads as it did. -/
def recurseKnownSpec : ChangeSpec := { name := "recurseKnown", fn := fun _ => fun
  | [] => { results := [.lit (.bool true)], args := [] }
  | _ => none }
def recurseKnownRow : OpenClaim := { program := "ytcmlfnkmpgdacabgreatdoor", sum := "7b6c40fe2e497c36417f775d1dd6a3a75be1320a02fe25a70e9abbbac153b4b8", func := "attestor/attestorlaw31.RecurseKnown", spec := "recurseKnown", unfollowed := true, recurses := true, named := ["attestor/field.fields"], apart := false, laid := [("attestor/field.fields", laid_attestor_field_fields)] }
def RecurseKnownSaid : Prop := recurseKnownRow.holds Tryz.pinned (OpenSpec.ofChange recurseKnownSpec)

/-- ITS FALSE NEIGHBOUR: 'it returns false'. Refute it at one input. -/
def recurseKnownWrong : ChangeSpec := { name := "recurseKnown", fn := fun _ => fun
  | [] => { results := [.lit (.bool false)], args := [] }
  | _ => none }
def RecurseKnownWrongFalsely : Prop := recurseKnownRow.holds Tryz.pinned (OpenSpec.ofChange recurseKnownWrong)

/- THE SECOND FORM. 'bulk': how many values and letters a reading holds, each counted each time it is reached (what is shared counts as often as it is met; a slice's spare places count too). A statement '..UptoSaid' is the law's where the arguments, and the package variables that the reading takes, are together of bulk at most 1048576: NARROWER than '..Said'. Prove '..Said' where nothing that the law and all that it calls make is longer than what came in: it says more and counts as full. Else prove '..UptoSaid'. A law counts once. -/
mutual
def uptoBulk {H : Type} : DataW H → Nat
  | .lit (.string bytes) => bytes.length + 1
  | .lit _ => 1
  | .nil => 1
  | .ptr d => uptoBulk d + 1
  | .slice elems spare => uptoBulkAll elems + uptoBulkAll spare + 1
  | .agg parts => uptoBulkAll parts + 1
  | .iface _ d => uptoBulk d + 1
  | .map entries => uptoBulkEntries entries + 1
  | .held _ => 1
def uptoBulkAll {H : Type} : List (DataW H) → Nat
  | [] => 0
  | d :: r => uptoBulk d + uptoBulkAll r
def uptoBulkEntries {H : Type} : List (Lit × DataW H) → Nat
  | [] => 0
  | x :: r => uptoBulkEntry x + uptoBulkEntries r
def uptoBulkEntry {H : Type} : Lit × DataW H → Nat
  | (.string bytes, d) => bytes.length + uptoBulk d + 1
  | (_, d) => uptoBulk d + 1
 end
def uptoSmall : (H : Type) → List (DataW H) → Bool := fun _ ds => decide (uptoBulkAll ds ≤ 1048576)
def OpenSpec.upto (s : _root_.Go.ChangeSpec) : _root_.Go.OpenSpec := { _root_.Go.OpenSpec.ofChange s with cond := some uptoSmall }

/-- 'attestorlaw31.RecurseAgrees', WHERE WHAT IT READS IS OF BULK AT MOST 1048576: true; the input reads as it did. -/
def recurseAgreesUptoRow : OpenClaim := { program := "ytcmlfnkmpgdacabgreatdoor", sum := "7b6c40fe2e497c36417f775d1dd6a3a75be1320a02fe25a70e9abbbac153b4b8", func := "attestor/attestorlaw31.RecurseAgrees", spec := "recurseAgrees", unfollowed := true, recurses := true, named := ["attestor/field.fields"], apart := false, laid := [("attestor/field.fields", laid_attestor_field_fields)], narrowed := true }
def RecurseAgreesUptoSaid : Prop := recurseAgreesUptoRow.holds Tryz.pinned (OpenSpec.upto recurseAgreesSpec)

/-- 'attestorlaw31.RecurseSound', WHERE WHAT IT READS IS OF BULK AT MOST 1048576: true; the input reads as it did. -/
def recurseSoundUptoRow : OpenClaim := { program := "ytcmlfnkmpgdacabgreatdoor", sum := "7b6c40fe2e497c36417f775d1dd6a3a75be1320a02fe25a70e9abbbac153b4b8", func := "attestor/attestorlaw31.RecurseSound", spec := "recurseSound", unfollowed := true, recurses := true, named := ["attestor/field.fields"], apart := false, laid := [("attestor/field.fields", laid_attestor_field_fields)], narrowed := true }
def RecurseSoundUptoSaid : Prop := recurseSoundUptoRow.holds Tryz.pinned (OpenSpec.upto recurseSoundSpec)

/-- 'attestorlaw31.RecursePublic', WHERE WHAT IT READS IS OF BULK AT MOST 1048576: true; the input reads as it did. -/
def recursePublicUptoRow : OpenClaim := { program := "ytcmlfnkmpgdacabgreatdoor", sum := "7b6c40fe2e497c36417f775d1dd6a3a75be1320a02fe25a70e9abbbac153b4b8", func := "attestor/attestorlaw31.RecursePublic", spec := "recursePublic", unfollowed := true, recurses := true, named := ["attestor/field.fields"], apart := false, laid := [("attestor/field.fields", laid_attestor_field_fields)], narrowed := true }
def RecursePublicUptoSaid : Prop := recursePublicUptoRow.holds Tryz.pinned (OpenSpec.upto recursePublicSpec)

/-- 'attestorlaw31.RecurseErrors', WHERE WHAT IT READS IS OF BULK AT MOST 1048576: true; the input reads as it did. -/
def recurseErrorsUptoRow : OpenClaim := { program := "ytcmlfnkmpgdacabgreatdoor", sum := "7b6c40fe2e497c36417f775d1dd6a3a75be1320a02fe25a70e9abbbac153b4b8", func := "attestor/attestorlaw31.RecurseErrors", spec := "recurseErrors", unfollowed := true, recurses := true, named := ["attestor/field.fields"], apart := false, laid := [("attestor/field.fields", laid_attestor_field_fields)], narrowed := true }
def RecurseErrorsUptoSaid : Prop := recurseErrorsUptoRow.holds Tryz.pinned (OpenSpec.upto recurseErrorsSpec)

/-- 'attestorlaw31.RecurseKnown', WHERE WHAT IT READS IS OF BULK AT MOST 1048576: true; the input reads as it did. -/
def recurseKnownUptoRow : OpenClaim := { program := "ytcmlfnkmpgdacabgreatdoor", sum := "7b6c40fe2e497c36417f775d1dd6a3a75be1320a02fe25a70e9abbbac153b4b8", func := "attestor/attestorlaw31.RecurseKnown", spec := "recurseKnown", unfollowed := true, recurses := true, named := ["attestor/field.fields"], apart := false, laid := [("attestor/field.fields", laid_attestor_field_fields)], narrowed := true }
def RecurseKnownUptoSaid : Prop := recurseKnownUptoRow.holds Tryz.pinned (OpenSpec.upto recurseKnownSpec)

end Rows
end Go.Proofs.YtcmlfnkmpgdacabGreatDoor
