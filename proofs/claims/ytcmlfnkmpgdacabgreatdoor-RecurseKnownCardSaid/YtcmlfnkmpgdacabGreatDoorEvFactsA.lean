/-
  Closed facts of the row.
-/
import Derived.Test.YtcmlfnkmpgdacabGreatDoorRows
import Derived.JoinedOf
namespace Go.Proofs.YtcmlfnkmpgdacabGreatDoor
set_option maxRecDepth 100000
theorem kf0 : (Rows.recurseKnownRow.wf (OpenSpec.ofChange Rows.recurseKnownSpec)) = true := by kernel_rfl
theorem kf1 : (laidOutB Tryz.prog) = true := by kernel_rfl
theorem kf2 : (mapsRowed Tryz.prog) = true := by kernel_rfl
theorem kf3 : (Tryz.f7.params.all (Tryz.prog.readableRec ·)) = true := by kernel_rfl
theorem kf4 : (namedTie Tryz.prog Rows.recurseKnownRow.named Rows.recurseKnownSpec.vars) = true := by kernel_rfl
theorem kf5 : ((Rows.recurseKnownRow.stops == [])) = true := by kernel_rfl
theorem kf6 : ((Tryz.prog.stops == [])) = true := by kernel_rfl
theorem kf7 : ((Rows.recurseKnownRow.knobs == [])) = true := by kernel_rfl
theorem kf8 : ((Tryz.prog.stopKnobs == [])) = true := by kernel_rfl
theorem kf9 : ((Rows.recurseKnownRow.inPlace == Tryz.prog.inPlace 7)) = true := by kernel_rfl
theorem kf10 : ((Rows.recurseKnownRow.unfollowed == Tryz.prog.unfollowed 7)) = true := by kernel_rfl
theorem kf11 : ((Rows.recurseKnownRow.recurses == Tryz.prog.recurses 7)) = true := by kernel_rfl
theorem kf12 : ((Rows.recurseKnownRow.named == Tryz.prog.varsNamed 7)) = true := by kernel_rfl
theorem kf13 : ((Rows.recurseKnownRow.maps == (Tryz.f7.params.toList ++ Rows.recurseKnownSpec.plain.varTypes Tryz.prog).any (Tryz.prog.mapsRec ·))) = true := by kernel_rfl
theorem kf14 : ((Rows.recurseKnownRow.ifaces == (Tryz.f7.params.toList ++ Rows.recurseKnownSpec.plain.varTypes Tryz.prog).any (Tryz.prog.ifacesRec ·))) = true := by kernel_rfl
theorem kf15 : ((Rows.recurseKnownRow.mapsOut == Tryz.prog.mapsAmong Tryz.f7.resultTypes.toList)) = true := by kernel_rfl
theorem kf16 : ((Rows.recurseKnownRow.loops == (Tryz.f7.params.toList ++ Rows.recurseKnownSpec.plain.varTypes Tryz.prog).any (Tryz.prog.loopsFrom ·))) = true := by kernel_rfl
theorem kf17 : ((Rows.recurseKnownRow.wideKeys == (Tryz.f7.params.toList ++ Rows.recurseKnownSpec.plain.varTypes Tryz.prog ++ Tryz.f7.resultTypes.toList).any (Tryz.prog.wideKeysFrom ·))) = true := by kernel_rfl
theorem kf18 : (Rows.recurseKnownSpec.vars.all (Tryz.prog.varReadable ·)) = true := by kernel_rfl
theorem kf19 : (Tryz.f7.resultTypes.all (fun t => Tryz.prog.readableRec t && decide (t < Tryz.prog.types.size))) = true := by kernel_rfl
theorem kf20 : ((Rows.recurseKnownRow.ifacesOut == Tryz.f7.resultTypes.toList.any (Tryz.prog.ifacesRec ·))) = true := by kernel_rfl
theorem kf21 : ((Rows.recurseKnownRow.loopsOut == Tryz.f7.resultTypes.toList.any (Tryz.prog.loopsFrom ·))) = true := by kernel_rfl
theorem kf22 : ((Rows.recurseKnownRow.plainKeys == Tryz.prog.plainKeys)) = true := by kernel_rfl
theorem kf23 : (Rows.recurseKnownRow.shortTexts.isNone) = true := by kernel_rfl
theorem kf24 : (Tryz.prog.stopsHeard) = true := by kernel_rfl
theorem kf25 : (Tryz.prog.mayEnter) = true := by kernel_rfl
theorem kf26 : ((Rows.recurseKnownRow.lifted == Tryz.prog.liftsFinal)) = true := by kernel_rfl
theorem kf27 : ((Tryz.prog.make == some Rows.recurseKnownRow.make)) = true := by kernel_rfl
theorem kf28 : ((Rows.recurseKnownRow.kinds == (if Rows.recurseKnownRow.domain.isEmpty then [] else Tryz.f7.params.toList.map fun t => match Tryz.prog.underlying t with | some (.int k) => some k | _ => none))) = true := by kernel_rfl
theorem kf29 : ((Rows.recurseKnownRow.pinned == Rows.recurseKnownRow.pinnedBy)) = true := by kernel_rfl
theorem kf30 : ((Rows.recurseKnownRow.veiled == (Tryz.f7.params.toList ++ Rows.recurseKnownSpec.plain.varTypes Tryz.prog ++ Tryz.f7.resultTypes.toList).any (Tryz.prog.veiledRec ·))) = true := by kernel_rfl
theorem kf31 : (Rows.recurseKnownRow.veiledFits Tryz.prog Tryz.f7.params.toList (Tryz.f7.params.toList ++ Rows.recurseKnownSpec.plain.varTypes Tryz.prog ++ Tryz.f7.resultTypes.toList)) = true := by kernel_rfl
theorem kf_closed : joinedFacts Tryz.prog 7 Tryz.f7 Rows.recurseKnownSpec Rows.recurseKnownRow = true := by
  unfold joinedFacts
  simp only [Bool.and_eq_true]
  exact ⟨⟨⟨⟨⟨⟨⟨⟨⟨⟨⟨⟨⟨⟨⟨⟨⟨⟨⟨⟨⟨⟨⟨⟨⟨⟨⟨⟨⟨⟨⟨kf0, kf1⟩, kf2⟩, kf3⟩, kf4⟩, kf5⟩, kf6⟩, kf7⟩, kf8⟩, kf9⟩, kf10⟩, kf11⟩, kf12⟩, kf13⟩, kf14⟩, kf15⟩, kf16⟩, kf17⟩, kf18⟩, kf19⟩, kf20⟩, kf21⟩, kf22⟩, kf23⟩, kf24⟩, kf25⟩, kf26⟩, kf27⟩, kf28⟩, kf29⟩, kf30⟩, kf31⟩
end Go.Proofs.YtcmlfnkmpgdacabGreatDoor
