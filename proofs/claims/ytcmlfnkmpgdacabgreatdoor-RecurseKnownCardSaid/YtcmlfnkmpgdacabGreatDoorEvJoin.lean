/-
  The evaluator's run, whole: RecurseKnown gives true.
-/
import Derived.Test.YtcmlfnkmpgdacabGreatDoorEvTableOk
import Derived.Test.YtcmlfnkmpgdacabGreatDoorEvRunA
import Derived.Test.YtcmlfnkmpgdacabGreatDoorEvRunD
import Derived.Test.YtcmlfnkmpgdacabGreatDoorEvRunE
import Derived.Test.YtcmlfnkmpgdacabGreatDoorEvRunH
import Derived.Test.YtcmlfnkmpgdacabGreatDoorEvRunC
import Derived.Test.YtcmlfnkmpgdacabGreatDoorEvRunB
import Derived.Test.YtcmlfnkmpgdacabGreatDoorEvRunF
import Derived.Test.YtcmlfnkmpgdacabGreatDoorEvRunG
namespace Go.Ev
set_option maxRecDepth 100000

noncomputable abbrev TP : Program := Go.Proofs.Tryz.prog
theorem hmT : TP.follows .mixedOrders = true := by kernel_rfl
theorem hGT : TP.globals.size ≤ roN := Nat.le_of_ble_eq_true (by kernel_rfl)
theorem F0T : TabOk TP F0 := F0_ok hmT hGT

theorem LvOk.sumOk {P : Program} {S : Lv} (h : LvOk P S) (fid : Nat) : SumOk P fid (S.call fid) := fun args w v w' e hwf => h.call fid args w v w' e hwf
theorem with_ok {P : Program} {F : TR FE} (h : TabOk P F) {fid : Nat} {s : List AV → W → RV} (hs : SumOk P fid s) : TabOk P (F0.with fid s F) := by
  unfold F0.with
  rw [pathE_pathOf]
  exact h.set hs
theorem sem_ok {F : TR FE} (h : TabOk TP F) (fid : Nat) : SumOk TP fid ((semF F 60).call fid) := by
  rw [semF_eq]
  exact (semN_sound hmT h 60).sumOk fid
theorem memo_1 {P : Program} {fid : Nat} {s : List AV → W → RV} (hs : SumOk P fid s) {m : Memo} (h : m.Ok s) : SumOk P fid (memoS [m]) := memoS_ok hs fun x hx => by
  rcases List.mem_singleton.1 hx with rfl; exact h
theorem memoZ_1 {fid : Nat} {s : List AV → W → RV} (hs : SumOk TP fid s) {m : MemoZ} (h : m.Ok s) : SumOk TP fid (memoZ [m]) := memoZ_ok hGT hs fun x hx => by
  rcases List.mem_singleton.1 hx with rfl; exact h
theorem memoZ_2 {fid : Nat} {s : List AV → W → RV} (hs : SumOk TP fid s) {m m' : MemoZ} (h : m.Ok s) (h' : m'.Ok s) : SumOk TP fid (memoZ [m, m']) := memoZ_ok hGT hs fun x hx => by
  rcases List.mem_cons.1 hx with rfl | hx
  · exact h
  · rcases List.mem_singleton.1 hx with rfl; exact h'

theorem s20_2 : SumOk TP 20 (memoS [m20_2]) := memo_1 (sem_ok F0T 20) ⟨run_m20_2, by kernel_rfl, by kernel_rfl⟩
theorem s20_1 : SumOk TP 20 (memoS [m20_1]) := memo_1 (sem_ok F0T 20) ⟨run_m20_1, by kernel_rfl, by kernel_rfl⟩
theorem s79 : SumOk TP 79 (memoZ [m79_0]) := memoZ_1 (sem_ok F0T 79) ⟨run_m79_0, by kernel_rfl, by kernel_rfl, by kernel_rfl⟩
theorem s80 : SumOk TP 80 (memoZ [m80_0]) := memoZ_1 (sem_ok F0T 80) ⟨run_m80_0, by kernel_rfl, by kernel_rfl, by kernel_rfl⟩
theorem F22T : TabOk TP F22 := with_ok F0T s20_2
theorem F25T : TabOk TP F25 := with_ok (with_ok F0T s80) s79
theorem s25 : SumOk TP 25 (memoZ [m25_0]) := memoZ_1 (sem_ok F25T 25) ⟨run_m25_0, by kernel_rfl, by kernel_rfl, by kernel_rfl⟩
theorem F57T : TabOk TP F57 := with_ok F0T s25
theorem s57 : SumOk TP 57 (memoZ [m57_0, m57_1]) := memoZ_2 (sem_ok F57T 57) ⟨run_m57_0, by kernel_rfl, by kernel_rfl, by kernel_rfl⟩ ⟨run_m57_1, by kernel_rfl, by kernel_rfl, by kernel_rfl⟩
theorem s22 : SumOk TP 22 (memoS [m22_0]) := memo_1 (sem_ok F22T 22) ⟨run_m22_0, by kernel_rfl, by kernel_rfl⟩
theorem F16T : TabOk TP F16 := with_ok (with_ok (with_ok F0T s57) s22) s20_1
theorem s16 : SumOk TP 16 (memoZ [m16_0, m16_1]) := memoZ_2 (sem_ok F16T 16) ⟨run_m16_0, by kernel_rfl, by kernel_rfl, by kernel_rfl⟩ ⟨run_m16_1, by kernel_rfl, by kernel_rfl, by kernel_rfl⟩
theorem F9T : TabOk TP F9 := with_ok F0T s16
theorem s9 : SumOk TP 9 (memoZ [m9_0]) := memoZ_1 (sem_ok F9T 9) ⟨run_m9_0, by kernel_rfl, by kernel_rfl, by kernel_rfl⟩
theorem F7T : TabOk TP F7 := with_ok F0T s9

/-- the whole run -/
theorem known_run : ∃ w', (semF F7 60).call 7 [] (mkW hp7 4 []) = .ok (.b true) w' := by
  have h := run_m7_0
  unfold isT at h
  cases e : (semF F7 60).call 7 [] (mkW hp7 4 []) with
  | no => rw [e] at h; cases h
  | ok v w' =>
    rw [e] at h
    have := eqV_ok _ _ h
    exact ⟨w', by rw [this]⟩

theorem known_sum : SumOk TP 7 ((semF F7 60).call 7) := sem_ok F7T 7
end Go.Ev
