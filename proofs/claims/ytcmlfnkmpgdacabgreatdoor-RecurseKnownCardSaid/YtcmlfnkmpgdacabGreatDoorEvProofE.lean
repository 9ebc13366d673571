/-
  Calls that were computed before: a call's result from a small memory stands for the call.
-/
import Derived.Test.YtcmlfnkmpgdacabGreatDoorEvProofD
import Derived.Test.YtcmlfnkmpgdacabGreatDoorEvDefs
namespace Go.Ev
noncomputable section

/-! ## The same value -/

theorem beq_ok {a b : Nat} (h : Nat.beq a b = true) : a = b := Nat.eq_of_beq_eq_true h

theorem eqV_ok (a : AV) : ∀ b, eqV a b = true → a = b := by
  refine AV.rec (motive_1 := fun a => ∀ b, eqV a b = true → a = b) (motive_2 := fun l => ∀ m, eqVs l m = true → l = m) ?_ ?_ ?_ ?_ ?_ ?_ ?_ ?_ ?_ ?_ ?_ ?_ ?_ ?_ ?_ ?_ ?_ ?_ ?_ a
  · intro k m b h; cases b <;> simp [eqV] at h; rw [h.1, h.2]
  · intro k m b h; cases b <;> simp [eqV] at h; rw [h.1, h.2]
  · intro x b h
    cases b <;> simp [eqV] at h
    rename_i y; cases x <;> cases y <;> simp at h <;> rfl
  · intro b h; simp [eqV] at h
  · intro x b h; simp [eqV] at h
  · intro b h; cases b <;> simp [eqV] at h; rfl
  · intro i o b h; cases b <;> simp [eqV] at h; rw [h.1, h.2]
  · intro b h; cases b <;> simp [eqV] at h; rfl
  · intro i o l c e b h; cases b <;> simp [eqV] at h; obtain ⟨⟨⟨⟨h1, h2⟩, h3⟩, h4⟩, h5⟩ := h; rw [h1, h2, h3, h4, h5]
  · intro b h; cases b <;> simp [eqV] at h; rfl
  · intro b h; cases b <;> simp [eqV] at h; rfl
  · intro i b h; cases b <;> simp [eqV] at h; rw [h]
  · intro f x y h1 h2 b h
    cases b <;> simp [eqV] at h
    rename_i f' x' y'
    have e1 : x = x' := h1 _ h.1.2
    have e2 : y = y' := h2 _ h.2
    rw [h.1.1, e1, e2]
  · intro l b h; cases b <;> simp [eqV] at h; rw [h]
  · intro b h; cases b <;> simp [eqV] at h; rfl
  · intro l h1 b h
    cases b <;> simp [eqV] at h
    rename_i l'
    have e : l = l' := h1 _ h
    rw [e]
  · intro l h1 b h
    cases b <;> simp [eqV] at h
    rename_i l'
    have e : l = l' := h1 _ h
    rw [e]
  · intro m h; cases m <;> simp [eqVs, eqV] at h; rfl
  · intro x l h1 h2 m h
    cases m with
    | nil => simp [eqVs, eqV] at h
    | cons y m =>
      have h : (eqV x y && eqVs l m) = true := h
      simp only [Bool.and_eq_true] at h
      rw [h1 _ h.1, h2 _ h.2]

theorem eqVs_ok (l m : List AV) (h : eqVs l m = true) : l = m := by
  have := eqV_ok _ _ h
  simpa using this

/-! ## A small memory -/

theorem boolT {x b : Bool} (h : Bool.rec (motive := fun _ => Bool) false x b = true) : b = true ∧ x = true := by
  cases b with
  | false => cases h
  | true => exact ⟨rfl, h⟩

theorem chkL_ok {t : TR AV} : ∀ (l : List AV) (i : Nat), chkL t l i = true → ∀ j, j < l.length → TR.get .u (pathOf (i + j)) t = l.getD j .u := by
  intro l
  induction l with
  | nil => intro i _ j hj; simp at hj
  | cons a l ih =>
    intro i h j hj
    obtain ⟨h1, h2⟩ := boolT (x := chkL t l (Nat.succ i)) (b := eqV (TR.get .u (pathOf i) t) a) h
    cases j with
    | zero => simpa using eqV_ok _ _ h1
    | succ j =>
      have := ih _ h2 j (by simpa using hj)
      rw [show i + (j + 1) = i.succ + j by omega, this]
      simp

theorem chkO_ok {l : List AV} {o : AO} (h : chkO l o = true) : shOf o = .cs l.length ∧ ∀ off, off < l.length → celOf o off = l.getD off .u := by
  cases o <;> simp only [chkO, onCs] at h <;> try (cases h; done)
  rename_i n t
  obtain ⟨h1, h2⟩ := boolT h
  have := beq_ok h1
  rw [lenL_eq] at this
  refine ⟨by simp [shOf, this], fun off ho => ?_⟩
  have := chkL_ok l 0 h2 off ho
  simpa [celOf] using this

theorem mkH_get : ∀ (L : List Ob) (t : TR AO) (id : Nat), TR.get .no (pathOf id) (mkH L t) = match obL L id with
    | some cs => mkCs cs
    | none => TR.get .no (pathOf id) t := by
  intro L
  induction L with
  | nil => intro t id; rfl
  | cons o L ih =>
    obtain ⟨i, cs⟩ := o
    intro t id
    change TR.get .no (pathOf id) (TR.force (mkH L) (TR.set .no (mkCs cs) (pathOf i) t)) = _
    rw [TR.force_eq, ih]
    simp only [obL]
    cases obL L id with
    | some cs => rfl
    | none =>
      simp only [TR.get_setN]
      by_cases e : i = id
      · subst e; simp
      · simp [e, Ne.symm e]

theorem get_no (id : Nat) : TR.get (.no : AO) (pathOf id) .e = .no := by cases pathOf id <;> rfl

theorem mkW_ob (L : List Ob) (nx : Nat) (wl : List L3) (id : Nat) : (mkW L nx wl).ob id = match obL L id with
    | some cs => mkCs cs
    | none => .no := by
  show TR.get .no (pathOf id) (mkH L .e) = _
  rw [mkH_get]
  cases obL L id <;> simp [get_no]

theorem chkH_ok {w : W} {nx : Nat} : ∀ (L : List Ob), chkH L w nx = true → ∀ id cs, obL L id = some cs → id < nx ∧ chkO cs (w.ob id) = true := by
  intro L
  induction L with
  | nil => intro _ id cs h; cases h
  | cons o L ih =>
    obtain ⟨i, c⟩ := o
    intro h id cs hc
    obtain ⟨h1, h2⟩ := boolT (x := chkH L w nx) (b := Bool.rec (motive := fun _ => Bool) false (chkO c (w.ob i)) (Nat.ble (Nat.succ i) nx)) h
    obtain ⟨h3, h4⟩ := boolT h1
    simp only [obL] at hc
    cases e : obL L id with
    | some c' => rw [e] at hc; cases hc; exact ih h2 id _ e
    | none =>
      rw [e] at hc
      by_cases g : i = id
      · subst g; simp at hc; subst hc; exact ⟨Nat.le_of_ble_eq_true h3, h4⟩
      · simp [g] at hc

theorem mkCs_sh (l : List AV) : shOf (mkCs l) = .cs l.length := by show Sh.cs (lenL l) = _; rw [lenL_eq]
theorem mkCs_cel (l : List AV) (off : Nat) : celOf (mkCs l) off = if off < l.length then l.getD off .u else .u := by
  show TR.get .u (pathOf off) (layL l .e 0) = _
  rw [layL_spec, get_e]
  simp

structure SubW (L : List Ob) (k : Nat) (w : W) : Prop where
  nx : w.nx = k
  bs : w.bs = 0
  lt : ∀ id cs, obL L id = some cs → id < k
  sub : Sub (mkW L k []).mem w.mem

theorem chkW_ok {L : List Ob} {nx : Nat} {w : W} (h : chkW L nx w = true) : SubW L nx w := by
  obtain ⟨h1, h2⟩ := boolT h
  obtain ⟨h3, h4⟩ := boolT h2
  have key := chkH_ok L h4
  refine ⟨beq_ok h1, beq_ok h3, fun id cs hc => (key id cs hc).1, ⟨fun id hid => ?_, fun id off hid ho => ?_⟩⟩
  · simp only [W.mem, mkW_ob] at hid ⊢
    cases e : obL L id with
    | none => simp [e, shOf] at hid
    | some cs => simp only [mkCs_sh]; exact (chkO_ok (key id cs e).2).1
  · simp only [W.mem, mkW_ob] at hid ho ⊢
    cases e : obL L id with
    | none => simp [e, shOf] at hid
    | some cs =>
      simp only [e, mkCs_cel] at ho ⊢
      split at ho
      · rename_i hlt
        rw [if_pos hlt]
        exact (chkO_ok (key id cs e).2).2 off hlt
      · exact absurd rfl ho

theorem mkW_mem (L : List Ob) (nx nx' : Nat) (wl wl' : List L3) : (mkW L nx wl).mem = (mkW L nx' wl').mem := rfl

theorem WfO.cs (P : Program) (l : List AV) : WfO P (mkCs l) := .of_isLp rfl
theorem mkW_wfo (P : Program) (L : List Ob) (nx : Nat) (wl : List L3) (id : Nat) : WfO P ((mkW L nx wl).ob id) := by
  rw [mkW_ob]
  cases obL L id with
  | none => exact .of_isLp rfl
  | some cs => exact .cs P cs
theorem mkW_wf (P : Program) {L : List Ob} {nx : Nat} (h : ∀ id cs, obL L id = some cs → id < nx) (wl : List L3) : WfW P (mkW L nx wl) :=
  ⟨mkW_wfo P L nx wl, fun id hid => by
    rw [mkW_ob]
    cases e : obL L id with
    | none => rfl
    | some cs => have := h id cs e; have hid : nx ≤ id := hid; omega⟩

/-! ## Calls that were computed before -/

/-- it was computed -/
def Memo.Ok (s : List AV → W → RV) (m : Memo) : Prop := match m with
  | .mk A L nx v L' nx' => chkR v L' nx' (s A (mkW L nx [])) = true ∧ covL L L' = true ∧ roL L L' = true

theorem covL_ok {L' : List Ob} : ∀ (L : List Ob), covL L L' = true → ∀ id cs, obL L id = some cs → ∃ cs', obL L' id = some cs' := by
  intro L
  induction L with
  | nil => intro _ id cs h; cases h
  | cons o L ih =>
    obtain ⟨i, c⟩ := o
    intro h id cs hc
    obtain ⟨h1, h2⟩ := boolT (x := covL L L') (b := isSomeL (obL L' i)) h
    simp only [obL] at hc
    cases e : obL L id with
    | some c' => exact ih h2 id _ e
    | none =>
      rw [e] at hc
      by_cases g : i = id
      · subst g
        cases e2 : obL L' i with
        | some c2 => exact ⟨c2, rfl⟩
        | none => rw [e2] at h1; cases h1
      · simp [g] at hc

theorem roL_ok {L L' : List Ob} (h : roL L L' = true) : ∀ id, id < roN → (mkW L' 0 []).mem.sh id = (mkW L 0 []).mem.sh id := by
  have key : ∀ id, Nat.beq (lenO (obL L id)) (lenO (obL L' id)) = true → (mkW L' 0 []).mem.sh id = (mkW L 0 []).mem.sh id := fun id h => by
    have h := beq_ok h
    simp only [W.mem, mkW_ob]
    cases e1 : obL L id <;> cases e2 : obL L' id <;> rw [e1, e2] at h <;> simp [lenO] at h ⊢
    rw [mkCs_sh, mkCs_sh, ← lenL_eq, ← lenL_eq, h]
  simp only [roL, Bool.and_eq_true] at h
  intro id hid
  have : id = 0 ∨ id = 1 ∨ id = 2 ∨ id = 3 := by unfold roN at hid; omega
  rcases this with rfl | rfl | rfl | rfl
  · exact key _ h.1.1.1
  · exact key _ h.1.1.2
  · exact key _ h.1.2
  · exact key _ h.2

/-- more is known to be there -/
theorem Rel.weak {P : Program} {N0 : Nat} {ι : Io} {M : Mem} {n n' : Dom} {w : World} (h : Rel P N0 ι M n w) (hn : n.le n') : Rel P N0 ι M n' w where
  ro := fun id hi => hn id (h.ro id hi)
  lt := fun id hi => hn id (h.lt id hi)
  inj := h.inj
  own := h.own
  size := h.size
  ob := fun id hi => (h.ob id hi).ext (.refl _ _) hn
  glob := fun g hg => let ⟨a, b, c⟩ := h.glob g hg; ⟨a, b, hn _ c⟩
  base := h.base

theorem Dom.upto_le (n : Dom) {a b c : Nat} (h : a ≤ b) : (n.upto b c).le (n.upto a c) := fun id hi => by
  rcases hi with hi | hi
  · exact .inl hi
  · exact .inr (by omega)

/-- what a computed call says, wherever its objects are -/
theorem memo_core {P : Program} {fid : Nat} {s : List AV → W → RV} (hs : SumOk P fid s) {A : List AV} {L L' : List Ob} {nx nx' : Nat} {v : AV} (hm : Memo.Ok s (.mk A L nx v L' nx')) {w : W} (h2 : chkU L nx w = true) :
    w.nx ≤ nx ∧ nx ≤ nx' ∧ w.bs = 0 ∧ Enters P fid ∧ (∀ id cs, obL L' id = some cs → id < nx') ∧ (∀ id cs, obL L id = some cs → ∃ cs', obL L' id = some cs') ∧ Sub (mkW L nx []).mem w.mem ∧
    (∀ id, id < roN → (mkW L' nx' []).mem.sh id = (mkW L nx []).mem.sh id) ∧
    ∀ (N0 : Nat) (ι : Io) (n : Dom) (ω : World) (vs : Array Value), Rel P N0 ι w.mem n ω → n.free w.nx nx' → VRs ι n A vs.toList →
      CallsIn Fence.wide 0 P fid vs ω (fun e ω' => ∃ v' ι', e = .returned v' ∧ VR ι' (n.upto nx nx') v v' ∧ Rel P N0 ι' (mkW L' nx' []).mem (n.upto nx nx') ω' ∧ Evo ι (mkW L nx []).mem n ω ι' (mkW L' nx' []).mem (n.upto nx nx') ω') := by
  obtain ⟨hm, hcov, hro⟩ := hm
  obtain ⟨a1, a2⟩ := boolT h2
  obtain ⟨a3, a4⟩ := boolT a2
  have key := chkH_ok L a4
  have hwfL : WfW P (mkW L nx []) := mkW_wf P (fun id cs hc => (key id cs hc).1) []
  have hsub : Sub (mkW L nx []).mem w.mem := ⟨fun id hid => by
      simp only [W.mem, mkW_ob] at hid ⊢
      cases e : obL L id with
      | none => simp [e, shOf] at hid
      | some cs => simp only [mkCs_sh]; exact (chkO_ok (key id cs e).2).1, fun id off hid ho => by
      simp only [W.mem, mkW_ob] at hid ho ⊢
      cases e : obL L id with
      | none => simp [e, shOf] at hid
      | some cs =>
        simp only [e, mkCs_cel] at ho ⊢
        split at ho
        · rename_i hlt
          rw [if_pos hlt]
          exact (chkO_ok (key id cs e).2).2 off hlt
        · exact absurd rfl ho⟩
  cases hr : s A (mkW L nx []) with
  | no => rw [hr] at hm; cases hm
  | ok v1 w1 =>
    rw [hr] at hm
    obtain ⟨hv, hw1⟩ := boolT (x := chkW L' nx' w1) (b := eqV v1 v) hm
    have hv := eqV_ok _ _ hv
    subst hv
    have hW' := chkW_ok hw1
    obtain ⟨c1, ent, p1⟩ := hs _ _ _ _ hr hwfL
    have hnx : nx ≤ w1.nx := c1.nx
    have hle : w.nx ≤ nx := Nat.le_of_ble_eq_true a1
    refine ⟨hle, by rw [← hW'.nx]; exact hnx, beq_ok a3, ent, hW'.lt, covL_ok L hcov, hsub, roL_ok hro, fun N0 ι n ω vs hR hf hvs => ?_⟩
    refine (p1 N0 ι n ω vs (hR.sub hsub) (fun id g1 g2 => hf id (Nat.le_trans hle g1) (by rw [← hW'.nx]; exact g2)) hvs).mono ?_
    rintro e ω' ⟨v', ι', rfl, q1, q2, q3⟩
    have e2 : w1.nx = nx' := hW'.nx
    have e1 : (mkW L nx []).nx = nx := rfl
    rw [e2, e1] at q1 q2 q3
    refine ⟨v', ι', rfl, q1, q2.sub hW'.sub, ?_⟩
    exact
    { ext := q3.ext
      le := q3.le
      size := q3.size
      frame := q3.frame
      own := fun id hid hr hb => q3.own id (by rw [hW'.sub.sh id hid]; exact hid) hr hb
      os := q3.os
      tape := q3.tape
      output := q3.output }

theorem memo1_ok {P : Program} {fid : Nat} {s : List AV → W → RV} (hs : SumOk P fid s) {m : Memo} (hm : m.Ok s) {args : List AV} {w w' : W} {v : AV} {z : RV} (h : memo1 m args w z = .ok v w') :
    z = .ok v w' ∨ (WfW P w → Chg P w w' ∧ Enters P fid ∧ ∀ (N0 : Nat) (ι : Io) (n : Dom) (ω : World) (vs : Array Value), Rel P N0 ι w.mem n ω → n.free w.nx w'.nx → VRs ι n args vs.toList →
      CallsIn Fence.wide 0 P fid vs ω (CallPost P N0 ι n w ω v w')) := by
  obtain ⟨A, L, nx, v0, L', nx'⟩ := m
  change (Bool.rec (motive := fun _ => RV) z (Bool.rec (motive := fun _ => RV) z (W.rec (motive := fun _ => RV) (fun hp _ bs wl => .ok v0 (.mk (mkH L' hp) nx' bs wl)) w) (chkU L nx w)) (eqVs args A)) = .ok v w' at h
  cases h1 : eqVs args A with
  | false => simp only [h1] at h; exact .inl h
  | true =>
    cases h2 : chkU L nx w with
    | false => simp only [h1, h2] at h; exact .inl h
    | true =>
      simp only [h1, h2] at h
      have hA := eqVs_ok _ _ h1
      subst hA
      obtain ⟨k1, k2, k3, ent, k4, k5, k6, k7, p1⟩ := memo_core hs hm h2
      obtain ⟨hp, nw, bs, wl⟩ := w
      have h : RV.ok v0 (.mk (mkH L' hp) nx' bs wl) = .ok v w' := h
      cases h
      refine .inr fun hwf => ?_
      have hob : ∀ id, (W.mk (mkH L' hp) nx' bs wl).ob id = match obL L' id with
          | some cs => mkCs cs
          | none => (W.mk hp nw bs wl).ob id := fun id => mkH_get L' hp id
      refine ⟨?_, ent, fun N0 ι n ω vs hR hf hvs => ?_⟩
      · exact
        { wfo := fun hw id => by
            rw [hob]
            cases obL L' id with
            | some cs => exact .cs P cs
            | none => exact hw id
          nx := Nat.le_trans k1 k2
          bs := rfl
          top := fun ht id hid => by
            rw [hob]
            cases e : obL L' id with
            | some cs => have := k4 id cs e; have hid : nx' ≤ id := hid; omega
            | none => exact ht id (Nat.le_trans (Nat.le_trans k1 k2) hid)
          wl := ⟨[], rfl, fun x hx => by cases hx⟩
          keep := fun id hid => by have k3 : bs = 0 := k3; have hid : id < bs := hid; omega }
      · refine (p1 N0 ι n ω vs hR hf hvs).mono ?_
        rintro e ω' ⟨v', ι', rfl, q1, q2, q3⟩
        have hle : (n.upto nx nx').le (n.upto nw nx') := n.upto_le k1
        obtain ⟨r1, r2⟩ := hR.frame (M' := (W.mk (mkH L' hp) nx' bs wl).mem) k6 q2 q3 k7 fun id hid => by
          simp only [W.mem, hob, mkW_ob] at hid ⊢
          cases e : obL L' id with
          | some cs => exact .inl ⟨by simp [mkCs_sh], rfl, rfl⟩
          | none =>
            refine .inr ⟨?_, rfl, rfl, rfl⟩
            cases e2 : obL L id with
            | none => rfl
            | some cs => obtain ⟨cs', e3⟩ := k5 id cs e2; rw [e] at e3; cases e3
        exact ⟨v', ι', rfl, VR.ext (.refl _ _) hle q1, r1.weak hle, ⟨r2.ext, fun id hi => hle id (r2.le id hi), r2.size, r2.frame, r2.own, r2.os, r2.tape, r2.output⟩⟩

theorem memoS_ok {P : Program} {fid : Nat} {s : List AV → W → RV} (hs : SumOk P fid s) : ∀ {ms : List Memo}, (∀ m ∈ ms, m.Ok s) → SumOk P fid (memoS ms) := by
  intro ms
  induction ms with
  | nil => intro _ args w v w' h; cases h
  | cons m ms ih =>
    intro hm args w v w' h hwf
    rcases memo1_ok hs (hm m List.mem_cons_self) (z := memoS ms args w) h with h1 | h1
    · exact ih (fun x hx => hm x (List.mem_cons_of_mem _ hx)) _ _ _ _ h1 hwf
    · exact h1 hwf

end
end Go.Ev

/-
  The evaluator once more, with fewer steps: the same function.
-/
namespace Go.Ev
noncomputable section

/-! ## Paths -/

theorem pathF_fuel : ∀ (f g k : Nat), k < 2 ^ f → k < 2 ^ g → pathF f k = pathF g k := by
  intro f
  induction f with
  | zero =>
    intro g k h1 h2
    have : k = 0 := by simpa using h1
    subst this
    cases g <;> rfl
  | succ f ih =>
    intro g k h1 h2
    cases g with
    | zero =>
      have : k = 0 := by simpa using h2
      subst this; rfl
    | succ g =>
      show (Bool.rec (Bool.rec (.r (pathF f (Nat.sub (Nat.div k 2) 1))) (.l (pathF f (Nat.div k 2))) (Nat.beq (Nat.mod k 2) 1)) .h (Nat.beq k 0) : Pa) =
        (Bool.rec (Bool.rec (.r (pathF g (Nat.sub (Nat.div k 2) 1))) (.l (pathF g (Nat.div k 2))) (Nat.beq (Nat.mod k 2) 1)) .h (Nat.beq k 0) : Pa)
      have a1 : k / 2 < 2 ^ f := by rw [Nat.pow_succ] at h1; omega
      have a2 : k / 2 < 2 ^ g := by rw [Nat.pow_succ] at h2; omega
      have b1 : Nat.sub (k / 2) 1 < 2 ^ f := Nat.lt_of_le_of_lt (Nat.sub_le _ _) a1
      have b2 : Nat.sub (k / 2) 1 < 2 ^ g := Nat.lt_of_le_of_lt (Nat.sub_le _ _) a2
      have e1 : pathF f (Nat.div k 2) = pathF g (Nat.div k 2) := ih g _ a1 a2
      have e2 : pathF f (Nat.sub (Nat.div k 2) 1) = pathF g (Nat.sub (Nat.div k 2) 1) := ih g _ b1 b2
      rw [e1, e2]

theorem pathQ_eq (k : Nat) : pathQ k = pathOf k := by
  unfold pathQ pathOf
  cases h : Nat.ble k 1000000000000 with
  | false => rfl
  | true =>
    have := Nat.le_of_ble_eq_true h
    exact pathF_fuel 40 k k (Nat.lt_of_le_of_lt this (by decide)) (Nat.lt_two_pow_self)

/-! ## What a value is -/

theorem binS_no1 (op : BinOp) (x y : AV) (h : toI x = none) : binS op x y = none := by
  unfold binS; split <;> simp [h]
theorem binS_no2 (op : BinOp) (x y : AV) (h : toI y = none) : binS op x y = none := by
  unfold binS; split <;> (split <;> simp_all)

theorem nnF_eq (op : BinOp) (f : Nat → Nat → Nat → Option AV) (x y : AV) (k : AV → RC) : nnF op f x y k = Option.rec (motive := fun _ => RC) .no k (nn op f x y) := by
  unfold nn
  cases x with
  | n c a =>
    cases y with
    | n c' b => rfl
    | z c' b => rfl
    | _ => simp only [nnF, toN]; rw [binS_no2 _ _ _ rfl]
  | z c a => rfl
  | _ => simp only [nnF, toN]; rw [binS_no1 _ _ _ rfl]

theorem binK_eq (op : BinOp) (x y : AV) (k : AV → RC) : binK op x y k = Option.rec (motive := fun _ => RC) .no k (binF op x y) := by
  cases op <;> first | exact nnF_eq _ _ _ _ _ | rfl

/-! ## Operations -/

theorem takR_eq : ∀ (n : Nat) (l : List AV), takR n l = l.take n := by
  intro n
  induction n with
  | zero => intro l; cases l <;> rfl
  | succ n ih => intro l; cases l with
    | nil => rfl
    | cons a l => show a :: takR n l = _; rw [ih]; rfl
theorem drpR_eq : ∀ (n : Nat) (l : List AV), drpR n l = l.drop n := by
  intro n
  induction n with
  | zero => intro l; cases l <;> rfl
  | succ n ih => intro l; cases l with
    | nil => rfl
    | cons a l => show drpR n l = _; rw [ih]; rfl
theorem fillR_eq : ∀ (ps : List (Nat × Nat × AV)) (cs : List AV), fillR ps cs = fillA ps cs := by
  intro ps
  induction ps with
  | nil => intro cs; rfl
  | cons p ps ih =>
    obtain ⟨off, size, v⟩ := p
    intro cs
    show (Bool.rec (motive := fun _ => Option (List AV)) none (Bool.rec (motive := fun _ => Option (List AV)) none (Bool.rec (motive := fun _ => Option (List AV))
        (fillR ps (appL (takR off cs) (appL (cellsV v) (drpR (Nat.add off size) cs)))) none (isU v)) (Nat.ble (Nat.add off size) (lenL cs))) (Nat.beq (lenL (cellsV v)) size)) = fillA ((off, size, v) :: ps) cs
    unfold fillA
    rw [ih, takR_eq, drpR_eq, appL_eq, appL_eq]
    by_cases h1 : lenL (cellsV v) = size
    · have e1 : Nat.beq (lenL (cellsV v)) size = true := by rw [h1]; exact Nat.beq_refl _
      rw [e1]
      by_cases h2 : off + size ≤ lenL cs
      · have e2 : Nat.ble (Nat.add off size) (lenL cs) = true := Nat.ble_eq_true_of_le h2
        rw [e2]
        cases h3 : isU v with
        | false => simp [h1, h2, List.append_assoc]
        | true => simp [h1, h2]
      · have e2 : Nat.ble (Nat.add off size) (lenL cs) = false := by
          cases h : Nat.ble (Nat.add off size) (lenL cs) with
          | false => rfl
          | true => exact absurd (Nat.le_of_ble_eq_true h) h2
        rw [e2]
        simp [h1, h2]
    · have e1 : Nat.beq (lenL (cellsV v)) size = false := by
        cases h : Nat.beq (lenL (cellsV v)) size with
        | false => rfl
        | true => exact absurd (Nat.eq_of_beq_eq_true h) h1
      rw [e1]
      simp [h1]
theorem fLoad1_eq (x : OA) : fLoad1 x = xLoad1 x := by
  funext S R tm w k
  obtain ⟨hp, nx, bs, wl⟩ := w
  unfold fLoad1 xLoad1
  generalize evA x R tm = v
  cases v with
  | p id off =>
    show cO _ (TR.get .no (pathQ id) hp) = opt2 (onCs .no _ (TR.get .no (pathOf id) hp)) k
    rw [pathQ_eq, pathQ_eq]
    cases TR.get .no (pathOf id) hp with
    | cs n t => simp only [cO, onCs]; cases isU (TR.get .u (pathOf off) t) <;> rfl
    | _ => rfl
  | _ => rfl
theorem fFa_eq (o : Nat) (x : OA) : fFa o x = xFa o x := by
  funext S R tm w k
  unfold fFa xFa
  generalize evA x R tm = v
  cases v <;> rfl
theorem fIas_eq (es : Nat) (x i : OA) : fIas es x i = xIas es x i := by
  funext S R tm w k
  unfold fIas xIas
  generalize evA x R tm = v
  generalize evA i R tm = y
  cases v with
  | sl id off len cap ex =>
    cases y with
    | n c j => simp only [pS, pN, iaSl, onN, toN]; cases Nat.ble (Nat.succ j) len <;> rfl
    | _ => rfl
  | _ => rfl
theorem fIaa_eq (n es : Nat) (x i : OA) : fIaa n es x i = xIaa n es x i := by
  funext S R tm w k
  unfold fIaa xIaa
  generalize evA x R tm = v
  generalize evA i R tm = y
  cases v with
  | p id off =>
    cases y with
    | n c j => simp only [pP, pN, iaArr, onP, toP, onN, toN]; cases Nat.ble (Nat.succ j) n <;> rfl
    | _ => rfl
  | _ => rfl
theorem fPick_eq (c a b : OA) : fPick c a b = xPick c a b := by
  funext S R tm w k
  unfold fPick xPick
  generalize evA c R tm = v
  cases v <;> rfl
theorem fBin_eq (op : BinOp) (x y : OA) : fBin op x y = xBin op x y := by
  funext S R tm w k
  exact binK_eq _ _ _ _
theorem fAlloc_eq (z : List AV) : fAlloc z = xAlloc z := by
  funext S R tm w k
  obtain ⟨hp, nx, bs, wl⟩ := w
  show newW (mkCs z) (fun id w' => k (.p id 0) w') (.mk hp nx bs wl) = opt2 (newO (mkCs z) (.mk hp nx bs wl) (fun id w' => .ok (.p id 0) w')) k
  simp only [newW, newO, TR.force_eq, pathQ_eq]; rfl
theorem fCall_eq (f : OA) (args : List OA) : fCall f args = xCall f args := by
  funext S R tm w k
  unfold fCall xCall
  generalize evA f R tm = v
  cases v <;> rfl
theorem fBuild_eq (z : List AV) (ps : List PT) : fBuild z ps = xBuild z ps := by
  funext S R tm w k
  unfold fBuild xBuild buildA
  rw [fillR_eq]
  cases fillA (evP ps R tm) z <;> rfl
theorem fBslice_eq (n : Nat) (z : List AV) (ps : List PT) : fBslice n z ps = xBslice n z ps := by
  funext S R tm w k
  obtain ⟨hp, nx, bs, wl⟩ := w
  unfold fBslice xBslice bsliceA
  rw [fillR_eq]
  cases fillA (evP ps R tm) z with
  | none => rfl
  | some cs =>
    show newW (mkCs cs) (fun id w' => k (.sl id 0 n n 0) w') (.mk hp nx bs wl) = opt2 (newO (mkCs cs) (.mk hp nx bs wl) (fun id w' => .ok (.sl id 0 n n 0) w')) k
    simp only [newW, newO, TR.force_eq, pathQ_eq]; rfl
theorem okC_cells {v : AV} (h : okC v = true) : cellsV v = [v] := by cases v <;> first | rfl | cases h
theorem fStore_eq (n : Nat) (x v : OA) : fStore n x v = xStore n x v := by
  funext S R tm w k
  unfold fStore
  cases ho : okC (evA v R tm) with
  | false => rfl
  | true =>
    unfold xStore storeA
    rw [okC_cells ho]
    obtain ⟨hp, nx, bs, wl⟩ := w
    generalize evA v R tm = vv at ho
    generalize evA x R tm = xx
    cases xx with
    | p id off =>
      show cO _ (TR.get .no (pathQ id) hp) = opt2 (onCs .no _ (TR.get .no (pathOf id) hp)) k
      rw [pathQ_eq, pathQ_eq]
      cases TR.get .no (pathOf id) hp with
      | cs m t =>
        simp only [cO, onCs]
        have hs : storeL [vv] t off = (Bool.rec (Bool.rec none (TR.force (fun t' => some t') (TR.set .u vv (pathOf off) t)) (okC vv)) none (isU (TR.get .u (pathOf off) t)) : Option (TR AV)) := rfl
        rw [hs, ho]
        have hl : Nat.beq (lenL [vv]) n = Nat.beq n 1 := by
          show Nat.beq 1 n = Nat.beq n 1
          cases h1 : Nat.beq n 1 with
          | true => have := Nat.eq_of_beq_eq_true h1; subst this; rfl
          | false =>
            cases h2 : Nat.beq 1 n with
            | true => have := Nat.eq_of_beq_eq_true h2; subst this; cases h1
            | false => rfl
        rw [hl]
        cases isU (TR.get .u (pathOf off) t) with
        | true => cases Nat.beq n 1 <;> rfl
        | false =>
          cases Nat.beq n 1 with
          | false => rfl
          | true =>
            simp only [TR.force_eq]
            show (Bool.rec (motive := fun _ => RC) .no (TR.force _ (TR.set .no _ (pathQ id) hp)) (Nat.ble roN id)) = opt2 (Bool.rec .no (TR.force _ (TR.set .no _ (pathOf id) hp)) (Nat.ble roN id)) k
            rw [pathQ_eq, TR.force_eq, TR.force_eq]
            cases Nat.ble roN id <;> rfl
      | _ => rfl
    | _ => rfl

theorem exF_eq (i : I) : exF i = exI i := by
  cases i <;> first
    | rfl
    | exact fPick_eq _ _ _
    | exact fAlloc_eq _
    | exact fBuild_eq _ _
    | exact fBslice_eq _ _ _
    | exact fLoad1_eq _
    | exact fStore_eq _ _ _
    | exact fBin_eq _ _ _
    | exact fFa_eq _ _
    | exact fIaa_eq _ _ _ _
    | exact fIas_eq _ _ _
    | exact fCall_eq _ _

/-! ## Regions -/

theorem opsF_eq (S : Lv) : ∀ (q : Q), opsF S q = opsL S q := by
  intro q
  induction q with
  | nil => rfl
  | mvk p x r ih =>
    funext R tm w
    show TR.force (fun tm' => opsF S r R tm' w) _ = TR.force (fun tm' => opsL S r R tm' w) _
    rw [ih]
  | bin op x y r ih =>
    funext R tm w
    show binK op _ _ (fun v => opsF S r (v :: R) tm w) = Option.rec (motive := fun _ => RC) .no (fun v => opsL S r (v :: R) tm w) (binF op (evA x R tm) (evA y R tm))
    rw [binK_eq, ih]
  | bink p op x y r ih =>
    funext R tm w
    show binK op _ _ (fun v => TR.force (fun tm' => opsF S r R tm' w) (TR.set .u v p tm)) = Option.rec (motive := fun _ => RC) .no (fun v => TR.force (fun tm' => opsL S r R tm' w) (TR.set .u v p tm)) (binF op (evA x R tm) (evA y R tm))
    rw [binK_eq, ih]
  | dfr f args r ih =>
    funext R tm w
    show FV.rec (motive := fun _ => RC) .no (fun _ _ _ => TR.force (fun tm' => opsF S r R tm' w) _) (fun _ => .no) _ = FV.rec (motive := fun _ => RC) .no (fun _ _ _ => TR.force (fun tm' => opsL S r R tm' w) _) (fun _ => .no) _
    rw [ih]
  | gen i g d j un r ih =>
    funext R tm w
    show Option.rec (motive := fun _ => RC) (exF i S R tm w (dstF d (opsF S r) R tm)) (fun g => wantK (some g) R tm (dstF d (opsF S r) R tm (.tup []) w) (exF i S R tm w (dstF d (opsF S r) R tm))) g =
      wantK g R tm (dstK d (.tup []) R tm (fun R' tm' => opsL S r R' tm' w)) (exI i S R tm w (fun v w' => dstK d v R tm (fun R' tm' => opsL S r R' tm' w')))
    rw [ih, exF_eq]
    cases g <;> rfl

/-! ### Regions that draw -/

theorem checkU_nil (y : Rec) : ∀ (lg : List Rec), checkU [] y lg = true := by
  intro lg
  unfold checkU
  have : anyL (fun x => memN (recJ x) [] && not (pairOk x y)) lg = false := by
    induction lg with
    | nil => rfl
    | cons a l ih =>
      show (Bool.rec (anyL (fun x => memN (recJ x) [] && not (pairOk x y)) l) true (memN (recJ a) [] && not (pairOk a y)) : Bool) = false
      have e : memN (recJ a) [] = false := rfl
      rw [e, ih]; rfl
  rw [this]; rfl

theorem finF_eq (j : Nat) (un : List Nat) (all : Bool) (rd : List L3) (w0 : W) (lg : List Rec) (k : List Rec → K1) : finF j un all rd w0 lg k = finD j un all rd w0 lg k := by
  funext v w
  cases un with
  | nil => unfold finF finD; rw [checkU_nil]
  | cons a l => rfl

theorem d1_eq (x : EX) (nd : List AV → Tm → List L3) (j : Nat) (un : List Nat) (S : Lv) (lg : List Rec) (R : List AV) (tm : Tm) (w : W) (k : List Rec → K1) :
    d1 x nd j un S lg R tm w k = if anyL (fun x => Nat.ble w.nx (idOf x)) (nd R tm) then .no else x S R tm w.open' (finD j un false (nd R tm) w lg k) := by
  unfold d1
  rw [finF_eq]
  cases anyL (fun x => Nat.ble w.nx (idOf x)) (nd R tm) <;> rfl
theorem d1e_eq (x : EX) (j : Nat) (un : List Nat) (S : Lv) (lg : List Rec) (R : List AV) (tm : Tm) (w : W) (k : List Rec → K1) :
    d1e x j un S lg R tm w k = if anyL (fun x => Nat.ble w.nx (idOf x)) [] then .no else x S R tm w.open' (finD j un false [] w lg k) := by
  unfold d1e
  rw [finF_eq]; rfl
theorem d2_eq (x : EX) (j : Nat) (un : List Nat) (S : Lv) (lg : List Rec) (R : List AV) (tm : Tm) (w : W) (k : List Rec → K1) :
    d2 x j un S lg R tm w k = x S R tm w.open' (finD j un true [] w lg k) := by
  unfold d2
  rw [finF_eq]

theorem exG_eq (i : I) (j : Nat) (un : List Nat) (S : Lv) (lg : List Rec) (R : List AV) (tm : Tm) (w : W) (k : List Rec → K1) : exG i j un S lg R tm w k = exD i j un S lg R tm w k := by
  unfold exD
  rw [← exF_eq]
  cases i with
  | alloc z => exact d1e_eq (fAlloc z) j un S lg R tm w k
  | box x => exact d1e_eq (xBox x) j un S lg R tm w k
  | bslice n z ps => exact d1e_eq (fBslice n z ps) j un S lg R tm w k
  | load1 x => exact d1_eq (fLoad1 x) (fun R tm => ptrNd 1 (evA x R tm)) j un S lg R tm w k
  | loadn n x => exact d1_eq (xLoadn n x) (fun R tm => ptrNd n (evA x R tm)) j un S lg R tm w k
  | store n x v => exact d1_eq (fStore n x v) (fun R tm => ptrNd n (evA x R tm)) j un S lg R tm w k
  | mkmap => exact d1e_eq xMkmap j un S lg R tm w k
  | mksl a b z l c => exact d1e_eq (xMksl a b z l c) j un S lg R tm w k
  | lookup st kk z ok m x => exact d1_eq (xLookup st kk z ok m x) (fun R tm => mapNd (evA m R tm)) j un S lg R tm w k
  | mupd st kk m x y => exact d1_eq (xMupd st kk m x y) (fun R tm => mapNd (evA m R tm)) j un S lg R tm w k
  | app es bytes s x => exact d1_eq (xApp es bytes s x) (fun R tm => objNd (evA s R tm) ++ slNd es (evA x R tm)) j un S lg R tm w k
  | appz es bytes z s x => exact d1_eq (xAppz es bytes z s x) (fun R tm => objNd (evA s R tm)) j un S lg R tm w k
  | copy es d s => exact d1_eq (xCopy es d s) (fun R tm => slNd es (evA d R tm) ++ slNd es (evA s R tm)) j un S lg R tm w k
  | clear es z s => exact d1_eq (xClear es z s) (fun R tm => slNd es (evA s R tm)) j un S lg R tm w k
  | call f a => exact d2_eq (fCall f a) j un S lg R tm w k
  | _ => rfl

theorem opsG_eq (S : Lv) : ∀ (q : Q), opsG S q = opsD S q := by
  intro q
  induction q with
  | nil => rfl
  | mvk p x r ih =>
    funext lg R tm w
    show TR.force (fun tm' => opsG S r lg R tm' w) _ = TR.force (fun tm' => opsD S r lg R tm' w) _
    rw [ih]
  | bin op x y r ih =>
    funext lg R tm w
    show binK op _ _ (fun v => opsG S r lg (v :: R) tm w) = Option.rec (motive := fun _ => RC) .no (fun v => opsD S r lg (v :: R) tm w) (binF op (evA x R tm) (evA y R tm))
    rw [binK_eq, ih]
  | bink p op x y r ih =>
    funext lg R tm w
    show binK op _ _ (fun v => TR.force (fun tm' => opsG S r lg R tm' w) (TR.set .u v p tm)) = Option.rec (motive := fun _ => RC) .no (fun v => TR.force (fun tm' => opsD S r lg R tm' w) (TR.set .u v p tm)) (binF op (evA x R tm) (evA y R tm))
    rw [binK_eq, ih]
  | dfr f args r ih => rfl
  | gen i g d j un r ih =>
    funext lg R tm w
    show Option.rec (motive := fun _ => RC) (exG i j un S lg R tm w (fun lg' => dstF d (opsG S r lg') R tm)) (fun g => wantK (some g) R tm (dstF d (opsG S r lg) R tm (.tup []) w) (exG i j un S lg R tm w (fun lg' => dstF d (opsG S r lg') R tm))) g =
      wantK g R tm (dstK d (.tup []) R tm (fun R' tm' => opsD S r lg R' tm' w)) (exD i j un S lg R tm w (fun lg' v w' => dstK d v R tm (fun R' tm' => opsD S r lg' R' tm' w')))
    rw [ih, exG_eq]
    cases g <;> rfl

/-! ## Code -/

theorem denF_eq (S : Lv) : ∀ (c : C), denF S c = den S c := by
  intro c
  induction c with
  | skip => rfl
  | reg l => funext tm w; show opsF S l [] tm w = opsL S l [] tm w; rw [opsF_eq]
  | regd l => funext tm w; show opsG S l [] [] tm w = opsD S l [] [] tm w; rw [opsG_eq]
  | seq a b iha ihb =>
    funext tm w
    show RC.rec (motive := fun _ => RC) .no (fun x tm' w' => X.rec (motive := fun _ => RC) (denF S b tm' w') (fun id => .ok (.exit id) tm' w') (.ok .ret tm' w') x) (denF S a tm w) = seqK (den S a) (den S b) tm w
    rw [iha, ihb]; rfl
  | cond c a b iha ihb =>
    funext tm w
    show pB (fun t => Bool.rec (motive := fun _ => RC) (denF S b tm w) (denF S a tm w) t) (evA c [] tm) = condK c (den S a) (den S b) tm w
    rw [iha, ihb]
    unfold condK
    generalize evA c [] tm = v
    cases v <;> rfl
  | block id b ih => show blockK id (denF S b) = blockK id (den S b); rw [ih]
  | loop b ih => show loopK (denF S b) loopN = loopK (den S b) loopN; rw [ih]
  | exit id => rfl
  | ret => rfl
  | rf f ps as body _ _ => rfl

/-! ## Calls -/

theorem bodyF_eq (S : Lv) (f : CF) (args : List AV) (w : W) : bodyF S f args w = bodyK S f args w := by
  obtain ⟨c, rs⟩ := f
  show Bool.rec (motive := fun _ => RV) .no (RC.rec (motive := fun _ => RV) .no (fun x tm w1 => Bool.rec (motive := fun _ => RV) .no
    (List.rec (motive := fun _ => RV) (endE rs tm w1) (fun _ _ _ => endF S rs tm w1) (listT (TR.get .u dsP tm))) (isEnd x)) (denF S c (initT args 0 .e) w)) (Nat.ble (lenL args) dsI) =
    Bool.rec (motive := fun _ => RV) .no (RC.rec (motive := fun _ => RV) .no (fun x tm w1 => Bool.rec (motive := fun _ => RV) .no (endF S rs tm w1) (isEnd x)) (den S c (initT args 0 .e) w)) (Nat.ble (lenL args) dsI)
  rw [denF_eq]
  have : (fun x tm w1 => Bool.rec (motive := fun _ => RV) .no (List.rec (motive := fun _ => RV) (endE rs tm w1) (fun _ _ _ => endF S rs tm w1) (listT (TR.get .u dsP tm))) (isEnd x)) =
      (fun (x : X) tm w1 => Bool.rec (motive := fun _ => RV) .no (endF S rs tm w1) (isEnd x)) := by
    funext x tm w1
    have e : List.rec (motive := fun _ => RV) (endE rs tm w1) (fun _ _ _ => endF S rs tm w1) (listT (TR.get .u dsP tm)) = endF S rs tm w1 := by
      cases h : listT (TR.get .u dsP tm) with
      | nil => unfold endF; rw [h]; rfl
      | cons a l => rfl
    rw [e]
  rw [this]

theorem callF_eq (F : TR FE) (S : Lv) (fid : Nat) (args : List AV) (w : W) : callF F S fid args w = callD F S fid args w := by
  unfold callF callD
  rw [pathQ_eq]
  cases TR.get .no (pathOf fid) F with
  | code f => exact bodyF_eq _ _ _ _
  | _ => rfl
theorem semF_eq (F : TR FE) : ∀ n, semF F n = semN F n := by
  intro n
  induction n with
  | zero => rfl
  | succ n ih =>
    show Lv.mk (callF F (semF F n)) (callDD F (semF F n)) (denF (semF F n)) = Lv.mk (callD F (semN F n)) (callDD F (semN F n)) (den (semN F n))
    rw [ih]
    have h1 : callF F (semN F n) = callD F (semN F n) := by funext fid args w; exact callF_eq _ _ _ _ _
    have h2 : denF (semN F n) = den (semN F n) := by funext c; exact denF_eq _ _
    rw [h1, h2]

end
end Go.Ev

/-
  Computed calls that leave nothing new behind.
-/
namespace Go.Ev
noncomputable section

theorem noId_vr {ι ι' : Io} {n n' : Dom} (a : AV) : noId a = true → ∀ v, VR ι n a v → VR ι' n' a v := by
  refine AV.rec (motive_1 := fun a => noId a = true → ∀ v, VR ι n a v → VR ι' n' a v) (motive_2 := fun l => noId (.tup l) = true → ∀ vs, VRs ι n l vs → VRs ι' n' l vs) ?_ ?_ ?_ ?_ ?_ ?_ ?_ ?_ ?_ ?_ ?_ ?_ ?_ ?_ ?_ ?_ ?_ ?_ ?_ a
  · intro k m _ v h; cases h; exact .nn k m
  · intro k m _ v h; cases h; exact .z k m
  · intro x _ v h; cases h; exact .b x
  · intro _ v _; exact .u v
  · intro x _ v h; cases h; exact .s x
  · intro _ v h; cases h; exact .pn
  · intro i o h; cases h
  · intro _ v h; cases h; exact .sn
  · intro i o l c e h; cases h
  · intro h; cases h
  · intro _ v h; cases h; exact .mn
  · intro i h; cases h
  · intro f x y _ _ h; cases h
  · intro l h; cases h
  · intro _ v h; cases h; exact .nf
  · intro l h1 h v hv; cases hv with | agg _ cs' hvs => exact .agg _ _ (h1 h _ hvs)
  · intro l h1 h v hv; cases hv with | tup _ cs' hvs => exact .tup _ _ (h1 h _ hvs)
  · intro _ vs h; cases h; exact .nil
  · intro x l h1 h2 h vs hv
    have h : Bool.rec (motive := fun _ => Bool) false (noId (.tup l)) (noId x) = true := h
    obtain ⟨g1, g2⟩ := boolT h
    cases hv with
    | cons _ v _ vs a1 a2 => exact .cons _ _ _ _ (h1 g1 _ a1) (h2 g2 _ a2)

/-- what is there may be told of fewer objects, if it was there before -/
theorem VR.dom {ι ι' : Io} {n n' : Dom} (a : AV) : ∀ v v', VR ι n a v → VR ι' n' a v' → VR ι' n a v' := by
  refine AV.rec (motive_1 := fun a => ∀ v v', VR ι n a v → VR ι' n' a v' → VR ι' n a v') (motive_2 := fun l => ∀ vs vs', VRs ι n l vs → VRs ι' n' l vs' → VRs ι' n l vs') ?_ ?_ ?_ ?_ ?_ ?_ ?_ ?_ ?_ ?_ ?_ ?_ ?_ ?_ ?_ ?_ ?_ ?_ ?_ a
  · intro k m v v' _ h; cases h; exact .nn k m
  · intro k m v v' _ h; cases h; exact .z k m
  · intro x v v' _ h; cases h; exact .b x
  · intro v v' _ _; exact .u v'
  · intro x v v' _ h; cases h; exact .s x
  · intro v v' _ h; cases h; exact .pn
  · intro i o v v' h0 h; cases h0 with | p _ _ g => cases h; exact .p i o g
  · intro v v' _ h; cases h; exact .sn
  · intro i o l c e v v' h0 h
    have hn : n i := by cases h0 <;> assumption
    cases h with
    | slx => exact .slx i o l c hn
    | sli _ _ _ _ _ c' _ g1 g2 g3 => exact .sli i o l c e c' hn g1 g2 g3
  · intro v v' _ h; cases h with | se a c => exact .se a c
  · intro v v' _ h; cases h; exact .mn
  · intro i v v' h0 h; cases h0 with | m _ g => cases h; exact .m i g
  · intro f x y h1 h2 v v' h0 h
    cases h0 with
    | f _ _ _ a' b' p1 p2 => cases h with | f _ _ _ a2 b2 q1 q2 => exact .f f x y a2 b2 (h1 _ _ p1 q1) (h2 _ _ p2 q2)
  · intro l v v' h0 h; cases h0 with | y _ g => cases h; exact .y l g
  · intro v v' _ h; cases h; exact .nf
  · intro l h1 v v' h0 h; cases h0 with | agg _ c p => cases h with | agg _ c' q => exact .agg _ _ (h1 _ _ p q)
  · intro l h1 v v' h0 h; cases h0 with | tup _ c p => cases h with | tup _ c' q => exact .tup _ _ (h1 _ _ p q)
  · intro vs vs' _ h; cases h; exact .nil
  · intro x l h1 h2 vs vs' h0 h
    cases h0 with
    | cons _ v _ vs a1 a2 => cases h with | cons _ v' _ vs' b1 b2 => exact .cons _ _ _ _ (h1 _ _ a1 b1) (h2 _ _ a2 b2)

theorem leU_vr {ι : Io} {n : Dom} {a b : AV} {v : Value} (h : leU a b = true) (hv : VR ι n a v) : VR ι n b v := by
  unfold leU at h
  cases hu : isU b with
  | true => cases b <;> simp [isU] at hu; exact .u v
  | false => rw [hu] at h; have := eqV_ok _ _ h; exact this ▸ hv
theorem leUs_vr {ι : Io} {n : Dom} : ∀ {l m : List AV} {vs : List Value}, leUs l m = true → VRs ι n l vs → VRs ι n m vs := by
  intro l
  induction l with
  | nil => intro m vs h hv; cases m with
    | nil => exact hv
    | cons b r => cases h
  | cons a l ih => intro m vs h hv; cases m with
    | nil => cases h
    | cons b r =>
      obtain ⟨h1, h2⟩ := boolT (x := leUs l r) (b := leU a b) h
      cases hv with | cons _ v _ vs a1 a2 => exact .cons _ _ _ _ (leU_vr h1 a1) (ih h2 a2)
theorem leV_vr {ι : Io} {n : Dom} {a b : AV} {v : Value} (h : leV a b = true) (hv : VR ι n a v) : VR ι n b v := by
  unfold leV at h
  split at h
  · cases hv with | tup _ c p => exact .tup _ _ (leUs_vr h p)
  · exact leU_vr h hv

def below (n : Dom) (k : Nat) : Dom := fun id => n id ∧ id < k

theorem idsLt_vr {ι : Io} {n : Dom} {k : Nat} (a : AV) : idsLt k a = true → ∀ v, VR ι n a v → VR ι (below n k) a v := by
  refine AV.rec (motive_1 := fun a => idsLt k a = true → ∀ v, VR ι n a v → VR ι (below n k) a v) (motive_2 := fun l => idsLt k (.tup l) = true → ∀ vs, VRs ι n l vs → VRs ι (below n k) l vs) ?_ ?_ ?_ ?_ ?_ ?_ ?_ ?_ ?_ ?_ ?_ ?_ ?_ ?_ ?_ ?_ ?_ ?_ ?_ a
  · intro k m _ v h; cases h; exact .nn k m
  · intro k m _ v h; cases h; exact .z k m
  · intro x _ v h; cases h; exact .b x
  · intro _ v _; exact .u v
  · intro x _ v h; cases h; exact .s x
  · intro _ v h; cases h; exact .pn
  · intro i o hi v h; cases h with | p _ _ g => exact .p i o ⟨g, Nat.le_of_ble_eq_true hi⟩
  · intro _ v h; cases h; exact .sn
  · intro i o l c e hi v h
    cases h with
    | slx _ _ _ _ g => exact .slx i o l c ⟨g, Nat.le_of_ble_eq_true hi⟩
    | sli _ _ _ _ _ c' g g1 g2 g3 => exact .sli i o l c e c' ⟨g, Nat.le_of_ble_eq_true hi⟩ g1 g2 g3
  · intro _ v h; cases h with | se a c => exact .se a c
  · intro _ v h; cases h; exact .mn
  · intro i hi v h; cases h with | m _ g => exact .m i ⟨g, Nat.le_of_ble_eq_true hi⟩
  · intro f x y h1 h2 hi v h
    have hi : (idsLt k (.tup x) && idsLt k (.tup y)) = true := hi
    simp only [Bool.and_eq_true] at hi
    cases h with | f _ _ _ a' b' p1 p2 => exact .f f x y a' b' (h1 hi.1 _ p1) (h2 hi.2 _ p2)
  · intro l hi v h; cases h with | y _ g => exact .y l ⟨g, Nat.le_of_ble_eq_true hi⟩
  · intro _ v h; cases h; exact .nf
  · intro l h1 hi v h; cases h with | agg _ c p => exact .agg _ _ (h1 hi _ p)
  · intro l h1 hi v h; cases h with | tup _ c p => exact .tup _ _ (h1 hi _ p)
  · intro _ vs h; cases h; exact .nil
  · intro x l h1 h2 hi vs h
    have hi : Bool.rec (motive := fun _ => Bool) false (idsLt k (.tup l)) (idsLt k x) = true := hi
    obtain ⟨g1, g2⟩ := boolT hi
    cases h with | cons _ v _ vs a1 a2 => exact .cons _ _ _ _ (h1 g1 _ a1) (h2 g2 _ a2)

theorem idsLtL_ok {k : Nat} : ∀ (L : List Ob), idsLtL k L = true → ∀ id cs, obL L id = some cs → idsLt k (.tup cs) = true := by
  intro L
  induction L with
  | nil => intro _ id cs h; cases h
  | cons o L ih =>
    obtain ⟨i, c⟩ := o
    intro h id cs hc
    obtain ⟨h1, h2⟩ := boolT (x := idsLtL k L) (b := idsLt k (.tup c)) h
    simp only [obL] at hc
    cases e : obL L id with
    | some c' => rw [e] at hc; cases hc; exact ih h2 id _ e
    | none =>
      rw [e] at hc
      by_cases g : i = id
      · subst g; simp at hc; subst hc; exact h1
      · simp [g] at hc

theorem idsLt_cell {k : Nat} : ∀ (cs : List AV) (off : Nat), idsLt k (.tup cs) = true → idsLt k (cs.getD off .u) = true := by
  intro cs
  induction cs with
  | nil => intro off _; simp; rfl
  | cons a l ih =>
    intro off h
    have h : Bool.rec (motive := fun _ => Bool) false (idsLt k (.tup l)) (idsLt k a) = true := h
    obtain ⟨g1, g2⟩ := boolT h
    cases off with
    | zero => simpa using g1
    | succ off => simpa using ih off g2

def MemoZ.Ok (s : List AV → W → RV) (m : MemoZ) : Prop := match m with
  | .mk A L nx v => chkZ v L nx (s A (mkW L nx [])) = true ∧ idsLt nx (.tup A) = true ∧ idsLtL nx L = true ∧ Nat.ble 4 nx = true

theorem chkH_sub {L : List Ob} {w : W} {nx : Nat} (h : chkH L w nx = true) : Sub (mkW L nx []).mem w.mem := by
  have key := chkH_ok L h
  refine ⟨fun id hid => ?_, fun id off hid ho => ?_⟩
  · simp only [W.mem, mkW_ob] at hid ⊢
    cases e : obL L id with
    | none => simp [e, shOf] at hid
    | some cs => simp only [mkCs_sh]; exact (chkO_ok (key id cs e).2).1
  · simp only [W.mem, mkW_ob] at hid ho ⊢
    cases e : obL L id with
    | none => simp [e, shOf] at hid
    | some cs =>
      simp only [e, mkCs_cel] at ho ⊢
      split at ho
      · rename_i hlt
        rw [if_pos hlt]
        exact (chkO_ok (key id cs e).2).2 off hlt
      · exact absurd rfl ho

theorem Rel.below {P : Program} {N0 : Nat} {ι : Io} {L : List Ob} {nx : Nat} {n : Dom} {ω : World} (hG : P.globals.size ≤ roN) (h4 : roN ≤ nx) (h : Rel P N0 ι (mkW L nx []).mem n ω) (hl : ∀ id cs, obL L id = some cs → id < nx) (hi : idsLtL nx L = true) :
    Rel P N0 ι (mkW L nx []).mem (below n nx) ω where
  ro := fun id hid => ⟨h.ro id hid, Nat.lt_of_lt_of_le hid h4⟩
  lt := fun id hid => ⟨h.lt id hid, by
    simp only [W.mem, mkW_ob] at hid
    cases e : obL L id with
    | none => simp [e, shOf] at hid
    | some cs => exact hl id cs e⟩
  inj := h.inj
  own := h.own
  size := h.size
  ob := fun id hid => by
    have ho := h.ob id hid
    simp only [W.mem, mkW_ob] at hid ho ⊢
    cases e : obL L id with
    | none => simp [e, shOf] at hid
    | some cs =>
      simp only [e, mkCs_sh] at ho ⊢
      obtain ⟨c, elem, e1, e2, e3⟩ := ho
      refine ⟨c, elem, e1, fun off hoff => ?_, e3⟩
      obtain ⟨g1, v, g2, g3⟩ := e2 off hoff
      refine ⟨g1, v, g2, idsLt_vr _ ?_ v g3⟩
      show idsLt nx (celOf (mkCs cs) off) = true
      rw [mkCs_cel, if_pos g1]
      exact idsLt_cell cs off (idsLtL_ok L hi id cs e)
  glob := fun g hg => let ⟨a, b, c⟩ := h.glob g hg; ⟨a, b, c, Nat.lt_of_lt_of_le (Nat.lt_of_lt_of_le hg hG) h4⟩
  base := h.base

theorem memoZ1_ok {P : Program} (hG : P.globals.size ≤ roN) {fid : Nat} {s : List AV → W → RV} (hs : SumOk P fid s) {m : MemoZ} (hm : m.Ok s) {args : List AV} {w w' : W} {v : AV} {z : RV} (h : memoZ1 m args w z = .ok v w') :
    z = .ok v w' ∨ (WfW P w → Chg P w w' ∧ Enters P fid ∧ ∀ (N0 : Nat) (ι : Io) (n : Dom) (ω : World) (vs : Array Value), Rel P N0 ι w.mem n ω → n.free w.nx w'.nx → VRs ι n args vs.toList →
      CallsIn Fence.wide 0 P fid vs ω (CallPost P N0 ι n w ω v w')) := by
  obtain ⟨A, L, nx, v0⟩ := m
  change (Bool.rec (motive := fun _ => RV) z (Bool.rec (motive := fun _ => RV) z (.ok v0 w) (chkU L nx w)) (eqVs args A)) = .ok v w' at h
  cases h1 : eqVs args A with
  | false => simp only [h1] at h; exact .inl h
  | true =>
    cases h2 : chkU L nx w with
    | false => simp only [h1, h2] at h; exact .inl h
    | true =>
      simp only [h1, h2] at h
      cases h
      have hA := eqVs_ok _ _ h1
      subst hA
      obtain ⟨hm, hiA, hiL, h4⟩ := hm
      have h4 : roN ≤ nx := Nat.le_of_ble_eq_true h4
      obtain ⟨a1, a2⟩ := boolT h2
      obtain ⟨a3, a4⟩ := boolT a2
      have key := chkH_ok L a4
      have hlt : ∀ id cs, obL L id = some cs → id < nx := fun id cs hc => (key id cs hc).1
      have hsub := chkH_sub a4
      cases hr : s args (mkW L nx []) with
      | no => rw [hr] at hm; cases hm
      | ok v1 w1 =>
        rw [hr] at hm
        obtain ⟨hv, hm⟩ := boolT (b := leV v1 v) hm
        obtain ⟨hno, hm⟩ := boolT hm
        obtain ⟨_, hw1⟩ := boolT hm
        have hsub1 : Sub (mkW L nx []).mem w1.mem := chkH_sub hw1
        obtain ⟨c1, ent, p1⟩ := hs _ _ _ _ hr (mkW_wf P hlt [])
        refine .inr fun hwf => ⟨.refl _, ent, fun N0 ι n ω vs hR hf hvs => ?_⟩
        have hvs0 : VRs ι (below n nx) args vs.toList := by
          have := idsLt_vr (ι := ι) (n := n) (.tup args) hiA (.tuple vs) (.tup _ _ hvs)
          cases this; assumption
        refine (p1 N0 ι (below n nx) ω vs (Rel.below hG h4 (hR.sub hsub) hlt hiL) (fun id g1 _ g3 => ?_) hvs0).mono ?_
        · have g1 : nx ≤ id := g1
          have := g3.2; omega
        rintro e ω' ⟨v', ι', rfl, q1, q2, q3⟩
        have hext : ∀ id, (below n nx) id → ι' id = ι id := q3.ext
        have q2' := q2.sub hsub1
        refine ⟨v', ι, rfl, ?_, ?_, ?_⟩
        · rw [Dom.upto_self]
          exact noId_vr v hno v' (leV_vr hv q1)
        · rw [Dom.upto_self]
          exact
          { ro := hR.ro
            lt := hR.lt
            inj := hR.inj
            own := hR.own
            size := fun id hid => Nat.lt_of_lt_of_le (hR.size id hid) q3.size
            ob := fun id hid => by
              have ho := hR.ob id hid
              cases e : obL L id with
              | none =>
                have : ω'.heap[(ι id).blk]? = ω.heap[(ι id).blk]? := q3.frame _ (hR.size id hid) fun j hj hr he => by
                  have hj' : w.mem.sh j ≠ .no := by rw [hsub.sh j hj]; exact hj
                  have := hR.inj j id hr hj' hid he
                  subst this
                  simp only [W.mem, mkW_ob, e] at hj
                  exact hj rfl
                rw [this]; exact ho
              | some cs =>
                have hmk : (mkW L nx []).mem.sh id = .cs cs.length := by simp only [W.mem, mkW_ob, e, mkCs_sh]
                have hne : (mkW L nx []).mem.sh id ≠ .no := by rw [hmk]; simp
                have hw : w.mem.sh id = .cs cs.length := by rw [hsub.sh id hne]; exact hmk
                have hn0 : (below n nx) id := ⟨hR.lt id hid, hlt id cs e⟩
                have ho1 := q2'.ob id hne
                rw [hext id hn0, hmk] at ho1
                rw [hw] at ho ⊢
                obtain ⟨c, elem, e1, e2, e3⟩ := ho
                obtain ⟨c', elem', f1, f2, f3⟩ := ho1
                refine ⟨c', elem', f1, fun off hoff => ?_, f3⟩
                obtain ⟨g1, u0, g2, g3⟩ := e2 off hoff
                have hcel : w.mem.cel id off = cs.getD off .u := (chkO_ok (key id cs e).2).2 off g1
                have hmc : (mkW L nx []).mem.cel id off = cs.getD off .u := by simp only [W.mem, mkW_ob, e, mkCs_cel, g1, if_true]
                obtain ⟨_, u1, f4, f5⟩ := f2 off (by rw [hmc, ← hcel]; exact hoff)
                refine ⟨g1, u1, f4, ?_⟩
                rw [hmc] at f5
                rw [hcel] at g3 ⊢
                have g4 := idsLt_vr _ (idsLt_cell cs off (idsLtL_ok L hiL id cs e)) u0 g3
                have g5 : VR ι' (below n nx) (cs.getD off .u) u1 := VR.dom _ _ _ g4 f5
                exact VR.ext (fun j hj => (hext j hj).symm) (fun j hj => hj.1) g5
            glob := hR.glob
            base := Nat.le_trans hR.base q3.size }
        · rw [Dom.upto_self]
          exact
          { ext := .refl _ _
            le := .refl _
            size := q3.size
            frame := fun b hb hn => q3.frame b hb fun id hid hr => hn id (by rw [hsub.sh id hid]; exact hid) hr
            own := fun id hid hr _ => ⟨id, hid, hr, rfl⟩
            os := q3.os
            tape := q3.tape
            output := q3.output }

theorem memoZ_ok {P : Program} (hG : P.globals.size ≤ roN) {fid : Nat} {s : List AV → W → RV} (hs : SumOk P fid s) : ∀ {ms : List MemoZ}, (∀ m ∈ ms, m.Ok s) → SumOk P fid (memoZ ms) := by
  intro ms
  induction ms with
  | nil => intro _ args w v w' h; cases h
  | cons m ms ih =>
    intro hm args w v w' h hwf
    rcases memoZ1_ok hG hs (hm m List.mem_cons_self) (z := memoZ ms args w) h with h1 | h1
    · exact ih (fun x hx => hm x (List.mem_cons_of_mem _ hx)) _ _ _ _ h1 hwf
    · exact h1 hwf

end
end Go.Ev
