/-
  Trees, values and memory: the relation to the model's.
-/
import Derived.Test.YtcmlfnkmpgdacabGreatDoorEvDefs
import Derived.Laws.Cells
import Derived.Laws.World
import Derived.Laws.Tables
import Derived.Laws.Sem
import Derived.Laws.Panics
import Derived.Laws.CopyRow
import Derived.Laws.MakeOwn
namespace Go.Ev

/-! ## Paths and trees -/


theorem pathF_succ (f k : Nat) : pathF (f + 1) k = if k = 0 then .h else if k % 2 = 1 then .l (pathF f (k / 2)) else .r (pathF f (k / 2 - 1)) := by
  show Bool.rec (motive := fun _ => Pa) (Bool.rec (motive := fun _ => Pa) (.r (pathF f (Nat.sub (Nat.div k 2) 1))) (.l (pathF f (Nat.div k 2))) (Nat.beq (Nat.mod k 2) 1)) .h (Nat.beq k 0) = _
  have e1 : Nat.beq k 0 = decide (k = 0) := by cases k <;> rfl
  have e2 : Nat.beq (Nat.mod k 2) 1 = decide (k % 2 = 1) := by
    show Nat.beq (k % 2) 1 = _
    rw [Bool.eq_iff_iff]; simp
  rw [e1, e2]
  by_cases h : k = 0
  · simp [h]
  · by_cases h2 : k % 2 = 1
    · simp [h, h2]; rfl
    · simp [h, h2]; rfl

def Pa.num : Pa → Nat
  | .h => 0
  | .l p => 2 * p.num + 1
  | .r p => 2 * p.num + 2

theorem num_pathF (f : Nat) : ∀ k, k ≤ f → (pathF f k).num = k := by
  induction f with
  | zero => intro k h; obtain rfl : k = 0 := by omega
            rfl
  | succ f ih =>
    intro k h
    rw [pathF_succ]
    by_cases h0 : k = 0
    · simp [h0, Pa.num]
    · by_cases h1 : k % 2 = 1
      · simp only [h0, h1, if_true, if_false, Pa.num]; rw [ih _ (by omega)]; omega
      · simp only [h0, h1, if_false, Pa.num]; rw [ih _ (by omega)]; omega

theorem num_pathOf (k : Nat) : (pathOf k).num = k := num_pathF k k (Nat.le_refl _)
theorem pathOf_inj {a b : Nat} (h : pathOf a = pathOf b) : a = b := by rw [← num_pathOf a, h, num_pathOf]

theorem pathE_eq (f : Nat) : ∀ k, pathE f k = pathF f k := by
  induction f with
  | zero => intro k; rfl
  | succ f ih => intro k; rw [pathF_succ]; simp only [pathE, ih]
theorem pathE_pathOf (k : Nat) : pathE k k = pathOf k := pathE_eq k k

theorem TR.get_e {α : Type} (d : α) (p : Pa) : TR.get d p .e = d := by cases p <;> rfl

theorem TR.get_set {α : Type} (d x : α) (p : Pa) : ∀ (q : Pa) (t : TR α), TR.get d q (TR.set d x p t) = if q = p then x else TR.get d q t := by
  induction p with
  | h => intro q t; cases q <;> cases t <;> first | rfl | (simp; show TR.get d _ TR.e = _; rw [TR.get_e]; rfl)
  | l p ih =>
    intro q t
    cases q with
    | h => cases t <;> rfl
    | l q => cases t with
      | e => show TR.get d q (TR.set d x p .e) = _; rw [ih]; simp [TR.get_e]
      | n l v r => show TR.get d q (TR.set d x p l) = _; rw [ih]; simp; rfl
    | r q => cases t with
      | e => show TR.get d q .e = _; simp [TR.get_e]
      | n l v r => simp; rfl
  | r p ih =>
    intro q t
    cases q with
    | h => cases t <;> rfl
    | r q => cases t with
      | e => show TR.get d q (TR.set d x p .e) = _; rw [ih]; simp [TR.get_e]
      | n l v r => show TR.get d q (TR.set d x p r) = _; rw [ih]; simp; rfl
    | l q => cases t with
      | e => show TR.get d q .e = _; simp [TR.get_e]
      | n l v r => simp; rfl

theorem TR.get_setN {α : Type} (d x : α) (a b : Nat) (t : TR α) : TR.get d (pathOf b) (TR.set d x (pathOf a) t) = if b = a then x else TR.get d (pathOf b) t := by
  rw [TR.get_set]
  by_cases h : b = a
  · simp [h]
  · simp [h]; intro e; exact absurd (pathOf_inj e) h

theorem TR.force_eq {α β : Type} (k : TR α → β) (t : TR α) : TR.force k t = k t := by cases t <;> rfl

/-! ## Values -/

structure Loc where
  blk : Nat
  sh : Nat
  tot : Nat

abbrev Io := Nat → Loc

def Io.at (ι : Io) (id off : Nat) : Addr := ⟨(ι id).blk, (ι id).sh + off, none⟩

/-- the objects that there are -/
abbrev Dom := Nat → Prop
def Dom.le (n n' : Dom) : Prop := ∀ id, n id → n' id
theorem Dom.le.refl (n : Dom) : n.le n := fun _ h => h
theorem Dom.le.trans {a b c : Dom} (h : a.le b) (h' : b.le c) : a.le c := fun id hi => h' id (h id hi)

mutual
inductive VR (ι : Io) (n : Dom) : AV → Value → Prop
  | u (v : Value) : VR ι n .u v
  | nn (k m : Nat) : VR ι n (.n k m) (.int (kd k) (.ofNat m))
  | z (k m : Nat) : VR ι n (.z k m) (.int (kd k) (.negSucc m))
  | b (x : Bool) : VR ι n (.b x) (.bool x)
  | s (x : ByteArray) : VR ι n (.s x) (.string x)
  | pn : VR ι n .pn (.pointer none)
  | p (id off : Nat) : n id → VR ι n (.p id off) (.pointer (some (ι.at id off)))
  | sn : VR ι n .sn (.slice none 0 0)
  | slx (id off len cap : Nat) : n id → VR ι n (.sl id off len cap 0) (.slice (some (ι.at id off)) len cap)
  | sli (id off len cap es c : Nat) : n id → 0 < es → cap ≤ c → (ι id).sh + off + c * es = (ι id).tot → VR ι n (.sl id off len cap es) (.slice (some (ι.at id off)) len c)
  | se (a : Addr) (c : Nat) : VR ι n .se (.slice (some a) 0 c)
  | mn : VR ι n .mn (.map none)
  | m (id : Nat) : n id → VR ι n (.m id) (.map (some (ι id).blk))
  | f (fn : Nat) (a b : List AV) (a' b' : Array Value) : VRs ι n a a'.toList → VRs ι n b b'.toList → VR ι n (.f fn a b) (.func (.func fn) a' b')
  | y (l : Nat) : n l → VR ι n (.y l) (.func (.yield (ι l).blk) #[] #[])
  | nf : VR ι n .nf .nilFunc
  | agg (cs : List AV) (cs' : Array Value) : VRs ι n cs cs'.toList → VR ι n (.agg cs) (.agg cs')
  | tup (cs : List AV) (cs' : Array Value) : VRs ι n cs cs'.toList → VR ι n (.tup cs) (.tuple cs')
inductive VRs (ι : Io) (n : Dom) : List AV → List Value → Prop
  | nil : VRs ι n [] []
  | cons (a : AV) (v : Value) (l : List AV) (vs : List Value) : VR ι n a v → VRs ι n l vs → VRs ι n (a :: l) (v :: vs)
end

theorem VRs.length {ι : Io} {n : Dom} {l : List AV} {vs : List Value} (h : VRs ι n l vs) : l.length = vs.length := by
  induction l generalizing vs with
  | nil => cases h; rfl
  | cons a l ih => cases h with | cons _ v _ vs h1 h2 => simp [ih h2]

theorem VRs.get {ι : Io} {n : Dom} {l : List AV} {vs : List Value} (h : VRs ι n l vs) : ∀ i (hi : i < l.length), ∃ v, vs[i]? = some v ∧ VR ι n l[i] v := by
  induction l generalizing vs with
  | nil => intro i hi; simp at hi
  | cons a l ih =>
    cases h with
    | cons _ v _ vs h1 h2 =>
      intro i hi
      cases i with
      | zero => exact ⟨v, rfl, h1⟩
      | succ i => obtain ⟨x, hx, hv⟩ := ih h2 i (by simpa using hi); exact ⟨x, by simpa using hx, by simpa using hv⟩

theorem VRs.append {ι : Io} {n : Dom} {l m : List AV} {vs ws : List Value} (h : VRs ι n l vs) (h' : VRs ι n m ws) : VRs ι n (l ++ m) (vs ++ ws) := by
  induction l generalizing vs with
  | nil => cases h; exact h'
  | cons a l ih => cases h with | cons _ v _ vs h1 h2 => exact .cons _ _ _ _ h1 (ih h2)

theorem VRs.take {ι : Io} {n : Dom} {l : List AV} {vs : List Value} (h : VRs ι n l vs) : ∀ j, VRs ι n (l.take j) (vs.take j) := by
  induction l generalizing vs with
  | nil => cases h; intro j; simp; exact .nil
  | cons a l ih =>
    cases h with
    | cons _ v _ vs h1 h2 =>
      intro j
      cases j with
      | zero => exact .nil
      | succ j => exact .cons _ _ _ _ h1 (ih h2 j)

theorem VRs.drop {ι : Io} {n : Dom} {l : List AV} {vs : List Value} (h : VRs ι n l vs) : ∀ j, VRs ι n (l.drop j) (vs.drop j) := by
  induction l generalizing vs with
  | nil => cases h; intro j; simp; exact .nil
  | cons a l ih =>
    cases h with
    | cons _ v _ vs h1 h2 =>
      intro j
      cases j with
      | zero => exact .cons _ _ _ _ h1 h2
      | succ j => exact ih h2 j

def Io.ext (ι ι' : Io) (n : Dom) : Prop := ∀ id, n id → ι' id = ι id
theorem Io.ext.refl (ι : Io) (n : Dom) : ι.ext ι n := fun _ _ => rfl
theorem Io.ext.trans {ι ι' ι'' : Io} {n m : Dom} (h : ι.ext ι' n) (h' : ι'.ext ι'' m) (hm : n.le m) : ι.ext ι'' n := fun id hi => (h' id (hm id hi)).trans (h id hi)

mutual
theorem VR.ext {ι ι' : Io} {n n' : Dom} (h : ι.ext ι' n) (hn : n.le n') {a : AV} {v : Value} (hv : VR ι n a v) : VR ι' n' a v := by
  cases hv with
  | u v => exact .u v
  | nn k m => exact .nn k m
  | z k m => exact .z k m
  | b x => exact .b x
  | s x => exact .s x
  | pn => exact .pn
  | p id off hl => rw [Io.at, ← h id hl]; exact .p id off (hn _ hl)
  | sn => exact .sn
  | slx id off len cap hl => rw [Io.at, ← h id hl]; exact .slx id off len cap (hn _ hl)
  | sli id off len cap es c hl h0 h1 h2 => rw [Io.at]; rw [← h id hl] at h2 ⊢; exact .sli id off len cap es c (hn _ hl) h0 h1 h2
  | se a c => exact .se a c
  | mn => exact .mn
  | m id hl => rw [← h id hl]; exact .m id (hn _ hl)
  | f fn a b a' b' h1 h2 => exact .f fn a b a' b' (VRs.ext h hn h1) (VRs.ext h hn h2)
  | y l hl => rw [← h l hl]; exact .y l (hn _ hl)
  | nf => exact .nf
  | agg cs cs' h1 => exact .agg cs cs' (VRs.ext h hn h1)
  | tup cs cs' h1 => exact .tup cs cs' (VRs.ext h hn h1)
theorem VRs.ext {ι ι' : Io} {n n' : Dom} (h : ι.ext ι' n) (hn : n.le n') {l : List AV} {vs : List Value} (hv : VRs ι n l vs) : VRs ι' n' l vs := by
  cases hv with
  | nil => exact .nil
  | cons a v l vs h1 h2 => exact .cons a v l vs (VR.ext h hn h1) (VRs.ext h hn h2)
end

end Go.Ev

/-
  Memory: the evaluator's objects against the model's blocks.
-/
namespace Go.Ev

/-! ## Memory as functions -/

inductive Sh where
  | no
  | cs (n : Nat)
  | mp (es : List (AV × AV))
  | df
  | lp (st : Nat) (pend : X) (tm : Tm) (ps : List Pa) (as body : C)

def shOf : AO → Sh
  | .no => .no
  | .cs n _ => .cs n
  | .mp es => .mp es
  | .df => .df
  | .lp a b c d e f => .lp a b c d e f
noncomputable def celOf (o : AO) (off : Nat) : AV := match o with
  | .cs _ t => TR.get .u (pathOf off) t
  | _ => .u

structure Mem where
  sh : Nat → Sh
  cel : Nat → Nat → AV

noncomputable def W.mem (w : W) : Mem := { sh := fun id => shOf (w.ob id), cel := fun id off => celOf (w.ob id) off }

/-- an object in a place -/
def Mem.put (M : Mem) (id : Nat) (s : Sh) (f : Nat → AV) : Mem :=
  { sh := fun j => if j = id then s else M.sh j, cel := fun j => if j = id then f else M.cel j }

theorem Mem.ext {A B : Mem} (h : ∀ id, A.sh id = B.sh id) (h' : ∀ id off, A.cel id off = B.cel id off) : A = B := by
  cases A; cases B
  simp only [Mem.mk.injEq]
  exact ⟨funext h, funext fun id => funext (h' id)⟩

/-! ## Temporaries -/

def TmR (ι : Io) (n : Dom) (K : Nat) (tm : Tm) (tmps : Array Value) : Prop := ∀ t, Nat.testBit K t = true → VR ι n (TR.get .u (pathOf t) tm) (tmps.getD t undef)

theorem TmR.ext {ι ι' : Io} {n n' : Dom} {K : Nat} {tm : Tm} {tmps : Array Value} (h : TmR ι n K tm tmps) (he : ι.ext ι' n) (hn : n.le n') : TmR ι' n' K tm tmps :=
  fun t ht => VR.ext he hn (h t ht)

/-! ## One object -/

inductive MapR (ι : Io) (n : Dom) : List (AV × AV) → List MapEntry → Prop
  | nil : MapR ι n [] []
  | cons (k v : AV) (e : MapEntry) (l : List (AV × AV)) (es : List MapEntry) : VR ι n k e.key → VR ι n v e.val → MapR ι n l es → MapR ι n ((k, v) :: l) (e :: es)

theorem MapR.ext {ι ι' : Io} {n n' : Dom} (he : ι.ext ι' n) (hn : n.le n') {l : List (AV × AV)} {es : List MapEntry} (h : MapR ι n l es) : MapR ι' n' l es := by
  induction h with
  | nil => exact .nil
  | cons k v e l es h1 h2 _ ih => exact .cons k v e l es (VR.ext he hn h1) (VR.ext he hn h2) ih

def stR : Nat → LoopState → Prop
  | 0, s => s = .ready
  | 1, s => s = .busy
  | 2, s => s = .done
  | _, s => s = .exhausted
def pendR : X → Option Code → Prop
  | .nrm, c => c = none
  | .exit id, c => c = some (.exit id)
  | .ret, c => c = some .ret

/-- a range over a function that is under way -/
structure LpR (P : Program) (ι : Io) (n : Dom) (st : Nat) (pend : X) (tm : Tm) (ps : List Pa) (as body : C) (l : Loop) : Prop where
  st : stR st l.state
  pend : pendR pend l.pending
  code : ∃ E : Env, E.P = P ∧ E.rd = true ∧ Nat.testBit E.K dsI = false ∧ cC E l.assign = some as ∧ cC E l.body = some body ∧ E.T ≤ l.tmps.size ∧ TmR ι n E.K tm l.tmps ∧ (∀ t ∈ l.params.toList, t < E.T)
  ps : l.params.toList.map (fun t => pathE t t) = ps

def ObR (P : Program) (ι : Io) (n : Dom) (L : Loc) (f : Nat → AV) : Sh → Option Obj → Prop
  | .no, _ => True
  | .cs m, o => ∃ c elem, o = some (.cells c elem (0, 0)) ∧ (∀ off, f off ≠ .u → off < m ∧ ∃ v, c[L.sh + off]? = some v ∧ VR ι n (f off) v) ∧ L.tot ≤ c.size
  | .mp es, o => ∃ es' ck, o = some (.map es' ck) ∧ MapR ι n es es'.toList
  | .df, o => o = some (.deferred (some []))
  | .lp st pend tm ps as body, o => ∃ l, o = some (.loop l) ∧ LpR P ι n st pend tm ps as body l

theorem ObR.ext {P : Program} {ι ι' : Io} {n n' : Dom} {L : Loc} {f : Nat → AV} {s : Sh} {o : Option Obj} (he : ι.ext ι' n) (hn : n.le n') (h : ObR P ι n L f s o) : ObR P ι' n' L f s o := by
  cases s with
  | no => trivial
  | cs m =>
    obtain ⟨c, elem, rfl, h1, h2⟩ := h
    exact ⟨c, elem, rfl, fun off ho => let ⟨a, v, hv, hr⟩ := h1 off ho; ⟨a, v, hv, VR.ext he hn hr⟩, h2⟩
  | mp es =>
    obtain ⟨es', ck, rfl, h1⟩ := h
    exact ⟨es', ck, rfl, h1.ext he hn⟩
  | df => exact h
  | lp st pend tm ps as body =>
    obtain ⟨l, rfl, h1⟩ := h
    obtain ⟨E, e1, e2, eK, e3, e4, e5, e6, e7⟩ := h1.code
    exact ⟨l, rfl, ⟨h1.st, h1.pend, ⟨E, e1, e2, eK, e3, e4, e5, e6.ext he hn, e7⟩, h1.ps⟩⟩

/-! ## The whole memory -/

structure Rel (P : Program) (N0 : Nat) (ι : Io) (M : Mem) (n : Dom) (w : World) : Prop where
  ro : ∀ id, id < roN → n id
  lt : ∀ id, M.sh id ≠ .no → n id
  inj : ∀ i j, roN ≤ i → M.sh i ≠ .no → M.sh j ≠ .no → (ι i).blk = (ι j).blk → i = j
  own : ∀ id, M.sh id ≠ .no → roN ≤ id → N0 ≤ (ι id).blk
  size : ∀ id, M.sh id ≠ .no → (ι id).blk < w.heap.size
  ob : ∀ id, M.sh id ≠ .no → ObR P ι n (ι id) (M.cel id) (M.sh id) w.heap[(ι id).blk]?
  glob : ∀ g, g < P.globals.size → (ι g).blk = g ∧ (ι g).sh = 0 ∧ n g
  base : N0 ≤ w.heap.size

/-- what becomes of the rest -/
structure Evo (ι : Io) (M : Mem) (n : Dom) (w : World) (ι' : Io) (M' : Mem) (n' : Dom) (w' : World) : Prop where
  ext : ι.ext ι' n
  le : n.le n'
  size : w.heap.size ≤ w'.heap.size
  frame : ∀ b, b < w.heap.size → (∀ id, M.sh id ≠ .no → roN ≤ id → (ι id).blk ≠ b) → w'.heap[b]? = w.heap[b]?
  own : ∀ id, M'.sh id ≠ .no → roN ≤ id → (ι' id).blk < w.heap.size → ∃ j, M.sh j ≠ .no ∧ roN ≤ j ∧ (ι j).blk = (ι' id).blk
  os : w'.os = w.os
  tape : w'.tape = w.tape
  output : w'.output = w.output

theorem Evo.refl (ι : Io) (M : Mem) (n : Dom) (w : World) : Evo ι M n w ι M n w :=
  ⟨.refl _ _, .refl _, Nat.le_refl _, fun _ _ _ => rfl, fun id h h' _ => ⟨id, h, h', rfl⟩, rfl, rfl, rfl⟩

theorem Evo.trans {ι ι1 ι2 : Io} {M M1 M2 : Mem} {n n1 n2 : Dom} {w w1 w2 : World} (h : Evo ι M n w ι1 M1 n1 w1) (h' : Evo ι1 M1 n1 w1 ι2 M2 n2 w2) :
    Evo ι M n w ι2 M2 n2 w2 where
  ext := h.ext.trans h'.ext h.le
  le := h.le.trans h'.le
  size := Nat.le_trans h.size h'.size
  frame := fun b hb hn => by
    rw [h'.frame b (Nat.lt_of_lt_of_le hb h.size) ?_, h.frame b hb hn]
    intro id h1 h2 e
    obtain ⟨j, a1, a2, a3⟩ := h.own id h1 h2 (by rw [e]; exact hb)
    exact hn j a1 a2 (a3.trans e)
  own := fun id h1 h2 h3 => by
    obtain ⟨j, a1, a2, a3⟩ := h'.own id h1 h2 (Nat.lt_of_lt_of_le h3 h.size)
    obtain ⟨i, b1, b2, b3⟩ := h.own j a1 a2 (by rw [a3]; exact h3)
    exact ⟨i, b1, b2, b3.trans a3⟩
  os := h'.os.trans h.os
  tape := h'.tape.trans h.tape
  output := h'.output.trans h.output

/-- a smaller memory -/
structure Sub (A M : Mem) : Prop where
  sh : ∀ id, A.sh id ≠ .no → M.sh id = A.sh id
  cel : ∀ id off, A.sh id ≠ .no → A.cel id off ≠ .u → M.cel id off = A.cel id off

theorem Sub.refl (A : Mem) : Sub A A := ⟨fun _ _ => rfl, fun _ _ _ _ => rfl⟩

theorem Rel.sub {P : Program} {N0 : Nat} {ι : Io} {A M : Mem} {n : Dom} {w : World} (h : Rel P N0 ι M n w) (hs : Sub A M) : Rel P N0 ι A n w where
  ro := h.ro
  lt := fun id hi => h.lt id (by rw [hs.sh id hi]; exact hi)
  inj := fun i j hr hi hj => h.inj i j hr (by rw [hs.sh i hi]; exact hi) (by rw [hs.sh j hj]; exact hj)
  own := fun id hi => h.own id (by rw [hs.sh id hi]; exact hi)
  size := fun id hi => h.size id (by rw [hs.sh id hi]; exact hi)
  ob := fun id hi => by
    have h1 := h.ob id (by rw [hs.sh id hi]; exact hi)
    rw [hs.sh id hi] at h1
    have hc := hs.cel id
    revert h1 hc hi
    cases A.sh id with
    | no => intro _ _ _; trivial
    | cs m =>
      rintro hi ⟨c, elem, e, h1, h2⟩ hc
      exact ⟨c, elem, e, fun off ho => by have e1 := hc off hi ho; rw [← e1]; exact h1 off (by rw [e1]; exact ho), h2⟩
    | mp es => intro _ h1 _; exact h1
    | df => intro _ h1 _; exact h1
    | lp a b c d e f => intro _ h1 _; exact h1
  glob := h.glob
  base := h.base

/-- one object more -/
def Dom.add (n : Dom) (k : Nat) : Dom := fun id => n id ∨ id = k
theorem Dom.le_add (n : Dom) (k : Nat) : n.le (n.add k) := fun _ h => .inl h
theorem Dom.at_add (n : Dom) (k : Nat) : n.add k k := .inr rfl

/-- a block is laid -/
theorem Rel.new {P : Program} {N0 : Nat} {ι : Io} {M : Mem} {n : Dom} {w : World} (h : Rel P N0 ι M n w) (k : Nat) (hk : ¬ n k) (o : Obj) (L : Loc) (s : Sh) (f : Nat → AV) (hL : L.blk = w.heap.size)
    (ho : ∀ ι' : Io, ι.ext ι' n → ι' k = L → ObR P ι' (n.add k) L f s (some o)) :
    ∃ ι', ι' k = L ∧ Rel P N0 ι' (M.put k s f) (n.add k) (w.alloc o) ∧ Evo ι M n w ι' (M.put k s f) (n.add k) (w.alloc o) := by
  have hex : ι.ext (fun j => if j = k then L else ι j) n := fun id hi => if_neg (fun (e : id = k) => hk (e ▸ hi))
  have hnew : (w.alloc o).heap[w.heap.size]? = some o := by show (w.heap.push o)[w.heap.size]? = _; simp
  have hold : ∀ b, b < w.heap.size → (w.alloc o).heap[b]? = w.heap[b]? := fun b hb => by show (w.heap.push o)[b]? = _; rw [Array.getElem?_push_lt hb, Array.getElem?_eq_getElem hb]
  refine ⟨fun j => if j = k then L else ι j, if_pos rfl, ?_, ?_⟩
  · exact
    { ro := fun id hi => .inl (h.ro id hi)
      lt := fun id hi => by
        by_cases e : id = k
        · exact .inr e
        · simp only [Mem.put, e, if_false] at hi; exact .inl (h.lt id hi)
      inj := fun i j hr hi hj hb => by
        by_cases ei : i = k <;> by_cases ej : j = k
        · omega
        · simp only [Mem.put, ej, if_false] at hj
          simp only [ei, ej, if_true, if_false] at hb
          have := h.size j hj; omega
        · simp only [Mem.put, ei, if_false] at hi
          simp only [ei, ej, if_true, if_false] at hb
          have := h.size i hi; omega
        · simp only [Mem.put, ei, ej, if_false] at hi hj
          simp only [ei, ej, if_false] at hb
          exact h.inj i j hr hi hj hb
      own := fun id hi hr => by
        by_cases e : id = k
        · simp only [e, if_true]; have := h.base; omega
        · simp only [Mem.put, e, if_false] at hi ⊢; exact h.own id hi hr
      size := fun id hi => by
        by_cases e : id = k
        · simp only [e, if_true, hL, World.size_alloc]; omega
        · simp only [Mem.put, e, if_false] at hi ⊢; have := h.size id hi; simp only [World.size_alloc]; omega
      ob := fun id hi => by
        by_cases e : id = k
        · subst e
          simp only [Mem.put, if_true]
          rw [hL, hnew]
          exact ho _ hex (if_pos rfl)
        · simp only [Mem.put, e, if_false] at hi ⊢
          rw [hold _ (h.size id hi)]
          exact (h.ob id hi).ext hex (n.le_add k)
      glob := fun g hg => by
        have h1 := h.glob g hg
        have e : g ≠ k := fun e => hk (e ▸ h1.2.2)
        simp only [e, if_false]
        exact ⟨h1.1, h1.2.1, .inl h1.2.2⟩
      base := by have := h.base; simp only [World.size_alloc]; omega }
  · exact
    { ext := hex
      le := n.le_add k
      size := by simp only [World.size_alloc]; omega
      frame := fun b hb _ => hold b hb
      own := fun id hi hr hb => by
        by_cases e : id = k
        · simp only [e, if_true] at hb; omega
        · simp only [Mem.put, e, if_false] at hi hb ⊢; exact ⟨id, hi, hr, rfl⟩
      os := rfl
      tape := rfl
      output := rfl }

/-- a block is changed -/
theorem Rel.upd {P : Program} {N0 : Nat} {ι : Io} {M : Mem} {n : Dom} {w w' : World} (h : Rel P N0 ι M n w) (id : Nat) (s : Sh) (f : Nat → AV) (hid : M.sh id ≠ .no) (hr : roN ≤ id)
    (hsz : w'.heap.size = w.heap.size) (hoth : ∀ b, b ≠ (ι id).blk → w'.heap[b]? = w.heap[b]?) (hos : w'.os = w.os) (htp : w'.tape = w.tape) (hout : w'.output = w.output)
    (ho : ObR P ι n (ι id) f s w'.heap[(ι id).blk]?) :
    Rel P N0 ι (M.put id s f) n w' ∧ Evo ι M n w ι (M.put id s f) n w' := by
  have hput : ∀ j, (M.put id s f).sh j ≠ .no → M.sh j ≠ .no := fun j hj => by
    by_cases e : j = id
    · exact e ▸ hid
    · simpa only [Mem.put, e, if_false] using hj
  refine ⟨?_, ?_⟩
  · exact
    { ro := h.ro
      lt := fun j hj => h.lt j (hput j hj)
      inj := fun i j hr' hi hj => h.inj i j hr' (hput i hi) (hput j hj)
      own := fun j hj => h.own j (hput j hj)
      size := fun j hj => by rw [hsz]; exact h.size j (hput j hj)
      ob := fun j hj => by
        by_cases e : j = id
        · subst e; simp only [Mem.put, if_true]; exact ho
        · have hne : (ι j).blk ≠ (ι id).blk := fun hb => e (h.inj id j hr hid (hput j hj) hb.symm).symm
          rw [hoth _ hne]
          have := h.ob j (hput j hj)
          simpa only [Mem.put, e, if_false] using this
      glob := h.glob
      base := by rw [hsz]; exact h.base }
  · exact
    { ext := .refl _ _
      le := .refl _
      size := by rw [hsz]; exact Nat.le_refl _
      frame := fun b _ hn => hoth b fun e => hn id hid hr e.symm
      own := fun j hj hr' _ => ⟨j, hput j hj, hr', rfl⟩
      os := hos
      tape := htp
      output := hout }

end Go.Ev

/-
  Numbers and comparisons: the evaluator's against the model's.
-/
namespace Go.Ev

theorem kd_kc (k : IntKind) : kd (kc k) = k := by cases k <;> rfl

theorem toI_VR {ι : Io} {n : Dom} {a : AV} {v : Value} {k : Nat} {i : Int} (h : toI a = some (k, i)) (hv : VR ι n a v) : v = .int (kd k) i := by
  cases hv <;> simp [toI] at h
  · obtain ⟨rfl, rfl⟩ := h; rfl
  · obtain ⟨rfl, rfl⟩ := h; rfl

theorem VR_ofI (ι : Io) (n : Dom) (k : Nat) (i : Int) : VR ι n (ofI k i) (.int (kd k) i) := by
  cases i with
  | ofNat m => exact .nn k m
  | negSucc m => exact .z k m

theorem VR_ofI' {ι : Io} {n : Dom} {k : Nat} {i j : Int} (h : i = j) : VR ι n (ofI k i) (.int (kd k) j) := h ▸ VR_ofI ι n k i

theorem VR_ofV (ι : Io) (n : Dom) (v : Value) : VR ι n (ofV v) v := by
  unfold ofV
  split
  · exact .b _
  · rename_i k i; have := VR_ofI ι n (kc k) i; rwa [kd_kc] at this
  · exact .s _
  · exact .pn
  · exact .sn
  · exact .mn
  · exact .nf
  · exact .u _

theorem wrap_small (k m : Nat) (h : m < lim k) : (kd k).wrap (.ofNat m) = .ofNat m := by
  have hb : ∀ K : IntKind, ((m : Int) < if K.signed then 2 ^ (K.bits - 1) else 2 ^ K.bits) → K.wrap (.ofNat m) = .ofNat m := by
    intro K hK
    unfold IntKind.wrap
    cases K <;> simp [IntKind.signed, IntKind.bits] at hK ⊢ <;> omega
  apply hb
  match k, h with
  | 0, h => simp [kd, IntKind.signed, IntKind.bits, lim] at *; omega
  | 1, h => simp [kd, IntKind.signed, IntKind.bits, lim] at *; omega
  | 2, h => simp [kd, IntKind.signed, IntKind.bits, lim] at *; omega
  | 3, h => simp [kd, IntKind.signed, IntKind.bits, lim] at *; omega
  | 4, h => simp [kd, IntKind.signed, IntKind.bits, lim] at *; omega
  | 5, h => simp [kd, IntKind.signed, IntKind.bits, lim] at *; omega
  | 6, h => simp [kd, IntKind.signed, IntKind.bits, lim] at *; omega
  | k + 7, h => simp [kd, IntKind.signed, IntKind.bits, lim] at *; omega

/-- what a comparison with nil, or of truth values, comes to -/
theorem sameA_run {ι : Io} {n : Dom} {P : Program} {w : World} {t : TypeId} {kind : Nat} {a b : AV} {va vb : Value} {r : Bool} {d : TypeDesc} (hd : P.underlying t = some d) (h : sameA kind a b = some r) (ha : VR ι n a va) (hb : VR ι n b vb)
    (hty : (kind = 0 → ∃ e, d = .slice e) ∧ (kind = 1 → ∃ e, d = .pointer e) ∧ (kind = 2 → d = .bool)) :
    (Op.equal t va vb).run P w = .ok r w ∧ ∀ k i, va ≠ .int k i := by
  have hu : (underlying t).run P w = .ok d w := by simp [underlying, hd]
  unfold Op.equal Op.maxDepth
  rw [show (10000 : Nat) = 9999 + 1 from rfl]
  unfold Op.equalIn
  obtain ⟨h0, h1, h2⟩ := hty
  unfold sameA at h
  split at h <;> simp at h
  case h_1 => cases ha; cases hb; subst h; have := h2 rfl; subst this; simp [hu]
  case h_2 => cases ha; cases hb; subst h; obtain ⟨e, rfl⟩ := h0 rfl; simp [hu]
  case h_3 => cases ha; cases hb <;> (subst h; obtain ⟨e, rfl⟩ := h0 rfl; simp [hu])
  case h_4 => cases hb; cases ha <;> (subst h; obtain ⟨e, rfl⟩ := h0 rfl; simp [hu])
  case h_5 => cases ha; cases hb; subst h; obtain ⟨e, rfl⟩ := h0 rfl; simp [hu]
  case h_6 => cases ha; cases hb; subst h; obtain ⟨e, rfl⟩ := h0 rfl; simp [hu]
  case h_7 => cases ha; cases hb; subst h; obtain ⟨e, rfl⟩ := h1 rfl; simp [hu]
  case h_8 => cases ha; cases hb; subst h; obtain ⟨e, rfl⟩ := h1 rfl; simp [hu]
  case h_9 => cases ha; cases hb; subst h; obtain ⟨e, rfl⟩ := h1 rfl; simp [hu]

/-! ## Arithmetic -/

theorem kd_eq {k k' : Nat} (h : k = k') : (kd k = kd k') := by rw [h]

theorem arithI_run {ι : Io} {n : Dom} {P : Program} {w : World} {t : TypeId} {op : BinOp} {k : Nat} {a b : Int} {v : AV} (h : arithI op k a b = some v) :
    ∃ v', (Go.binOp op t (.int (kd k) a) (.int (kd k) b)).run P w = .ok v' w ∧ VR ι n v v' := by
  unfold arithI at h
  split at h <;> (try split at h) <;> simp at h <;> subst h
  · exact ⟨_, by simp [Go.binOp, Op.intArith], VR_ofI _ _ _ _⟩
  · exact ⟨_, by simp [Go.binOp, Op.intArith], VR_ofI _ _ _ _⟩
  · exact ⟨_, by simp [Go.binOp, Op.intArith], VR_ofI _ _ _ _⟩
  · rename_i hb; exact ⟨_, by simp [Go.binOp, Op.intDiv, hb], VR_ofI _ _ _ _⟩
  · rename_i hb; exact ⟨_, by simp [Go.binOp, Op.intDiv, hb], VR_ofI _ _ _ _⟩
  · exact ⟨_, by simp only [Go.binOp, Op.intBits, ne_eq, not_true_eq_false, if_false]; rfl, VR_ofI _ _ _ _⟩
  · exact ⟨_, by simp only [Go.binOp, Op.intBits, ne_eq, not_true_eq_false, if_false]; rfl, VR_ofI _ _ _ _⟩
  · exact ⟨_, by simp [Go.binOp, Op.intCmp], .b _⟩
  · exact ⟨_, by simp [Go.binOp, Op.intCmp], .b _⟩
  · exact ⟨_, by simp [Go.binOp, Op.intCmp], .b _⟩
  · exact ⟨_, by simp [Go.binOp, Op.intCmp], .b _⟩
  · exact ⟨_, by simp [Go.binOp, Op.intCmp], .b _⟩
  · exact ⟨_, by simp [Go.binOp, Op.intCmp], .b _⟩

theorem binS_run {ι : Io} {n : Dom} {P : Program} {w : World} {t : TypeId} {op : BinOp} {a b v : AV} {va vb : Value} (h : binS op a b = some v) (ha : VR ι n a va) (hb : VR ι n b vb) :
    ∃ v', (Go.binOp op t va vb).run P w = .ok v' w ∧ VR ι n v v' ∧ ∃ k i k' i', va = .int k i ∧ vb = .int k' i' := by
  unfold binS at h
  split at h
  · split at h
    · rename_i k x k' c h1 h2
      have ea := toI_VR h1 ha
      have eb := toI_VR h2 hb
      subst ea; subst eb
      split at h <;> simp at h
      rename_i hc
      subst h
      exact ⟨_, by simp [Go.binOp, Op.shift, hc], VR_ofI _ _ _ _, _, _, _, _, rfl, rfl⟩
    · simp at h
  · split at h
    · rename_i k x k' c h1 h2
      have ea := toI_VR h1 ha
      have eb := toI_VR h2 hb
      subst ea; subst eb
      split at h <;> simp at h
      rename_i hc
      subst h
      exact ⟨_, by simp [Go.binOp, Op.shift, hc], VR_ofI _ _ _ _, _, _, _, _, rfl, rfl⟩
    · simp at h
  · split at h
    · rename_i k x k' c h1 h2
      have ea := toI_VR h1 ha
      have eb := toI_VR h2 hb
      subst ea; subst eb
      split at h
      case isFalse => simp at h
      rename_i hk
      subst hk
      obtain ⟨v', h3, h4⟩ := arithI_run (ι := ι) (n := n) (P := P) (w := w) (t := t) h
      exact ⟨v', h3, h4, _, _, _, _, rfl, rfl⟩
    · simp at h

theorem toN_ok {v : AV} {k m : Nat} (h : toN v = .ok k m) : v = .n k m := by
  cases v <;> simp [toN] at h
  obtain ⟨rfl, rfl⟩ := h; rfl
theorem toP_ok {v : AV} {k m : Nat} (h : toP v = .ok k m) : v = .p k m := by
  cases v <;> simp [toP] at h
  obtain ⟨rfl, rfl⟩ := h; rfl
theorem toB_ok {v : AV} {x : Bool} (h : toB v = .ok x) : v = .b x := by
  cases v <;> simp [toB] at h
  subst h; rfl

theorem nn_eq (op : BinOp) (f : Nat → Nat → Nat → Option AV) (x y : AV) : nn op f x y = match toN x, toN y with
    | .ok k a, .ok k' c => (if k = k' then f k a c else binS op x y)
    | _, _ => binS op x y := by
  unfold nn
  cases hx : toN x <;> cases hy : toN y <;> simp only []
  rename_i k a k' c
  have e : Nat.beq k k' = decide (k = k') := by rw [Bool.eq_iff_iff]; simp
  rw [e]
  by_cases h : k = k' <;> simp [h]

/-- the quick way comes to what the slow way comes to -/
theorem fit_slow {k m : Nat} {s r : Option AV} (h : fit k m s = r) (hs : m < lim k → s = some (.n k m)) : r = s := by
  unfold fit at h
  have e : Nat.ble (lim k) m = decide (lim k ≤ m) := by rw [Bool.eq_iff_iff]; simp
  rw [e] at h
  by_cases hm : lim k ≤ m
  · simp [hm] at h; exact h.symm
  · simp [hm] at h; rw [hs (by omega)]; exact h.symm

theorem binF_slow {op : BinOp} {x y v : AV} (h : binF op x y = some v) : binS op x y = some v := by
  unfold binF at h
  have key : ∀ (o : BinOp) (f : Nat → Nat → Nat → Option AV), nn o f x y = some v → (∀ k a c, x = .n k a → y = .n k c → f k a c = some v → binS o x y = some v) → binS o x y = some v := by
    intro o f hn hf
    rw [nn_eq] at hn
    cases hx : toN x <;> cases hy : toN y <;> simp only [hx, hy] at hn <;> try exact hn
    rename_i k a k' c
    by_cases hk : k = k'
    · subst hk; simp only [if_true] at hn; exact hf k a c (toN_ok hx) (toN_ok hy) hn
    · simp only [hk, if_false] at hn; exact hn
  cases op <;> simp only [] at h <;> first | exact h | (refine key _ _ h ?_; rintro k a c rfl rfl hf)
  · exact (fit_slow hf fun hm => by simp only [binS, toI, if_true, arithI]; rw [show ((Int.ofNat a) + (Int.ofNat c) : Int) = Int.ofNat (Nat.add a c) from rfl, wrap_small _ _ hm]; rfl).symm
  · unfold subN at hf
    have e : Nat.ble c a = decide (c ≤ a) := by rw [Bool.eq_iff_iff]; simp
    rw [e] at hf
    by_cases hc : c ≤ a
    · simp only [hc, decide_true] at hf
      exact (fit_slow hf fun hm => by
        simp only [binS, toI, if_true, arithI]
        rw [show ((Int.ofNat a) - (Int.ofNat c) : Int) = Int.ofNat (Nat.sub a c) from by simp only [Int.ofNat_eq_natCast]; have : Nat.sub a c = a - c := rfl; rw [this]; omega, wrap_small _ _ hm]; rfl).symm
    · simp only [hc, decide_false] at hf; exact hf
  · exact (fit_slow hf fun hm => by simp only [binS, toI, if_true, arithI]; rw [show ((Int.ofNat a) * (Int.ofNat c) : Int) = Int.ofNat (Nat.mul a c) from rfl, wrap_small _ _ hm]; rfl).symm
  · unfold quoN at hf
    by_cases hc : c = 0
    · subst hc; simp at hf
    · have e : Nat.beq c 0 = false := by cases c with
        | zero => exact absurd rfl hc
        | succ c => rfl
      rw [e] at hf
      exact (fit_slow hf fun hm => by
        simp only [binS, toI, if_true, arithI]
        rw [if_neg (by simp only [Int.ofNat_eq_natCast]; omega), show ((Int.ofNat a).tdiv (Int.ofNat c) : Int) = Int.ofNat (Nat.div a c) from rfl, wrap_small _ _ hm]; rfl).symm
  · unfold remN at hf
    by_cases hc : c = 0
    · subst hc; simp at hf
    · have e : Nat.beq c 0 = false := by cases c with
        | zero => exact absurd rfl hc
        | succ c => rfl
      rw [e] at hf
      simp only [Option.some.injEq] at hf
      subst hf
      simp only [binS, toI, if_true, arithI]
      rw [if_neg (by simp only [Int.ofNat_eq_natCast]; omega)]; rfl
  · simp only [eqlN, Option.some.injEq] at hf; subst hf; simp only [binS, toI, if_true, arithI]; congr 2; rw [Bool.eq_iff_iff]; simp; omega
  · simp only [neqN, Option.some.injEq] at hf; subst hf; simp only [binS, toI, if_true, arithI]; congr 2; simp only [bne]; congr 1; rw [Bool.eq_iff_iff]; simp; omega
  · simp only [lssN, Option.some.injEq] at hf; subst hf; simp only [binS, toI, if_true, arithI]; congr 2; rw [Bool.eq_iff_iff]; simp; omega
  · simp only [leqN, Option.some.injEq] at hf; subst hf; simp only [binS, toI, if_true, arithI]; congr 2; rw [Bool.eq_iff_iff]; simp
  · simp only [gtrN, Option.some.injEq] at hf; subst hf; simp only [binS, toI, if_true, arithI]; congr 2; rw [Bool.eq_iff_iff]; simp; omega
  · simp only [geqN, Option.some.injEq] at hf; subst hf; simp only [binS, toI, if_true, arithI]; congr 2; rw [Bool.eq_iff_iff]; simp

end Go.Ev

/-
  Operations that touch no memory.
-/
namespace Go.Ev

section
variable {ι : Io} {n : Dom} {P : Program} {w : World}

theorem run_underlying' {t : TypeId} {d : TypeDesc} (h : P.underlying t = some d) : (underlying t).run P w = .ok d w := by simp [underlying, h]
theorem run_typeInfo' {t : TypeId} {i : TypeInfo} (h : P.info? t = some i) : (typeInfo t).run P w = .ok i w := by simp [typeInfo, h]
theorem run_sizeOf' {t : TypeId} {k : Nat} (h : sizeA P t = some k) : (sizeOf t).run P w = .ok k w := by
  unfold sizeA at h
  cases hi : P.info? t with
  | none => simp [hi] at h
  | some i => simp [hi] at h; simp [sizeOf, run_typeInfo' hi, h]
theorem run_isAgg' {t : TypeId} {b : Bool} (h : aggB P t = some b) : (isAgg t).run P w = .ok b w := by
  unfold aggB at h
  cases hu : P.underlying t with
  | none => simp [hu] at h
  | some d => rw [hu] at h; unfold isAgg; cases d <;> simp_all [run_underlying' hu]
theorem zeroA_run {t : TypeId} {z : List AV} (h : zeroA P t = some z) : ∃ v, (zeroValue t).run P w = .ok v w ∧ z = v.cells.toList.map ofV := by
  unfold zeroA at h
  cases hi : P.info? t with
  | none => simp [hi] at h
  | some i =>
    simp only [hi] at h
    cases hz : i.zero with
    | none => simp [hz] at h
    | some v => simp only [hz, Option.some.injEq] at h; exact ⟨v, by simp [zeroValue, run_typeInfo' hi, hz], h.symm⟩
theorem VRs_ofV (l : List Value) : VRs ι n (l.map ofV) l := by
  induction l with
  | nil => exact .nil
  | cons v l ih => exact .cons _ _ _ _ (VR_ofV ι n v) ih

theorem unA_run {op : UnOp} {x v : AV} {vx : Value} (h : unA op x = some v) (hx : VR ι n x vx) : ∃ v', (Op.unary op vx).run P w = .ok v' w ∧ VR ι n v v' := by
  unfold unA at h
  split at h <;> simp at h
  · cases hx; subst h; exact ⟨_, by simp [Op.unary], .b _⟩
  · cases hx; subst h; exact ⟨_, by simp [Op.unary, Op.intArith], VR_ofI _ _ _ _⟩
  · cases hx; subst h; exact ⟨_, by simp [Op.unary, Op.intArith], VR_ofI _ _ _ _⟩

theorem convA_run {s d : TypeId} {k : IntKind} {x v : AV} {vx : Value} {ds : TypeDesc} (hs : P.underlying s = some ds) (hd : P.underlying d = some (.int k)) (h : convA (kc k) x = some v) (hx : VR ι n x vx) :
    ∃ v', (Go.convert s d vx).run P w = .ok v' w ∧ VR ι n v v' := by
  have key : ∀ (K : IntKind) (i : Int), (Go.convert s d (.int K i)).run P w = .ok (.int k (k.wrap i)) w := fun K i => by
    unfold Go.convert
    simp only [Sem.run_bind, run_underlying' hs, run_underlying' hd, Result.andThen_ok]
    cases ds <;> rfl
  unfold convA at h
  split at h
  · cases hx
    rename_i k' m
    have e := fit_slow h (fun hm => by rw [wrap_small _ _ hm]; rfl)
    simp only [Option.some.injEq] at e
    subst e
    refine ⟨_, key _ _, ?_⟩
    rw [kd_kc]; have := VR_ofI ι n (kc k) (k.wrap (.ofNat m))
    rwa [kd_kc] at this
  · cases hx
    simp only [Option.some.injEq] at h
    subst h
    refine ⟨_, key _ _, ?_⟩
    rename_i k' m
    rw [kd_kc]; have := VR_ofI ι n (kc k) (k.wrap (.negSucc m))
    rwa [kd_kc] at this
  · simp at h

theorem onN_some {β : Type} {k : Nat → Option β} {x : AV} {r : β} (h : onN none k x = some r) : ∃ kk m, x = .n kk m ∧ k m = some r := by
  unfold onN at h
  cases hx : toN x with
  | no => simp [hx] at h
  | ok kk m => simp only [hx] at h; exact ⟨kk, m, toN_ok hx, h⟩
theorem onP_some {β : Type} {k : Nat → Nat → Option β} {x : AV} {r : β} (h : onP none k x = some r) : ∃ id off, x = .p id off ∧ k id off = some r := by
  unfold onP at h
  cases hx : toP x with
  | no => simp [hx] at h
  | ok kk m => simp only [hx] at h; exact ⟨kk, m, toP_ok hx, h⟩

theorem add_at (ι : Io) (id off k : Nat) : (ι.at id off).add k = ι.at id (off + k) := by
  unfold Addr.add Io.at
  by_cases h : k = 0
  · simp [h]
  · simp [h]; omega

theorem faA_run {s : TypeId} {fs : Array Field} {i : Nat} {f : Field} {x v : AV} {vx : Value} {sz : Nat} (hs : P.underlying s = some (.struct fs)) (hf : fs[i]? = some f) (hz : sizeA P f.type = some sz) (h0 : sz ≠ 0)
    (h : faA f.offset x = some v) (hx : VR ι n x vx) : ∃ v', (Instr.fieldAt s vx i).run P w = .ok v' w ∧ VR ι n v v' := by
  obtain ⟨id, off, rfl, e⟩ := onP_some h
  simp only [Option.some.injEq] at e
  subst e
  cases hx with
  | p _ _ hl =>
    refine ⟨.pointer (some (ι.at id (off + f.offset))), ?_, .p _ _ hl⟩
    unfold Instr.fieldAt
    simp [run_underlying' hs, hf, Instr.sureAddr, fieldPlace, run_sizeOf' hz, h0, add_at]

theorem ble_dec (a b : Nat) : Nat.ble a b = decide (a ≤ b) := by rw [Bool.eq_iff_iff]; simp

theorem iaArr_run {t e : TypeId} {len es : Nat} {x i v : AV} {vx vi : Value} (ht : P.underlying t = some (.array len e)) (he : sizeA P e = some es) (h : iaArr len es x i = some v) (hx : VR ι n x vx) (hi : VR ι n i vi) :
    ∃ v', (Instr.indexAt t vx vi).run P w = .ok v' w ∧ VR ι n v v' := by
  obtain ⟨id, off, rfl, g⟩ := onP_some h
  obtain ⟨kk, m, rfl, g2⟩ := onN_some g
  clear h g
  rw [ble_dec] at g2
  by_cases hm : m + 1 ≤ len
  · simp only [Nat.succ_eq_add_one, hm, decide_true, Option.some.injEq] at g2
    subst g2
    cases hx with
    | p _ _ hl =>
      cases hi
      refine ⟨.pointer (some (ι.at id (off + m * es))), ?_, .p _ _ hl⟩
      unfold Instr.indexAt
      simp [asIntOf, run_underlying' ht, Instr.sureAddr, run_sizeOf' he, add_at, show m < len by omega]
  · simp [Nat.succ_eq_add_one, hm] at g2

theorem iaSl_run {t e : TypeId} {es : Nat} {x i v : AV} {vx vi : Value} (ht : P.underlying t = some (.slice e)) (he : sizeA P e = some es) (h : iaSl es x i = some v) (hx : VR ι n x vx) (hi : VR ι n i vi) :
    ∃ v', (Instr.indexAt t vx vi).run P w = .ok v' w ∧ VR ι n v v' := by
  unfold iaSl at h
  split at h
  · rename_i id off len cap ex
    obtain ⟨kk, m, rfl, g2⟩ := onN_some h
    clear h
    rw [ble_dec] at g2
    by_cases hm : m + 1 ≤ len
    · simp only [Nat.succ_eq_add_one, hm, decide_true, Option.some.injEq] at g2
      subst g2
      cases hi
      cases hx with
      | slx _ _ _ _ hl =>
        refine ⟨.pointer (some (ι.at id (off + m * es))), ?_, .p _ _ hl⟩
        unfold Instr.indexAt
        simp [asIntOf, run_underlying' ht, run_sizeOf' he, add_at, show m < len by omega]
      | sli _ _ _ _ _ c hl _ _ _ =>
        refine ⟨.pointer (some (ι.at id (off + m * es))), ?_, .p _ _ hl⟩
        unfold Instr.indexAt
        simp [asIntOf, run_underlying' ht, run_sizeOf' he, add_at, show m < len by omega]
    · simp [Nat.succ_eq_add_one, hm] at g2
  · simp at h

/-! ### Slices of slices, of arrays -/

def OpO (ι : Io) (n : Dom) (o : Option AV) (ov : Option Value) : Prop := (o = none ∧ ov = none) ∨ ∃ a v, o = some a ∧ ov = some v ∧ VR ι n a v

theorem bounds_run {isS : Bool} {len cap l h m : Nat} {lo hi mx : Option AV} {vlo vhi vmx : Option Value} (e1 : boundA cap mx = some m) (e2 : boundA len hi = some h) (e3 : boundA 0 lo = some l)
    (r1 : OpO ι n mx vmx) (r2 : OpO ι n hi vhi) (r3 : OpO ι n lo vlo) (h1 : l ≤ h) (h2 : h ≤ m) (h3 : m ≤ cap) (hx : mx.isSome = true → hi.isSome = true) :
    (Instr.sliceBounds isS len cap vlo vhi vmx).run P w = .ok (l, h, m) w := by
  unfold Instr.sliceBounds
  rcases r1 with ⟨rfl, rfl⟩ | ⟨am, vm, rfl, rfl, hm⟩
  · simp [boundA] at e1
    subst e1
    rcases r2 with ⟨rfl, rfl⟩ | ⟨ah, vh, rfl, rfl, hh⟩
    · simp [boundA] at e2
      subst e2
      rcases r3 with ⟨rfl, rfl⟩ | ⟨al, vl, rfl, rfl, hl⟩
      · simp [boundA] at e3; subst e3; simp
      · obtain ⟨_, l', rfl, e⟩ := onN_some e3; simp at e; subst e; cases hl; simp [Instr.sliceBound, asIntOf, h1]
    · obtain ⟨_, h', rfl, e⟩ := onN_some e2; simp at e; subst e; cases hh
      rcases r3 with ⟨rfl, rfl⟩ | ⟨al, vl, rfl, rfl, hl⟩
      · simp [boundA] at e3; subst e3; simp [Instr.sliceBound, asIntOf, h2]
      · obtain ⟨_, l', rfl, e⟩ := onN_some e3; simp at e; subst e; cases hl; simp [Instr.sliceBound, asIntOf, h1, h2]
  · obtain ⟨_, m', rfl, e⟩ := onN_some e1; simp at e; subst e; cases hm
    rcases r2 with ⟨rfl, rfl⟩ | ⟨ah, vh, rfl, rfl, hh⟩
    · simp at hx
    · obtain ⟨_, h', rfl, e⟩ := onN_some e2; simp at e; subst e; cases hh
      rcases r3 with ⟨rfl, rfl⟩ | ⟨al, vl, rfl, rfl, hl⟩
      · simp [boundA] at e3; subst e3; simp [Instr.sliceBound, asIntOf, h2, h3]
      · obtain ⟨_, l', rfl, e⟩ := onN_some e3; simp at e; subst e; cases hl; simp [Instr.sliceBound, asIntOf, h1, h2, h3]

theorem slcArr_run {t e : TypeId} {len es : Nat} {x v : AV} {lo hi mx : Option AV} {vx : Value} {vlo vhi vmx : Option Value} (ht : P.underlying t = some (.array len e)) (he : sizeA P e = some es)
    (h : slcArr len es x lo hi mx = some v) (hx : VR ι n x vx) (r1 : OpO ι n lo vlo) (r2 : OpO ι n hi vhi) (r3 : OpO ι n mx vmx) (hxx : mx.isSome = true → hi.isSome = true) :
    ∃ v', (Instr.sliceAt t vx vlo vhi vmx).run P w = .ok v' w ∧ VR ι n v v' := by
  obtain ⟨id, off, rfl, g⟩ := onP_some h
  clear h
  split at g
  · rename_i m hh l e1 e2 e3
    split at g
    · rename_i hc
      simp only [Option.some.injEq] at g
      subst g
      cases hx with
      | p _ _ hl =>
        refine ⟨.slice (some (ι.at id (if m = l then off else off + l * es))) (hh - l) (m - l), ?_, .slx _ _ _ _ hl⟩
        unfold Instr.sliceAt
        have hb := bounds_run (P := P) (w := w) (isS := false) e1 e2 e3 r3 r2 r1 hc.1 hc.2.1 hc.2.2 hxx
        by_cases hml : m = l
        · simp [run_underlying' ht, Instr.sureAddr, hb, run_sizeOf' he, hml]
        · simp [run_underlying' ht, Instr.sureAddr, hb, run_sizeOf' he, hml, add_at]
    · simp at g
  · simp at g

theorem slcSl_run {t e : TypeId} {es : Nat} {x v : AV} {lo hi mx : Option AV} {vx : Value} {vlo vhi vmx : Option Value} (ht : P.underlying t = some (.slice e)) (he : sizeA P e = some es)
    (h : slcSl es x lo hi mx = some v) (hx : VR ι n x vx) (r1 : OpO ι n lo vlo) (r2 : OpO ι n hi vhi) (r3 : OpO ι n mx vmx) (hxx : mx.isSome = true → hi.isSome = true) :
    ∃ v', (Instr.sliceAt t vx vlo vhi vmx).run P w = .ok v' w ∧ VR ι n v v' := by
  have go : ∀ (a : Option Addr) (len cap l hh m : Nat), (Instr.sliceBounds true len cap vlo vhi vmx).run P w = .ok (l, hh, m) w →
      (Instr.sliceAt t (.slice a len cap) vlo vhi vmx).run P w = .ok (.slice (if m = l then a else a.map (·.add (l * es))) (hh - l) (m - l)) w := by
    intro a len cap l hh m hb
    unfold Instr.sliceAt
    simp only [Sem.run_bind, run_underlying' ht, Result.andThen_ok]
    unfold Instr.slice
    simp [run_underlying' ht, hb, run_sizeOf' he]
  unfold slcSl at h
  split at h
  · rename_i id off len cap ex
    split at h
    · rename_i m hh l e1 e2 e3
      split at h
      · rename_i hc
        obtain ⟨h1, h2, h3, h4⟩ := hc
        cases hx with
        | slx _ _ _ _ hl =>
          have hb := bounds_run (P := P) (w := w) (isS := true) e1 e2 e3 r3 r2 r1 h1 h2 h3 hxx
          refine ⟨_, go _ _ _ _ _ _ hb, ?_⟩
          by_cases hml : m = l
          · subst hml
            simp at h
            subst h
            have : hh - m = 0 := by omega
            simp [this]
            exact .slx _ _ _ _ hl
          · simp [hml] at h
            subst h
            simp [hml, add_at]
            exact .slx _ _ _ _ hl
        | sli _ _ _ _ _ c hl h0 hc1 hc2 =>
          cases hmx : mx with
          | none =>
            subst hmx
            simp [boundA] at e1
            subst e1
            have hvm : vmx = none := by rcases r3 with ⟨_, e⟩ | ⟨a, v, e, _⟩ <;> simp_all
            subst hvm
            have hb := bounds_run (P := P) (w := w) (isS := true) (len := len) (cap := c) (m := c) (h := hh) (l := l) (mx := none) (by simp [boundA]) e2 e3 (.inl ⟨rfl, rfl⟩) r2 r1 h1 (by omega) (Nat.le_refl _) (by simp)
            refine ⟨_, go _ _ _ _ _ _ hb, ?_⟩
            by_cases hml : cap = l
            · subst hml
              simp [show ex ≠ 0 by omega] at h
              subst h
              have : hh - cap = 0 := by omega
              rw [this]
              by_cases hcl : c = cap
              · simp only [hcl, if_true]; exact .se _ _
              · simp only [hcl, if_false, Option.map_some]; exact .se _ _
            · simp [hml] at h
              subst h
              have hcl : c ≠ l := by omega
              simp only [hcl, if_false, Option.map_some, add_at]
              have hes : ex = es := by omega
              refine .sli _ _ _ _ _ _ hl h0 (by omega) ?_
              rw [← hc2, ← hes]
              have := Nat.add_mul l (c - l) ex
              rw [show l + (c - l) = c by omega] at this
              omega
          | some am =>
            subst hmx
            have hb := bounds_run (P := P) (w := w) (isS := true) (cap := c) (m := m) (mx := some am) (by simpa [boundA] using e1) e2 e3 r3 r2 r1 h1 h2 (by omega) hxx
            refine ⟨_, go _ _ _ _ _ _ hb, ?_⟩
            by_cases hml : m = l
            · subst hml
              simp at h
              subst h
              have : hh - m = 0 := by omega
              simp [this]
              exact .slx _ _ _ _ hl
            · simp [hml] at h
              subst h
              simp [hml, add_at]
              exact .slx _ _ _ _ hl
      · simp at h
    · simp at h
  · cases hx
    split at h
    · rename_i e1 e2 e3
      simp only [Option.some.injEq] at h
      subst h
      have hb := bounds_run (P := P) (w := w) (isS := true) e1 e2 e3 r3 r2 r1 (Nat.le_refl _) (Nat.le_refl _) (Nat.le_refl _) hxx
      exact ⟨_, go _ _ _ _ _ _ hb, by simp; exact .sn⟩
    · simp at h
  · cases hx with
    | se a c =>
      split at h
      · rename_i e2 e3
        simp only [Option.some.injEq] at h
        subst h
        have hvm : vmx = none := by rcases r3 with ⟨_, e⟩ | ⟨a, v, e, _⟩ <;> simp_all
        subst hvm
        have hb := bounds_run (P := P) (w := w) (isS := true) (len := 0) (cap := c) (m := c) (h := 0) (l := 0) (mx := none) (by simp [boundA]) e2 e3 (.inl ⟨rfl, rfl⟩) r2 r1 (Nat.le_refl _) (by omega) (Nat.le_refl _) (by simp)
        refine ⟨_, go _ _ _ _ _ _ hb, ?_⟩
        by_cases hc : c = 0
        · simp [hc]; exact .se _ _
        · simp [hc]; exact .se _ _
      · simp at h
  · simp at h

end
end Go.Ev

/-
  Operations that touch no memory: structs, arrays, the rest.
-/
namespace Go.Ev

section
variable {ι : Io} {n : Dom} {P : Program} {w : World}

theorem VRs.of_get {l : List AV} {vs : List Value} (hl : l.length = vs.length) (h : ∀ i (h1 : i < l.length) (h2 : i < vs.length), VR ι n l[i] vs[i]) : VRs ι n l vs := by
  induction l generalizing vs with
  | nil => cases vs with
    | nil => exact .nil
    | cons v vs => simp at hl
  | cons a l ih => cases vs with
    | nil => simp at hl
    | cons v vs =>
      refine .cons _ _ _ _ (h 0 (by simp) (by simp)) (ih (by simpa using hl) fun i h1 h2 => ?_)
      have := h (i + 1) (by simpa using h1) (by simpa using h2)
      simpa using this

theorem lenL_eq (l : List AV) : lenL l = l.length := by
  induction l with
  | nil => rfl
  | cons a l ih => show Nat.succ (lenL l) = _; rw [ih]; rfl
theorem appL_eq (l m : List AV) : appL l m = l ++ m := by
  induction l with
  | nil => rfl
  | cons a l ih => show a :: appL l m = _; rw [ih]; rfl
theorem lenN_eq {α : Type} (l : List α) : lenN l = l.length := by
  induction l with
  | nil => rfl
  | cons a l ih => simp [lenN, ih]
theorem repL_len (k : Nat) (z : List AV) : (repL k z).length = k * z.length := by
  induction k with
  | zero => show ([] : List AV).length = _; simp
  | succ k ih =>
    have : repL (k + 1) z = appL z (repL k z) := rfl
    rw [this, appL_eq, List.length_append, ih, Nat.succ_mul]; omega
theorem isU_iff (v : AV) : isU v = true ↔ v = .u := by cases v <;> simp [isU]

theorem cells_VR {a : AV} {v : Value} (h : VR ι n a v) (hu : isU a = false) : VRs ι n (cellsV a) v.cells.toList := by
  cases h <;> first
    | (simp [isU] at hu; done)
    | exact .cons _ _ _ _ (by constructor <;> assumption) .nil
    | skip
  · rename_i cs cs' h; exact h

/-- stores of consecutive cells -/
theorem foldset (off : Nat) : ∀ (l : List Value) (j0 : Nat) (cs : Array Value) (i : Nat),
    ((l.zipIdx j0).foldl (fun cs (c, j) => cs.setIfInBounds (off + j) c) cs)[i]? = if off + j0 ≤ i ∧ i < off + j0 + l.length ∧ i < cs.size then l[i - (off + j0)]? else cs[i]? := by
  intro l
  induction l with
  | nil => intro j0 cs i; simp; intro a b; omega
  | cons x l ih =>
    intro j0 cs i
    simp only [List.zipIdx_cons, List.foldl_cons]
    rw [ih]
    simp only [Array.size_setIfInBounds, List.length_cons]
    by_cases h1 : i < cs.size
    · by_cases h2 : i = off + j0
      · subst h2
        rw [if_neg (by omega), if_pos (by omega)]
        simp [h1]
      · by_cases h3 : off + (j0 + 1) ≤ i ∧ i < off + (j0 + 1) + l.length
        · rw [if_pos ⟨h3.1, h3.2, h1⟩, if_pos (by omega), show i - (off + j0) = (i - (off + (j0 + 1))) + 1 by omega]; simp
        · rw [if_neg (by omega), if_neg (by omega), Array.getElem?_setIfInBounds_ne (by omega)]
    · rw [if_neg (by omega), if_neg (by omega)]
      rw [Array.getElem?_eq_none (by simp; omega), Array.getElem?_eq_none (by omega)]

theorem foldset_size (off : Nat) : ∀ (l : List Value) (j0 : Nat) (cs : Array Value), ((l.zipIdx j0).foldl (fun cs (c, j) => cs.setIfInBounds (off + j) c) cs).size = cs.size := by
  intro l
  induction l with
  | nil => intro j0 cs; rfl
  | cons x l ih => intro j0 cs; simp only [List.zipIdx_cons, List.foldl_cons]; rw [ih]; simp

theorem fillV_spec (off : Nat) (v : Value) (cs : Array Value) (h : off + v.cells.size ≤ cs.size) :
    (v.cells.zipIdx.foldl (fun cs (c, j) => cs.setIfInBounds (off + j) c) cs).toList = cs.toList.take off ++ v.cells.toList ++ cs.toList.drop (off + v.cells.size) := by
  have e : v.cells.zipIdx.foldl (fun cs (c, j) => cs.setIfInBounds (off + j) c) cs = (v.cells.toList.zipIdx 0).foldl (fun cs (c, j) => cs.setIfInBounds (off + j) c) cs := by
    rw [← Array.foldl_toList]; simp
  rw [e]
  apply List.ext_getElem?
  intro i
  have h1 := foldset off v.cells.toList 0 cs i
  have h2 : (((v.cells.toList.zipIdx 0).foldl (fun cs (c, j) => cs.setIfInBounds (off + j) c) cs).toList)[i]? = ((v.cells.toList.zipIdx 0).foldl (fun cs (c, j) => cs.setIfInBounds (off + j) c) cs)[i]? := by simp
  rw [h2, h1]
  simp only [Nat.add_zero, Array.length_toList]
  by_cases ha : i < off
  · rw [if_neg (by omega), List.append_assoc, List.getElem?_append_left (by simp; omega), List.getElem?_take, if_pos ha]; simp
  · by_cases hb : i < off + v.cells.size
    · rw [if_pos (by omega), List.append_assoc, List.getElem?_append_right (by simp; omega), List.getElem?_append_left (by simp; omega)]
      congr 1; simp; omega
    · rw [if_neg (by omega), List.getElem?_append_right (by simp; omega), List.getElem?_drop]
      simp
      congr 1; omega

inductive PartsR (ι : Io) (n : Dom) (pl : Nat → Option (Nat × Nat)) : List (Nat × Nat × AV) → List (Nat × Value) → Prop
  | nil : PartsR ι n pl [] []
  | cons (off size : Nat) (a : AV) (i : Nat) (v : Value) (l : List (Nat × Nat × AV)) (vs : List (Nat × Value)) : pl i = some (off, size) → VR ι n a v → PartsR ι n pl l vs → PartsR ι n pl ((off, size, a) :: l) ((i, v) :: vs)

theorem fill_run {pl : Nat → Option (Nat × Nat)} {ps : List (Nat × Nat × AV)} {parts : List (Nat × Value)} (hp : PartsR ι n pl ps parts) :
    ∀ {zs cs : List AV} {zc : Array Value}, fillA ps zs = some cs → VRs ι n zs zc.toList → ∃ cc, Instr.fill pl zc parts = some cc ∧ VRs ι n cs cc.toList := by
  induction hp with
  | nil => intro zs cs zc h hz; simp [fillA] at h; subst h; exact ⟨zc, rfl, hz⟩
  | cons off size a i v l vs hpl hv _ ih =>
    intro zs cs zc h hz
    simp only [fillA] at h
    split at h
    · rename_i hc
      obtain ⟨h1, h2, h3⟩ := hc
      rw [lenL_eq] at h1 h2
      have hcv := cells_VR hv h3
      have hl1 := hcv.length
      have hl2 := hz.length
      simp only [Array.length_toList] at hl1 hl2
      have hsz : v.cells.size = size := by omega
      have hfit : off + v.cells.size ≤ zc.size := by omega
      obtain ⟨cc, e1, e2⟩ := ih (zc := v.cells.zipIdx.foldl (fun cs (c, j) => cs.setIfInBounds (off + j) c) zc) h (by
        rw [fillV_spec off v zc hfit, hsz]
        exact ((hz.take off).append hcv).append (hz.drop (off + size)))
      refine ⟨cc, ?_, e2⟩
      unfold Instr.fill
      rw [hpl]
      simp only [hsz, ne_eq, not_true_eq_false, decide_false, Bool.false_or, decide_eq_true_eq]
      rw [if_neg (by omega)]
      exact e1
    · simp at h

theorem placesL_mapM : ∀ (fs : List Field) (l : List (Nat × Nat)), placesL P fs = some l → fs.mapM (fun f => (P.info? f.type).map fun i => (f.offset, i.size)) = some l := by
  intro fs
  induction fs with
  | nil => intro l h; simp [placesL] at h; subst h; rfl
  | cons f fs ih =>
    intro l h
    unfold placesL at h
    split at h
    · rename_i k l' h1 h2
      simp at h; subst h
      unfold sizeA at h1
      cases hi : P.info? f.type with
      | none => simp [hi] at h1
      | some i => simp [hi] at h1; subst h1; simp [List.mapM_cons, hi, ih _ h2]
    · simp at h

theorem buildS_run {t : TypeId} {fs : Array Field} {l : List (Nat × Nat)} {z : List AV} {ps : List (Nat × Nat × AV)} {parts : Array (Nat × Value)} {v : AV} (ht : P.underlying t = some (.struct fs)) (hz : zeroA P t = some z)
    (hl : placesL P fs.toList = some l) (hp : PartsR ι n (fun i => l[i]?) ps parts.toList) (h : buildA z ps = some v) : ∃ v', (Instr.build t parts).run P w = .ok v' w ∧ VR ι n v v' := by
  unfold buildA at h
  cases hf : fillA ps z with
  | none => simp [hf] at h
  | some cs =>
    simp [hf] at h; subst h
    unfold zeroA at hz
    cases hi : P.info? t with
    | none => simp [hi] at hz
    | some it =>
      simp only [hi] at hz
      cases hzz : it.zero with
      | none => simp [hzz] at hz
      | some zv =>
        simp only [hzz, Option.some.injEq] at hz
        subst hz
        obtain ⟨cc, e1, e2⟩ := fill_run hp hf (zc := zv.cells) (VRs_ofV _)
        refine ⟨.agg cc, run_build w t parts cc ?_, .agg _ _ e2⟩
        unfold Program.built
        simp only [hi, ht, hzz, placesL_mapM _ _ hl]
        simpa using e1

theorem buildA_run {t e : TypeId} {len es : Nat} {z : List AV} {ps : List (Nat × Nat × AV)} {parts : Array (Nat × Value)} {v : AV} (ht : P.underlying t = some (.array len e)) (hz : zeroA P t = some z)
    (he : sizeA P e = some es) (hp : PartsR ι n (fun i => some (i * es, es)) ps parts.toList) (h : buildA z ps = some v) : ∃ v', (Instr.build t parts).run P w = .ok v' w ∧ VR ι n v v' := by
  unfold buildA at h
  cases hf : fillA ps z with
  | none => simp [hf] at h
  | some cs =>
    simp [hf] at h; subst h
    unfold zeroA at hz
    cases hi : P.info? t with
    | none => simp [hi] at hz
    | some it =>
      simp only [hi] at hz
      cases hzz : it.zero with
      | none => simp [hzz] at hz
      | some zv =>
        simp only [hzz, Option.some.injEq] at hz
        subst hz
        unfold sizeA at he
        cases hie : P.info? e with
        | none => simp [hie] at he
        | some ie =>
          simp [hie] at he
          subst he
          obtain ⟨cc, e1, e2⟩ := fill_run hp hf (zc := zv.cells) (VRs_ofV _)
          refine ⟨.agg cc, run_build w t parts cc ?_, .agg _ _ e2⟩
          unfold Program.built
          simp only [hi, ht, hzz, hie]
          exact e1

/-! ### Parts -/

theorem part_run {t : TypeId} {k : Nat} {ag : Bool} {off : Nat} {cs : List AV} {cs' : Array Value} {v : AV} (ha : aggB P t = some ag) (hs : sizeA P t = some k) (h : partA k ag off cs = some v) (hc : VRs ι n cs cs'.toList) :
    ∃ v', (part t cs' off).run P w = .ok v' w ∧ VR ι n v v' := by
  unfold partA at h
  cases ag with
  | true =>
    simp at h; subst h
    refine ⟨.agg (cs'.extract off (off + k)), ?_, .agg _ _ ?_⟩
    · unfold part; simp [run_isAgg' ha, run_sizeOf' hs]
    · have e : (cs'.extract off (off + k)).toList = (cs'.toList.drop off).take k := by simp
      rw [e]
      exact (hc.drop off).take k
  | false =>
    simp only [Bool.false_eq_true, if_false] at h
    cases hg : cs[off]? with
    | none => simp [hg] at h
    | some a =>
      simp only [hg, Option.some.injEq] at h
      subst h
      obtain ⟨hlt, he⟩ := List.getElem?_eq_some_iff.1 hg
      obtain ⟨x, hx, hv⟩ := hc.get off hlt
      rw [he] at hv
      refine ⟨x, ?_, hv⟩
      unfold part
      have : cs'[off]? = some x := by simpa using hx
      simp [run_isAgg' ha, this]

theorem fldA_run {t : TypeId} {fs : Array Field} {i : Nat} {f : Field} {k : Nat} {ag : Bool} {x v : AV} {vx : Value} (ht : P.underlying t = some (.struct fs)) (hf : fs[i]? = some f) (ha : aggB P f.type = some ag) (hs : sizeA P f.type = some k)
    (h : fldA k ag f.offset x = some v) (hx : VR ι n x vx) : ∃ v', (Instr.field t vx i).run P w = .ok v' w ∧ VR ι n v v' := by
  unfold fldA at h
  split at h
  · cases hx
    rename_i cs' hc
    obtain ⟨v', e1, e2⟩ := part_run (w := w) ha hs h hc
    exact ⟨v', by unfold Instr.field; simp [run_underlying' ht, hf, asAgg, e1], e2⟩
  · simp at h

theorem idxA_run {t e : TypeId} {len k : Nat} {ag : Bool} {x i v : AV} {vx vi : Value} (ht : P.underlying t = some (.array len e)) (ha : aggB P e = some ag) (hs : sizeA P e = some k)
    (h : idxA len k ag x i = some v) (hx : VR ι n x vx) (hi : VR ι n i vi) : ∃ v', (Instr.index t vx vi).run P w = .ok v' w ∧ VR ι n v v' := by
  unfold idxA at h
  split at h
  · cases hx
    rename_i cs' hc
    obtain ⟨kk, m, rfl, g⟩ := onN_some h
    clear h
    cases hi
    by_cases hm : m < len
    · simp only [hm, if_true] at g
      obtain ⟨v', e1, e2⟩ := part_run (w := w) ha hs g hc
      refine ⟨v', ?_, e2⟩
      unfold Instr.index
      simp [asIntOf, run_underlying' ht, hm, run_sizeOf' hs, e1]
    · simp [hm] at g
  · simp at h

theorem extA_run {i : Nat} {x v : AV} {vx : Value} (h : extA i x = some v) (hx : VR ι n x vx) : ∃ v', (Instr.extract vx i).run P w = .ok v' w ∧ VR ι n v v' := by
  unfold extA at h
  split at h
  · cases hx
    rename_i cs' hc
    obtain ⟨hlt, he⟩ := List.getElem?_eq_some_iff.1 h
    obtain ⟨y, hy, hv⟩ := hc.get i hlt
    rw [he] at hv
    refine ⟨y, ?_, hv⟩
    unfold Instr.extract
    have : cs'[i]? = some y := by simpa using hy
    simp [this]
  · simp at h

theorem lenA_run {t e r : TypeId} {ts : Array TypeId} {x v : AV} {vx : Value} (h0 : ts[0]? = some t) (ht : P.underlying t = some (.slice e)) (h : lenA x = some v) (hx : VR ι n x vx) : ∃ v', (Builtin.len_ ts r #[vx]).run P w = .ok v' w ∧ VR ι n v v' := by
  unfold lenA at h
  split at h <;> simp at h <;> subst h
  · rename_i len _ _; cases hx <;> exact ⟨.int .i64 (len : Nat), by unfold Builtin.len_; simp [h0, run_underlying' ht, goInt], .nn 3 _⟩
  · cases hx; exact ⟨.int .i64 (0 : Nat), by unfold Builtin.len_; simp [h0, run_underlying' ht, goInt], .nn 3 0⟩
  · cases hx; exact ⟨.int .i64 (0 : Nat), by unfold Builtin.len_; simp [h0, run_underlying' ht, goInt], .nn 3 0⟩
theorem lenc_run {t e r : TypeId} {ts : Array TypeId} {k : Nat} {vx : Value} (h0 : ts[0]? = some t) (ht : P.underlying t = some (.array k e)) : ∃ v', (Builtin.len_ ts r #[vx]).run P w = .ok v' w ∧ VR ι n (.n 3 k) v' :=
  ⟨.int .i64 (k : Nat), by unfold Builtin.len_; simp [h0, run_underlying' ht, goInt], .nn 3 k⟩
theorem capA_run {t e r : TypeId} {ts : Array TypeId} {x v : AV} {vx : Value} (h0 : ts[0]? = some t) (ht : P.underlying t = some (.slice e)) (h : capA x = some v) (hx : VR ι n x vx) : ∃ v', (Builtin.cap_ ts r #[vx]).run P w = .ok v' w ∧ VR ι n v v' := by
  unfold capA at h
  split at h <;> simp at h <;> subst h
  · cases hx with
    | slx _ _ _ _ _ => exact ⟨_, by unfold Builtin.cap_; simp [h0, run_underlying' ht, goInt]; rfl, .nn 3 _⟩
    | sli _ _ _ _ _ _ _ h1 _ _ => omega
  · cases hx; exact ⟨.int .i64 (0 : Nat), by unfold Builtin.cap_; simp [h0, run_underlying' ht, goInt], .nn 3 0⟩

theorem mmA_run {mx : Bool} {ts : Array TypeId} {r : TypeId} {x y v : AV} {vx vy : Value} (h : mmA mx x y = some v) (hx : VR ι n x vx) (hy : VR ι n y vy) :
    ∃ v', (if mx then (Builtin.max_ ts r #[vx, vy]) else (Builtin.min_ ts r #[vx, vy])).run P w = .ok v' w ∧ VR ι n v v' := by
  unfold mmA at h
  split at h <;> simp only [Option.some.injEq, reduceCtorEq] at h <;> subst h
  · cases hx; cases hy
    rename_i k a k' c
    cases mx with
    | false =>
      refine ⟨_, by simp [Builtin.min_, Builtin.min2]; rfl, ?_⟩
      have e := ble_dec (Nat.succ c) a
      by_cases hc : c < a
      · have : ((c : Int) < a) := by omega
        rw [e]; simp [hc, Nat.succ_le_iff]; exact .nn k c
      · have : ¬ ((c : Int) < a) := by omega
        rw [e]; simp [hc, Nat.succ_le_iff]; exact .nn k a
    | true =>
      refine ⟨_, by simp [Builtin.max_, Builtin.max2]; rfl, ?_⟩
      have e := ble_dec (Nat.succ a) c
      by_cases hc : a < c
      · have : ((a : Int) < c) := by omega
        rw [e]; simp [hc, Nat.succ_le_iff]; exact .nn k c
      · have : ¬ ((a : Int) < c) := by omega
        rw [e]; simp [hc, Nat.succ_le_iff]; exact .nn k a
  · cases hx; cases hy
    rename_i k a k' c
    cases mx with
    | false =>
      refine ⟨_, by simp [Builtin.min_, Builtin.min2]; rfl, ?_⟩
      have : (Int.negSucc c < (a : Int)) := by omega
      simp [this]; exact .z k c
    | true =>
      refine ⟨_, by simp [Builtin.max_, Builtin.max2]; rfl, ?_⟩
      have : ¬ ((a : Int) < Int.negSucc c) := by omega
      simp [this]; exact .nn k a
  · cases hx; cases hy
    rename_i k a k' c
    cases mx with
    | false =>
      refine ⟨_, by simp [Builtin.min_, Builtin.min2]; rfl, ?_⟩
      have : ¬ ((c : Int) < Int.negSucc a) := by omega
      simp [this]; exact .z k a
    | true =>
      refine ⟨_, by simp [Builtin.max_, Builtin.max2]; rfl, ?_⟩
      have : (Int.negSucc a < (c : Int)) := by omega
      simp [this]; exact .nn k c

end
end Go.Ev

/-
  Operations that touch no memory: all of them.
-/
namespace Go.Ev

/-- operands against the frame -/
def OpR (E : Env) (pre : Pre) (R : List AV) (tm : Tm) (ρ : Operand → Value) (ι : Io) (n : Dom) : Prop := ∀ x a, cA E pre x = some a → VR ι n (evA a R tm) (ρ x)

section
variable {E : Env} {pre : Pre} {R : List AV} {tm : Tm} {ρ : Operand → Value} {ι : Io} {n : Dom}

theorem cL_rel (h : OpR E pre R tm ρ ι n) : ∀ (xs : List Operand) (as : List OA), cL E pre xs = some as → VRs ι n (evL as R tm) (xs.map ρ) := by
  intro xs
  induction xs with
  | nil => intro as ha; simp [cL] at ha; subst ha; exact .nil
  | cons x r ih =>
    intro as ha
    unfold cL at ha
    split at ha
    · rename_i a l h1 h2
      simp at ha; subst ha
      exact .cons _ _ _ _ (h x a h1) (ih l h2)
    · simp at ha

theorem cQ_rel (h : OpR E pre R tm ρ ι n) {x : Option Operand} {a : Option OA} (ha : cQ E pre x = some a) : OpO ι n (evO a R tm) (x.map ρ) := by
  cases x with
  | none => simp [cQ] at ha; subst ha; exact .inl ⟨rfl, rfl⟩
  | some x =>
    simp only [cQ] at ha
    cases h1 : cA E pre x with
    | none => simp [h1] at ha
    | some b => simp [h1] at ha; subst ha; exact .inr ⟨_, _, rfl, rfl, h x b h1⟩
theorem cQ_some {x : Option Operand} {a : Option OA} (ha : cQ E pre x = some a) : (evO a R tm).isSome = x.isSome := by
  cases x with
  | none => simp [cQ] at ha; subst ha; rfl
  | some x =>
    simp only [cQ] at ha
    cases h1 : cA E pre x with
    | none => simp [h1] at ha
    | some b => simp [h1] at ha; subst ha; rfl

theorem cPS_rel (h : OpR E pre R tm ρ ι n) (pl : List (Nat × Nat)) : ∀ (xs : List (Nat × Operand)) (ps : List PT), cPS E pre pl xs = some ps → PartsR ι n (fun i => pl[i]?) (evP ps R tm) (xs.map fun (i, x) => (i, ρ x)) := by
  intro xs
  induction xs with
  | nil => intro ps hp; simp [cPS] at hp; subst hp; exact .nil
  | cons x r ih =>
    obtain ⟨i, x⟩ := x
    intro ps hp
    unfold cPS at hp
    split at hp
    · rename_i off k a l h1 h2 h3
      simp at hp; subst hp
      exact .cons _ _ _ _ _ _ _ h1 (h x a h2) (ih l h3)
    · simp at hp
theorem cPA_rel (h : OpR E pre R tm ρ ι n) (k : Nat) : ∀ (xs : List (Nat × Operand)) (ps : List PT), cPA E pre k xs = some ps → PartsR ι n (fun i => some (i * k, k)) (evP ps R tm) (xs.map fun (i, x) => (i, ρ x)) := by
  intro xs
  induction xs with
  | nil => intro ps hp; simp [cPA] at hp; subst hp; exact .nil
  | cons x r ih =>
    obtain ⟨i, x⟩ := x
    intro ps hp
    unfold cPA at hp
    split at hp
    · rename_i a l h2 h3
      simp at hp; subst hp
      exact .cons _ _ _ _ _ _ _ rfl (h x a h2) (ih l h3)
    · simp at hp

/-- what an operation without memory comes to -/
def PureOk (E : Env) (pre : Pre) (R : List AV) (tm : Tm) (o : Oper) (i : I) : Prop :=
  ∃ pv : Option AV, (∀ S w k, exI i S R tm w k = opt1 pv w k) ∧ ∀ v, pv = some v → ∀ ρ ι n, OpR E pre R tm ρ ι n → ∀ W, ∃ v', (execOp ρ o).run E.P W = .ok (.value v') W ∧ VR ι n v v'

theorem eqGuard_run {P : Program} {w : World} {op : BinOp} {t : TypeId} {x y : Operand} {a b : Value} (h : ∀ cs, a ≠ .agg cs) (h' : a ≠ .nilIface) : (eqGuard op t x y a b).run P w = .ok () w := by
  unfold eqGuard
  cases op <;> simp <;> (cases a <;> cases b <;> simp_all)

theorem run_val {P : Program} {w : World} {s : Sem Value} {v : Value} (h : s.run P w = .ok v w) : (do pure (Next.value (← s)) : Sem Next).run P w = .ok (.value v) w := by simp [h]

theorem binOk {o : Oper} {op : BinOp} {t t' : TypeId} {x y : Operand} {a b : OA} (ho : o.op = .binOp op t x y t') (h1 : cA E pre x = some a) (h2 : cA E pre y = some b) : PureOk E pre R tm o (.bin op a b) := by
  refine ⟨binF op (evA a R tm) (evA b R tm), fun _ _ _ => rfl, fun v hv ρ ι n h W => ?_⟩
  obtain ⟨v', e1, e2, k, i, k', i', e3, e4⟩ := binS_run (P := E.P) (w := W) (t := t) (binF_slow hv) (h x a h1) (h y b h2)
  refine ⟨v', ?_, e2⟩
  unfold execOp
  simp only [ho]
  refine run_val ?_
  rw [Sem.run_bind, eqGuard_run (by rw [e3]; simp) (by rw [e3]; simp)]
  exact e1

theorem eqA_run {P : Program} {w : World} {neg : Bool} {kind : Nat} {op : BinOp} {t : TypeId} {d : TypeDesc} {ox oy : Operand} {a b v : AV} {va vb : Value} (hop : op = if neg then .neq else .eql) (hd : P.underlying t = some d)
    (hty : (kind = 0 → ∃ e, d = .slice e) ∧ (kind = 1 → ∃ e, d = .pointer e) ∧ (kind = 2 → d = .bool)) (hv : eqA kind neg a b = some v) (ha : VR ι n a va) (hb : VR ι n b vb) :
    ∃ v', (do eqGuard op t ox oy va vb; Go.binOp op t va vb).run P w = .ok v' w ∧ VR ι n v v' := by
  unfold eqA at hv
  split at hv
  · rename_i r hr
    simp only [Option.some.injEq] at hv
    subst hv
    obtain ⟨e1, e2⟩ := sameA_run (P := P) (w := w) hd hr ha hb hty
    refine ⟨.bool (r != neg), ?_, .b _⟩
    have g : (eqGuard op t ox oy va vb).run P w = .ok () w := by
      unfold sameA at hr
      split at hr <;> simp at hr <;> (refine eqGuard_run ?_ ?_ <;> (cases ha <;> simp))
    rw [Sem.run_bind, g]
    simp only [Result.andThen_ok]
    unfold sameA at hr
    cases neg <;> simp at hop <;> subst hop
    · split at hr <;> simp at hr <;> cases ha <;> cases hb <;> simp [Go.binOp, e1]
    · split at hr <;> simp at hr <;> cases ha <;> cases hb <;> simp [Go.binOp, e1]
  · simp at hv

theorem eqkOk {o : Oper} {neg : Bool} {kind : Nat} {op : BinOp} {t t' : TypeId} {d : TypeDesc} {x y : Operand} {a b : OA} (ho : o.op = .binOp op t x y t') (hop : op = if neg then .neq else .eql) (hd : E.P.underlying t = some d)
    (hty : (kind = 0 → ∃ e, d = .slice e) ∧ (kind = 1 → ∃ e, d = .pointer e) ∧ (kind = 2 → d = .bool)) (h1 : cA E pre x = some a) (h2 : cA E pre y = some b) : PureOk E pre R tm o (.eqk kind neg a b) := by
  refine ⟨eqA kind neg (evA a R tm) (evA b R tm), fun _ _ _ => rfl, fun v hv ρ ι n h W => ?_⟩
  obtain ⟨v', e1, e2⟩ := eqA_run (P := E.P) (w := W) (ox := x) (oy := y) hop hd hty hv (h x a h1) (h y b h2)
  refine ⟨v', ?_, e2⟩
  unfold execOp
  simp only [ho]
  exact run_val e1

theorem onB_eq (c : AV) (k : Bool → RC) : onB (β := RC) .no k c = match toB c with
    | .ok t => k t
    | .no => .no := by
  unfold onB; cases toB c <;> rfl

theorem nilcA_run {P : Program} {w : World} {x v : AV} {vx : Value} {o : Oper} {ox : Operand} (ho : o.op = .nilCheck ox) (hρ : ρ ox = vx) (h : nilcA x = some v) (hx : VR ι n x vx) : ∃ v', (execOp ρ o).run P w = .ok (.value v') w ∧ VR ι n v v' := by
  unfold nilcA at h
  split at h <;> simp at h <;> subst h
  · cases hx
    rename_i hl
    exact ⟨_, by unfold execOp; simp only [ho, hρ]; rfl, .p _ _ hl⟩
  · cases hx
    rename_i h1 h2
    exact ⟨_, by unfold execOp; simp only [ho, hρ]; rfl, .f _ _ _ _ _ h1 h2⟩

/-- a call of a builtin -/
theorem builtin_run {P : Program} {w : World} {o : Oper} {c : Call} {b : Builtin} (ho : o.op = .call c) (hc : c.callee = .builtin b) :
    (execOp ρ o).run P w = (Go.builtin b c.argTypes o.type (c.args.map fun | .const _ => true | _ => false) (c.args.map ρ)).run P w := by
  unfold execOp
  simp only [ho]
  unfold resolve
  simp [hc, Go.invoke]
  rfl

theorem pure_sound {o : Oper} {i : I} (hc : cOp E pre o = some i) (hk : kindI i = 0) : PureOk E pre R tm o i := by
  have mv : ∀ {x : Operand} {a : OA}, (o.op = .move x ∨ o.op = .assign x) → cA E pre x = some a → PureOk E pre R tm o (.mv a) := by
    intro x a ho ha
    refine ⟨some (evA a R tm), fun _ _ _ => rfl, fun v hv ρ ι n h W => ⟨ρ x, ?_, ?_⟩⟩
    · unfold execOp; rcases ho with ho | ho <;> simp [ho]
    · simp only [Option.some.injEq] at hv; subst hv; exact h x a ha
  unfold cOp at hc
  cases ho : o.op <;> simp only [ho] at hc
  case move x =>
    cases h1 : cA E pre x <;> simp [h1] at hc
    subst hc; exact mv (.inl ho) h1
  case assign x =>
    cases h1 : cA E pre x <;> simp [h1] at hc
    subst hc; exact mv (.inr ho) h1
  case pick c a b =>
    cases h1 : cA E pre c <;> cases h2 : cA E pre a <;> cases h3 : cA E pre b <;> simp [h1, h2, h3] at hc
    rename_i c' a' b'
    subst hc
    refine ⟨(match toB (evA c' R tm) with
      | .ok t => some (if t then evA a' R tm else evA b' R tm)
      | .no => none), fun S w k => ?_, fun v hv ρ ι n h W => ?_⟩
    · show onB (β := RC) .no _ _ = _
      rw [onB_eq]
      cases toB (evA c' R tm) with
      | no => rfl
      | ok t => cases t <;> rfl
    · cases hb : toB (evA c' R tm) with
      | no => simp [hb] at hv
      | ok t =>
        simp only [hb, Option.some.injEq] at hv
        have hcv := h c c' h1
        rw [toB_ok hb] at hcv
        revert hcv
        generalize hρ : ρ c = vc
        intro hcv
        cases hcv
        refine ⟨if t then ρ a else ρ b, ?_, ?_⟩
        · unfold execOp; simp [ho, hρ, asBool]
        · subst hv; cases t
          · exact h b b' h3
          · exact h a a' h2
  case nilCheck x =>
    cases h1 : cA E pre x <;> simp [h1] at hc
    subst hc
    exact ⟨nilcA (evA _ R tm), fun _ _ _ => rfl, fun v hv ρ ι n h W => nilcA_run ho rfl hv (h x _ h1)⟩
  case binOp op t x y t' =>
    have bn : ∀ {i}, (do pure (I.bin op (← cA E pre x) (← cA E pre y)) : Option I) = some i → PureOk E pre R tm o i := by
      intro i hi
      cases h1 : cA E pre x <;> cases h2 : cA E pre y <;> simp [h1, h2] at hi
      subst hi; exact binOk ho h1 h2
    have ek : ∀ {i} {kind : Nat} {neg : Bool} {d : TypeDesc}, (op = if neg then .neq else .eql) → E.P.underlying t = some d → ((kind = 0 → ∃ e, d = .slice e) ∧ (kind = 1 → ∃ e, d = .pointer e) ∧ (kind = 2 → d = .bool)) →
        (do pure (I.eqk kind neg (← cA E pre x) (← cA E pre y)) : Option I) = some i → PureOk E pre R tm o i := by
      intro i kind neg d hop hd hty hi
      cases h1 : cA E pre x <;> cases h2 : cA E pre y <;> simp [h1, h2] at hi
      subst hi; exact eqkOk ho hop hd hty h1 h2
    split at hc
    · rename_i hd; exact ek rfl hd ⟨by simp, by simp, by simp⟩ hc
    · rename_i hd; exact ek rfl hd ⟨by simp, by simp, by simp⟩ hc
    · rename_i hd; exact ek rfl hd ⟨by simp, by simp, by simp⟩ hc
    · rename_i hd; exact ek (neg := true) rfl hd ⟨by simp, by simp, by simp⟩ hc
    · rename_i hd; exact ek (neg := true) rfl hd ⟨by simp, by simp, by simp⟩ hc
    · rename_i hd; exact ek (neg := true) rfl hd ⟨by simp, by simp, by simp⟩ hc
    · exact bn hc
  case unOp op t x =>
    cases h1 : cA E pre x <;> simp [h1] at hc
    subst hc
    refine ⟨unA op (evA _ R tm), fun _ _ _ => rfl, fun v hv ρ ι n h W => ?_⟩
    obtain ⟨v', e1, e2⟩ := unA_run (P := E.P) (w := W) hv (h x _ h1)
    exact ⟨v', by unfold execOp; simp only [ho]; exact run_val e1, e2⟩
  case convert s d x =>
    split at hc
    · rename_i ds k hs hd
      cases h1 : cA E pre x <;> simp [h1] at hc
      subst hc
      refine ⟨convA (kc k) (evA _ R tm), fun _ _ _ => rfl, fun v hv ρ ι n h W => ?_⟩
      obtain ⟨v', e1, e2⟩ := convA_run (P := E.P) (w := W) hs hd hv (h x _ h1)
      exact ⟨v', by unfold execOp; simp only [ho]; exact run_val e1, e2⟩
    · simp at hc
  case makeFunc fn first cap =>
    split at hc
    · rename_i f
      cases h1 : cL E pre first.toList <;> cases h2 : cL E pre cap.toList <;> simp [h1, h2] at hc
      subst hc
      refine ⟨some (.f f (evL _ R tm) (evL _ R tm)), fun _ _ _ => rfl, fun v hv ρ ι n h W => ⟨.func (.func f) (first.map ρ) (cap.map ρ), ?_, ?_⟩⟩
      · unfold execOp; simp [ho, Instr.makeFunc]
      · simp only [Option.some.injEq] at hv; subst hv
        refine .f _ _ _ _ _ ?_ ?_
        · rw [Array.toList_map]; exact cL_rel h _ _ h1
        · rw [Array.toList_map]; exact cL_rel h _ _ h2
    · simp at hc
  case slice t x lo hi mx =>
    split at hc
    · simp at hc
    rename_i hmx
    have hxx : ∀ {c d : Option OA}, cQ E pre mx = some c → cQ E pre hi = some d → (evO c R tm).isSome = true → (evO d R tm).isSome = true := by
      intro c d h1 h2 h3
      rw [cQ_some h1] at h3
      rw [cQ_some h2]
      cases hi <;> simp_all
    split at hc
    · rename_i len e ht
      cases h1 : sizeA E.P e <;> cases h2 : cA E pre x <;> cases h3 : cQ E pre lo <;> cases h4 : cQ E pre hi <;> cases h5 : cQ E pre mx <;> simp [h1, h2, h3, h4, h5] at hc
      subst hc
      refine ⟨slcArr _ _ (evA _ R tm) (evO _ R tm) (evO _ R tm) (evO _ R tm), fun _ _ _ => rfl, fun v hv ρ ι n h W => ?_⟩
      obtain ⟨v', e1, e2⟩ := slcArr_run (P := E.P) (w := W) ht h1 hv (h x _ h2) (cQ_rel h h3) (cQ_rel h h4) (cQ_rel h h5) (hxx h5 h4)
      exact ⟨v', by unfold execOp; simp only [ho]; exact run_val e1, e2⟩
    · rename_i e ht
      cases h1 : sizeA E.P e <;> cases h2 : cA E pre x <;> cases h3 : cQ E pre lo <;> cases h4 : cQ E pre hi <;> cases h5 : cQ E pre mx <;> simp [h1, h2, h3, h4, h5] at hc
      subst hc
      refine ⟨slcSl _ (evA _ R tm) (evO _ R tm) (evO _ R tm) (evO _ R tm), fun _ _ _ => rfl, fun v hv ρ ι n h W => ?_⟩
      obtain ⟨v', e1, e2⟩ := slcSl_run (P := E.P) (w := W) ht h1 hv (h x _ h2) (cQ_rel h h3) (cQ_rel h h4) (cQ_rel h h5) (hxx h5 h4)
      exact ⟨v', by unfold execOp; simp only [ho]; exact run_val e1, e2⟩
    · simp at hc
  case fieldAddr t x i =>
    split at hc
    · rename_i fs ht
      split at hc
      · rename_i f hf
        split at hc
        · rename_i k hz
          split at hc
          · simp at hc
          · rename_i h0
            cases h1 : cA E pre x <;> simp [h1] at hc
            subst hc
            refine ⟨faA f.offset (evA _ R tm), fun _ _ _ => rfl, fun v hv ρ ι n h W => ?_⟩
            obtain ⟨v', e1, e2⟩ := faA_run (P := E.P) (w := W) ht hf hz h0 hv (h x _ h1)
            exact ⟨v', by unfold execOp; simp only [ho]; exact run_val e1, e2⟩
        · simp at hc
      · simp at hc
    · simp at hc
  case field t x i =>
    split at hc
    · rename_i fs ht
      split at hc
      · rename_i f hf
        cases h1 : cA E pre x <;> cases h2 : sizeA E.P f.type <;> cases h3 : aggB E.P f.type <;> simp [h1, h2, h3] at hc
        subst hc
        refine ⟨fldA _ _ f.offset (evA _ R tm), fun _ _ _ => rfl, fun v hv ρ ι n h W => ?_⟩
        obtain ⟨v', e1, e2⟩ := fldA_run (P := E.P) (w := W) ht hf h3 h2 hv (h x _ h1)
        exact ⟨v', by unfold execOp; simp only [ho]; exact run_val e1, e2⟩
      · simp at hc
    · simp at hc
  case indexAddr t x i =>
    split at hc
    · rename_i len e ht
      cases h1 : cA E pre x <;> cases h2 : sizeA E.P e <;> cases h3 : cA E pre i <;> simp [h1, h2, h3] at hc
      subst hc
      refine ⟨iaArr _ _ (evA _ R tm) (evA _ R tm), fun _ _ _ => rfl, fun v hv ρ ι n h W => ?_⟩
      obtain ⟨v', e1, e2⟩ := iaArr_run (P := E.P) (w := W) ht h2 hv (h x _ h1) (h i _ h3)
      exact ⟨v', by unfold execOp; simp only [ho]; exact run_val e1, e2⟩
    · rename_i e ht
      cases h1 : cA E pre x <;> cases h2 : sizeA E.P e <;> cases h3 : cA E pre i <;> simp [h1, h2, h3] at hc
      subst hc
      refine ⟨iaSl _ (evA _ R tm) (evA _ R tm), fun _ _ _ => rfl, fun v hv ρ ι n h W => ?_⟩
      obtain ⟨v', e1, e2⟩ := iaSl_run (P := E.P) (w := W) ht h2 hv (h x _ h1) (h i _ h3)
      exact ⟨v', by unfold execOp; simp only [ho]; exact run_val e1, e2⟩
    · simp at hc
  case index t x i =>
    split at hc
    · rename_i len e ht
      cases h1 : cA E pre x <;> cases h2 : sizeA E.P e <;> cases h3 : cA E pre i <;> cases h4 : aggB E.P e <;> simp [h1, h2, h3, h4] at hc
      subst hc
      refine ⟨idxA _ _ _ (evA _ R tm) (evA _ R tm), fun _ _ _ => rfl, fun v hv ρ ι n h W => ?_⟩
      obtain ⟨v', e1, e2⟩ := idxA_run (P := E.P) (w := W) ht h4 h2 hv (h x _ h1) (h i _ h3)
      exact ⟨v', by unfold execOp; simp only [ho]; exact run_val e1, e2⟩
    · simp at hc
  case extract x i =>
    cases h1 : cA E pre x <;> simp [h1] at hc
    subst hc
    refine ⟨extA i (evA _ R tm), fun _ _ _ => rfl, fun v hv ρ ι n h W => ?_⟩
    obtain ⟨v', e1, e2⟩ := extA_run (P := E.P) (w := W) hv (h x _ h1)
    exact ⟨v', by unfold execOp; simp only [ho]; exact run_val e1, e2⟩
  case build t ps =>
    split at hc
    · rename_i fs ht
      cases h1 : zeroA E.P t <;> cases h2 : placesL E.P fs.toList <;> simp [h1, h2] at hc
      rename_i z pl
      cases h3 : cPS E pre pl ps.toList <;> simp [h3] at hc
      rename_i l
      subst hc
      refine ⟨buildA _ (evP l R tm), fun _ _ _ => rfl, fun v hv ρ ι n h W => ?_⟩
      obtain ⟨v', e1, e2⟩ := buildS_run (P := E.P) (w := W) (parts := ps.map fun (i, x) => (i, ρ x)) ht h1 h2 (by rw [Array.toList_map]; exact cPS_rel h _ _ _ h3) hv
      exact ⟨v', by unfold execOp; simp only [ho]; exact run_val e1, e2⟩
    · rename_i len e ht
      cases h1 : zeroA E.P t <;> cases h2 : sizeA E.P e <;> simp [h1, h2] at hc
      rename_i z k
      cases h3 : cPA E pre k ps.toList <;> simp [h3] at hc
      rename_i l
      subst hc
      refine ⟨buildA _ (evP l R tm), fun _ _ _ => rfl, fun v hv ρ ι n h W => ?_⟩
      obtain ⟨v', e1, e2⟩ := buildA_run (P := E.P) (w := W) (parts := ps.map fun (i, x) => (i, ρ x)) ht h1 h2 (by rw [Array.toList_map]; exact cPA_rel h _ _ _ h3) hv
      exact ⟨v', by unfold execOp; simp only [ho]; exact run_val e1, e2⟩
    · simp at hc
  case call c =>
    split at hc
    · rename_i f hf
      cases h1 : cA E pre f <;> cases h2 : cL E pre c.args.toList <;> simp [h1, h2] at hc
      subst hc; simp [kindI] at hk
    · rename_i b hb
      have hrun := fun ρ W => builtin_run (ρ := ρ) (P := E.P) (w := W) ho hb
      have args1 : ∀ {ρ : Operand → Value} {x}, c.args.toList = [x] → c.args.map ρ = #[ρ x] := fun {ρ x} e => by
        apply Array.toList_inj.1; simp [e]
      have args2 : ∀ {ρ : Operand → Value} {x y}, c.args.toList = [x, y] → c.args.map ρ = #[ρ x, ρ y] := fun {ρ x y} e => by
        apply Array.toList_inj.1; simp [e]
      have ty0 : ∀ {t r}, c.argTypes.toList = t :: r → c.argTypes[0]? = some t := fun {t r} e => by
        rw [← Array.getElem?_toList, e]; rfl
      split at hc
      · rename_i x t ea et
        split at hc
        · rename_i k e ht
          simp at hc; subst hc
          refine ⟨some (.n 3 k), fun _ _ _ => rfl, fun v hv ρ ι n h W => ?_⟩
          simp only [Option.some.injEq] at hv; subst hv
          obtain ⟨v', e1, e2⟩ := lenc_run (ι := ι) (n := n) (P := E.P) (w := W) (r := o.type) (vx := ρ x) (ty0 et) ht
          exact ⟨v', by rw [hrun, args1 ea]; exact run_val e1, e2⟩
        · rename_i e ht
          cases h1 : cA E pre x <;> simp [h1] at hc
          subst hc
          refine ⟨lenA (evA _ R tm), fun _ _ _ => rfl, fun v hv ρ ι n h W => ?_⟩
          obtain ⟨v', e1, e2⟩ := lenA_run (P := E.P) (w := W) (r := o.type) (ty0 et) ht hv (h x _ h1)
          exact ⟨v', by rw [hrun, args1 ea]; exact run_val e1, e2⟩
        · simp at hc
      · rename_i x t ea et
        split at hc
        · rename_i e ht
          cases h1 : cA E pre x <;> simp [h1] at hc
          subst hc
          refine ⟨capA (evA _ R tm), fun _ _ _ => rfl, fun v hv ρ ι n h W => ?_⟩
          obtain ⟨v', e1, e2⟩ := capA_run (P := E.P) (w := W) (r := o.type) (ty0 et) ht hv (h x _ h1)
          exact ⟨v', by rw [hrun, args1 ea]; exact run_val e1, e2⟩
        · simp at hc
      · rename_i x y ea
        cases h1 : cA E pre x <;> cases h2 : cA E pre y <;> simp [h1, h2] at hc
        subst hc
        refine ⟨mmA false (evA _ R tm) (evA _ R tm), fun _ _ _ => rfl, fun v hv ρ ι n h W => ?_⟩
        obtain ⟨v', e1, e2⟩ := mmA_run (P := E.P) (w := W) (ts := c.argTypes) (r := o.type) hv (h x _ h1) (h y _ h2)
        exact ⟨v', by rw [hrun, args2 ea]; exact run_val e1, e2⟩
      · rename_i x y ea
        cases h1 : cA E pre x <;> cases h2 : cA E pre y <;> simp [h1, h2] at hc
        subst hc
        refine ⟨mmA true (evA _ R tm) (evA _ R tm), fun _ _ _ => rfl, fun v hv ρ ι n h W => ?_⟩
        obtain ⟨v', e1, e2⟩ := mmA_run (P := E.P) (w := W) (ts := c.argTypes) (r := o.type) hv (h x _ h1) (h y _ h2)
        exact ⟨v', by rw [hrun, args2 ea]; exact run_val e1, e2⟩
      all_goals (revert hc; (repeat' split) <;> intro hc <;> first
        | (simp at hc; done)
        | (simp [Option.bind_eq_some_iff, Option.map_eq_some_iff] at hc; obtain ⟨_, _, _, _, hc⟩ := hc; subst hc; simp [kindI] at hk; done)
        | (simp [Option.map_eq_some_iff] at hc; obtain ⟨_, _, hc⟩ := hc; subst hc; simp [kindI] at hk; done))
    · simp at hc
  all_goals (revert hc; (repeat' split) <;> intro hc <;> first
    | (simp at hc; done)
    | (simp at hc; subst hc; simp [kindI] at hk; done)
    | (simp [Option.bind_eq_some_iff, Option.map_eq_some_iff] at hc; obtain ⟨_, _, _, _, _, _, hc⟩ := hc; subst hc; simp [kindI] at hk; done)
    | (simp [Option.bind_eq_some_iff, Option.map_eq_some_iff] at hc; obtain ⟨_, _, _, _, hc⟩ := hc; subst hc; simp [kindI] at hk; done)
    | (simp [Option.bind_eq_some_iff, Option.map_eq_some_iff] at hc; obtain ⟨_, _, hc⟩ := hc; subst hc; simp [kindI] at hk; done))

end
end Go.Ev

/-
  Memory: edits, their effect on the evaluator's memory and on the model's.
-/
namespace Go.Ev

/-! ## Edits -/

inductive Ed where
  | put (id : Nat) (s : Sh) (f : Nat → AV)
  | wr (id off : Nat) (vs : List AV)

def Mem.wr (M : Mem) (id off : Nat) (vs : List AV) : Mem :=
  { sh := M.sh, cel := fun j o => if j = id ∧ off ≤ o ∧ o < off + vs.length then vs.getD (o - off) .u else M.cel j o }

def Ed.ap (e : Ed) (M : Mem) : Mem := match e with
  | .put id s f => M.put id s f
  | .wr id off vs => M.wr id off vs

def aps : List Ed → Mem → Mem
  | [], M => M
  | e :: r, M => aps r (e.ap M)

noncomputable def W.add (o : AO) (w : W) : W := .mk (TR.set .no o (pathOf w.nx) w.hp) (w.nx + 1) w.bs w.wl
noncomputable def W.set (id off n : Nat) (o : AO) (w : W) : W := .mk (TR.set .no o (pathOf id) w.hp) w.nx w.bs (note id off n w.bs w.wl)

theorem newO_eq (o : AO) (w : W) (k : Nat → W → RV) : newO o w k = k w.nx (w.add o) := by
  cases w
  unfold newO
  simp only [TR.force_eq]
  rfl
theorem putO_eq (id off n : Nat) (o : AO) (w : W) (k : W → RV) : putO id off n o w k = if roN ≤ id then k (w.set id off n o) else .no := by
  cases w
  unfold putO
  simp only [TR.force_eq, ble_dec]
  by_cases h : roN ≤ id
  · simp only [h, decide_true, if_true]; rfl
  · simp only [h, decide_false, if_false]

@[simp] theorem W.ob_add (o : AO) (w : W) (id : Nat) : (w.add o).ob id = if id = w.nx then o else w.ob id := TR.get_setN _ _ _ _ _
@[simp] theorem W.ob_set (i off n : Nat) (o : AO) (w : W) (id : Nat) : (w.set i off n o).ob id = if id = i then o else w.ob id := TR.get_setN _ _ _ _ _
@[simp] theorem W.nx_add (o : AO) (w : W) : (w.add o).nx = w.nx + 1 := rfl
@[simp] theorem W.nx_set (i off n : Nat) (o : AO) (w : W) : (w.set i off n o).nx = w.nx := rfl
@[simp] theorem W.bs_add (o : AO) (w : W) : (w.add o).bs = w.bs := rfl
@[simp] theorem W.bs_set (i off n : Nat) (o : AO) (w : W) : (w.set i off n o).bs = w.bs := rfl
@[simp] theorem W.wl_add (o : AO) (w : W) : (w.add o).wl = w.wl := rfl
@[simp] theorem W.wl_set (i off n : Nat) (o : AO) (w : W) : (w.set i off n o).wl = note i off n w.bs w.wl := rfl

theorem W.mem_add (o : AO) (w : W) : (w.add o).mem = w.mem.put w.nx (shOf o) (celOf o) := by
  apply Mem.ext
  · intro id; simp only [W.mem, W.ob_add, Mem.put]; split <;> rfl
  · intro id off; simp only [W.mem, W.ob_add, Mem.put]; split <;> rfl
theorem W.mem_set (i off n : Nat) (o : AO) (w : W) : (w.set i off n o).mem = w.mem.put i (shOf o) (celOf o) := by
  apply Mem.ext
  · intro id; simp only [W.mem, W.ob_set, Mem.put]; split <;> rfl
  · intro id off; simp only [W.mem, W.ob_set, Mem.put]; split <;> rfl

/-! ## Cells -/

theorem loadL_spec (t : TR AV) : ∀ (n off : Nat) (l : List AV), loadL t n off = some l → l.length = n ∧ ∀ i, i < n → l[i]? = some (TR.get .u (pathOf (off + i)) t) ∧ isU (TR.get .u (pathOf (off + i)) t) = false := by
  intro n
  induction n with
  | zero => intro off l h; change some [] = some l at h; simp only [Option.some.injEq] at h; subst h; simp
  | succ n ih =>
    intro off l h
    change (Bool.rec (Option.rec none (fun r => some (TR.get .u (pathOf off) t :: r)) (loadL t n (Nat.succ off))) none (isU (TR.get .u (pathOf off) t)) : Option (List AV)) = some l at h
    cases hu : isU (TR.get .u (pathOf off) t) with
    | true => simp [hu] at h
    | false =>
      cases hr : loadL t n (off + 1) with
      | none => simp [hu, hr] at h
      | some r =>
        simp [hu, hr] at h
        subst h
        obtain ⟨h1, h2⟩ := ih (off + 1) r hr
        refine ⟨by simp [h1], fun i hi => ?_⟩
        cases i with
        | zero => simp [hu]
        | succ i =>
          have := h2 i (by omega)
          rw [show off + (i + 1) = off + 1 + i by omega]
          simpa using this

theorem storeL_spec : ∀ (vs : List AV) (t : TR AV) (off : Nat) (t' : TR AV), storeL vs t off = some t' →
    (∀ v ∈ vs, okC v = true) ∧ (∀ i, i < vs.length → isU (TR.get .u (pathOf (off + i)) t) = false) ∧
    (∀ o, TR.get .u (pathOf o) t' = if off ≤ o ∧ o < off + vs.length then vs.getD (o - off) .u else TR.get .u (pathOf o) t) := by
  intro vs
  induction vs with
  | nil => intro t off t' h; simp [storeL] at h; subst h; simp; intro o h1 h2; omega
  | cons v r ih =>
    intro t off t' h
    change (Bool.rec (Bool.rec none (TR.force (fun t' => storeL r t' (Nat.succ off)) (TR.set .u v (pathOf off) t)) (okC v)) none (isU (TR.get .u (pathOf off) t)) : Option (TR AV)) = some t' at h
    rw [TR.force_eq] at h
    cases hu : isU (TR.get .u (pathOf off) t) with
    | true => simp [hu] at h
    | false =>
      cases hv : okC v with
      | false => simp [hu, hv] at h
      | true =>
        simp only [hu, hv] at h
        obtain ⟨h1, h2, h3⟩ := ih _ _ _ h
        refine ⟨?_, ?_, ?_⟩
        · intro x hx; rcases List.mem_cons.1 hx with e | e
          · exact e ▸ hv
          · exact h1 x e
        · intro i hi
          cases i with
          | zero => exact hu
          | succ i =>
            have := h2 i (by simpa using hi)
            rw [TR.get_setN] at this
            have e : off + 1 + i = off + (i + 1) := by omega
            rw [Nat.succ_eq_add_one, e] at this
            simpa [show ¬ off + (i + 1) = off by omega] using this
        · intro o
          rw [h3 o, TR.get_setN]
          simp only [Nat.succ_eq_add_one, List.length_cons]
          by_cases e : o = off
          · subst e; simp [show ¬ (o + 1 ≤ o ∧ o < o + 1 + r.length) by omega, show o ≤ o ∧ o < o + (r.length + 1) by omega]
          · by_cases h4 : off + 1 ≤ o ∧ o < off + 1 + r.length
            · have h5 : off ≤ o ∧ o < off + (r.length + 1) := by omega
              simp only [h4, h5, and_self, if_true]
              rw [show o - off = (o - (off + 1)) + 1 by omega]
              simp
            · have h5 : ¬ (off ≤ o ∧ o < off + (r.length + 1)) := by omega
              simp only [h4, h5, e, if_false]

theorem layL_spec : ∀ (vs : List AV) (t : TR AV) (off o : Nat), TR.get .u (pathOf o) (layL vs t off) = if off ≤ o ∧ o < off + vs.length then vs.getD (o - off) .u else TR.get .u (pathOf o) t := by
  intro vs
  induction vs with
  | nil => intro t off o; simp [layL]; intro h1 h2; omega
  | cons v r ih =>
    intro t off o
    change TR.get .u (pathOf o) (TR.force (fun t' => layL r t' (Nat.succ off)) (TR.set .u v (pathOf off) t)) = _
    rw [TR.force_eq, ih, TR.get_setN]
    simp only [Nat.succ_eq_add_one, List.length_cons]
    by_cases e : o = off
    · subst e; simp [show ¬ (o + 1 ≤ o ∧ o < o + 1 + r.length) by omega, show o ≤ o ∧ o < o + (r.length + 1) by omega]
    · by_cases h4 : off + 1 ≤ o ∧ o < off + 1 + r.length
      · have h5 : off ≤ o ∧ o < off + (r.length + 1) := by omega
        simp only [h4, h5, and_self, if_true]
        rw [show o - off = (o - (off + 1)) + 1 by omega]
        simp
      · have h5 : ¬ (off ≤ o ∧ o < off + (r.length + 1)) := by omega
        simp only [h4, h5, e, if_false]

theorem get_e (o : Nat) : TR.get (.u : AV) (pathOf o) .e = .u := by
  cases pathOf o <;> rfl

theorem celOf_mkCs (vs : List AV) (o : Nat) : celOf (mkCs vs) o = vs.getD o .u := by
  unfold mkCs celOf
  simp only [layL_spec, get_e]
  by_cases h : o < vs.length
  · simp [h]
  · simp [h]
theorem shOf_mkCs (vs : List AV) : shOf (mkCs vs) = .cs vs.length := by simp [mkCs, shOf, lenL_eq]

theorem W.mem_wr {w : W} {id off m : Nat} {vs : List AV} {t t' : TR AV} (h : w.ob id = .cs m t) (hs : storeL vs t off = some t') (n : Nat) :
    (w.set id off n (.cs m t')).mem = w.mem.wr id off vs := by
  rw [W.mem_set]
  obtain ⟨_, _, h3⟩ := storeL_spec _ _ _ _ hs
  apply Mem.ext
  · intro j
    simp only [Mem.put, Mem.wr, W.mem]
    split
    · rename_i e; subst e; rw [h]; rfl
    · rfl
  · intro j o
    simp only [Mem.put, Mem.wr, W.mem]
    by_cases e : j = id
    · subst e
      simp only [if_true, celOf, h3, h, true_and]
    · simp only [e, if_false, false_and]

def isLp : AO → Bool
  | .lp .. => true
  | _ => false
/-- records bear made code -/
def WfO (P : Program) (o : AO) : Prop := ∀ st pend tm ps as body, o = .lp st pend tm ps as body → ∃ (E : Env) (a b : Code), E.P = P ∧ E.rd = true ∧ Nat.testBit E.K dsI = false ∧ cC E a = some as ∧ cC E b = some body
structure WfW (P : Program) (w : W) : Prop where
  ob : ∀ id, WfO P (w.ob id)
  top : ∀ id, w.nx ≤ id → w.ob id = .no
theorem WfO.of_isLp {P : Program} {o : AO} (h : isLp o = false) : WfO P o := fun st pend tm ps as body e => by rw [e] at h; simp [isLp] at h

/-- what a run does to the evaluator's memory -/
inductive Eff : W → W → List Ed → Prop
  | nil (w : W) : Eff w w []
  | new (w w' : W) (o : AO) (es : List Ed) : isLp o = false → Eff (w.add o) w' es → Eff w w' (.put w.nx (shOf o) (celOf o) :: es)
  | put (w w' : W) (id : Nat) (o : AO) (es : List Ed) : roN ≤ id → w.ob id ≠ .no → isLp o = false → Eff (w.set id 0 0 o) w' es → Eff w w' (.put id (shOf o) (celOf o) :: es)
  | wr (w w' : W) (id off m : Nat) (vs : List AV) (t t' : TR AV) (es : List Ed) : roN ≤ id → vs ≠ [] → w.ob id = .cs m t → storeL vs t off = some t' →
      Eff (w.set id off vs.length (.cs m t')) w' es → Eff w w' (.wr id off vs :: es)

theorem Eff.mem {w w' : W} {es : List Ed} (h : Eff w w' es) : w'.mem = aps es w.mem := by
  induction h with
  | nil w => rfl
  | new w w' o es _ _ ih => rw [ih, W.mem_add]; rfl
  | put w w' id o es _ _ _ _ ih => rw [ih, W.mem_set]; rfl
  | wr w w' id off m vs t t' es _ _ h3 h4 _ ih => rw [ih, W.mem_wr h3 h4]; rfl

theorem Eff.nx {w w' : W} {es : List Ed} (h : Eff w w' es) : w.nx ≤ w'.nx := by
  induction h with
  | nil w => exact Nat.le_refl _
  | new w w' o es _ _ ih => simp at ih; omega
  | put w w' id o es _ _ _ _ ih => exact ih
  | wr w w' id off m vs t t' es _ _ h3 h4 _ ih => exact ih

theorem Eff.bs {w w' : W} {es : List Ed} (h : Eff w w' es) : w'.bs = w.bs := by
  induction h with
  | nil w => rfl
  | new w w' o es _ _ ih => exact ih
  | put w w' id o es _ _ _ _ ih => exact ih
  | wr w w' id off m vs t t' es _ _ h3 h4 _ ih => exact ih


/-- what is written, as it is noted -/
def wrS (wl : List L3) (id : Nat) : Prop := ∃ x ∈ wl, ∃ off, x = .mk id off 0
def wrC (wl : List L3) (id o : Nat) : Prop := ∃ x ∈ wl, ∃ off n, x = .mk id off n ∧ (n = 0 ∨ off ≤ o ∧ o < off + n)

theorem note_eq (id off n bs : Nat) (wl : List L3) : note id off n bs wl = if id < bs then .mk id off n :: wl else wl := by
  unfold note
  rw [ble_dec]
  by_cases h : id < bs
  · simp [h, Nat.succ_le_of_lt h]
  · simp [h, Nat.succ_le_iff]

/-- what becomes of the evaluator's memory -/
structure Chg (P : Program) (w w' : W) : Prop where
  wfo : (∀ id, WfO P (w.ob id)) → ∀ id, WfO P (w'.ob id)
  nx : w.nx ≤ w'.nx
  bs : w'.bs = w.bs
  top : (∀ id, w.nx ≤ id → w.ob id = .no) → ∀ id, w'.nx ≤ id → w'.ob id = .no
  wl : ∃ l, w'.wl = l ++ w.wl ∧ ∀ x ∈ l, roN ≤ idOf x ∧ idOf x < w.bs
  keep : ∀ id, id < w.bs → id < w.nx → (¬ wrS w'.wl id → w'.mem.sh id = w.mem.sh id) ∧ ∀ o, ¬ wrC w'.wl id o → w'.mem.cel id o = w.mem.cel id o

theorem Chg.wf {P : Program} {w w' : W} (h : Chg P w w') (hw : WfW P w) : WfW P w' := ⟨h.wfo hw.ob, h.top hw.top⟩

theorem Chg.refl {P : Program} (w : W) : Chg P w w := ⟨fun h => h, Nat.le_refl _, rfl, fun h => h, ⟨[], rfl, fun x hx => by cases hx⟩, fun _ _ _ => ⟨fun _ => rfl, fun _ _ => rfl⟩⟩

theorem Chg.trans {P : Program} {a b c : W} (h : Chg P a b) (h' : Chg P b c) : Chg P a c where
  wfo := fun hw => h'.wfo (h.wfo hw)
  nx := Nat.le_trans h.nx h'.nx
  bs := h'.bs.trans h.bs
  top := fun ht => h'.top (h.top ht)
  wl := by
    obtain ⟨l, e, f⟩ := h.wl
    obtain ⟨l', e', f'⟩ := h'.wl
    refine ⟨l' ++ l, by rw [e', e, List.append_assoc], fun x hx => ?_⟩
    rcases List.mem_append.1 hx with hx | hx
    · rw [← h.bs]; exact f' x hx
    · exact f x hx
  keep := fun id hb hn => by
    obtain ⟨l', e', _⟩ := h'.wl
    obtain ⟨k1, k2⟩ := h.keep id hb hn
    obtain ⟨k3, k4⟩ := h'.keep id (by rw [h.bs]; exact hb) (Nat.lt_of_lt_of_le hn h.nx)
    refine ⟨fun hw => (k3 hw).trans (k1 fun ⟨x, hx, off, e⟩ => hw ⟨x, by rw [e']; exact List.mem_append_right _ hx, off, e⟩), fun o hw => (k4 o hw).trans (k2 o fun ⟨x, hx, off, n, e⟩ => hw ⟨x, by rw [e']; exact List.mem_append_right _ hx, off, n, e⟩)⟩

theorem Chg.add {P : Program} {o : AO} (ho : WfO P o) (w : W) : Chg P w (w.add o) where
  wfo := fun hw id => by
    rw [W.ob_add]
    split
    · exact ho
    · exact hw id
  nx := Nat.le_succ _
  bs := rfl
  top := fun ht id hi => by
    simp only [W.nx_add] at hi
    rw [W.ob_add, if_neg (by omega)]
    exact ht id (by omega)
  wl := ⟨[], rfl, fun x hx => by cases hx⟩
  keep := fun id _ hn => by
    rw [W.mem_add]
    simp only [Mem.put, Nat.ne_of_lt hn, if_false]
    exact ⟨fun _ => trivial, fun _ _ => trivial⟩

theorem Chg.set {P : Program} {id off n : Nat} {o : AO} {w : W} (ho : WfO P o) (hro : roN ≤ id) (hne : w.ob id ≠ .no) (h : n = 0 ∨ (shOf o = w.mem.sh id ∧ ∀ x, ¬ (off ≤ x ∧ x < off + n) → celOf o x = w.mem.cel id x)) : Chg P w (w.set id off n o) where
  wfo := fun hw j => by
    rw [W.ob_set]
    split
    · exact ho
    · exact hw j
  nx := Nat.le_refl _
  bs := rfl
  top := fun ht j hj => by
    rw [W.ob_set]
    split
    · rename_i e; subst e; exact absurd (ht j hj) hne
    · exact ht j hj
  wl := by
    rw [W.wl_set, note_eq]
    split
    · rename_i hb
      exact ⟨[_], rfl, fun x hx => by simp at hx; subst hx; exact ⟨hro, hb⟩⟩
    · exact ⟨[], rfl, fun x hx => by cases hx⟩
  keep := fun j hb hn => by
    rw [W.mem_set, W.wl_set, note_eq]
    simp only [Mem.put]
    by_cases e : j = id
    · subst e
      simp only [if_true, hb]
      rcases h with rfl | ⟨h1, h2⟩
      · exact ⟨fun hw => absurd ⟨_, List.mem_cons_self, off, rfl⟩ hw, fun x hw => absurd ⟨_, List.mem_cons_self, off, 0, rfl, .inl rfl⟩ hw⟩
      · exact ⟨fun _ => h1, fun x hw => h2 x fun hx => hw ⟨_, List.mem_cons_self, off, n, rfl, .inr hx⟩⟩
    · simp only [e, if_false]
      exact ⟨fun _ => trivial, fun _ _ => trivial⟩

theorem Eff.chg {P : Program} {w w' : W} {es : List Ed} (h : Eff w w' es) : Chg P w w' := by
  induction h with
  | nil w => exact .refl w
  | new w w' o es ho _ ih => exact (Chg.add (.of_isLp ho) w).trans ih
  | put w w' id o es hro hne ho _ ih => exact (Chg.set (.of_isLp ho) hro hne (.inl rfl)).trans ih
  | wr w w' id off m vs t t' es hro _ h3 h4 _ ih =>
    obtain ⟨_, _, s3⟩ := storeL_spec _ _ _ _ h4
    refine (Chg.set (.of_isLp rfl) hro (by rw [h3]; simp) (.inr ⟨by simp [shOf, W.mem, h3], fun x hx => ?_⟩)).trans ih
    simp only [celOf, W.mem, h3, s3, hx, if_false]

/-! ## What is read -/

def agr (x : L3) (m M : Mem) : Prop := match x with
  | .mk id off n => M.sh id = m.sh id ∧ ∀ o, (n = 0 ∨ off ≤ o ∧ o < off + n) → M.cel id o = m.cel id o
def Agr (l : List L3) (m M : Mem) : Prop := ∀ x ∈ l, agr x m M

theorem VR.one {ι : Io} {n : Dom} {a : AV} {v : Value} (h : VR ι n a v) (hk : okC a = true) : v.oneCell' = true := by
  cases h <;> first
    | rfl
    | (simp [okC] at hk; done)

theorem VRs.one {ι : Io} {n : Dom} : ∀ {l : List AV} {vs : List Value}, VRs ι n l vs → (∀ a ∈ l, okC a = true) → ∀ v ∈ vs, v.oneCell' = true := by
  intro l
  induction l with
  | nil => intro vs h _; cases h; simp
  | cons a l ih =>
    intro vs h hk
    cases h with
    | cons _ v _ vs h1 h2 =>
      intro x hx
      rcases List.mem_cons.1 hx with e | e
      · exact e ▸ h1.one (hk a (by simp))
      · exact ih h2 (fun b hb => hk b (by simp [hb])) x e

section
variable {P : Program} {N0 : Nat} {ι : Io} {M : Mem} {n : Dom} {ω : World}

theorem Rel.cells (h : Rel P N0 ι M n ω) {id m : Nat} (hs : M.sh id = .cs m) :
    ∃ c elem, ω.heap[(ι id).blk]? = some (.cells c elem (0, 0)) ∧ (∀ off, M.cel id off ≠ .u → off < m ∧ ∃ v, c[(ι id).sh + off]? = some v ∧ VR ι n (M.cel id off) v) ∧ (ι id).tot ≤ c.size := by
  have := h.ob id (by rw [hs]; simp)
  rw [hs] at this
  exact this

theorem not_isU {v : AV} (h : isU v = false) : v ≠ .u := fun e => by rw [e] at h; exact absurd h (by simp [isU])

theorem cell_at {id off : Nat} {c : Array Value} {elem : TypeId} {fr : Nat × Nat} (e : ω.heap[(ι id).blk]? = some (.cells c elem fr)) : ω.cell? (ι.at id off) = c[(ι id).sh + off]? := by
  simp [World.cell?, Io.at, e]

/-- a cell is read -/
theorem load_one (h : Rel P N0 ι M n ω) {id off m : Nat} (hs : M.sh id = .cs m) (hu : isU (M.cel id off) = false) (md : Mode) :
    ∃ v, (load (ι.at id off) md).run P ω = .ok v ω ∧ VR ι n (M.cel id off) v := by
  obtain ⟨c, elem, e, h1, _⟩ := h.cells hs
  obtain ⟨_, v, hv, hr⟩ := h1 off (not_isU hu)
  exact ⟨v, by simp [cell_at e, hv], hr⟩

/-- cells are read -/
theorem load_list (h : Rel P N0 ι M n ω) {id off m : Nat} (hs : M.sh id = .cs m) (l : List AV) (hl : ∀ i, i < l.length → l[i]? = some (M.cel id (off + i)) ∧ isU (M.cel id (off + i)) = false) :
    ∃ vs, VRs ι n l vs ∧ vs.length = l.length ∧ (∀ j u, vs[j]? = some u → ω.cell? ((ι.at id off).add j) = some u) := by
  obtain ⟨c, elem, e, h1, _⟩ := h.cells hs
  refine ⟨(List.range l.length).map fun i => (c[(ι id).sh + (off + i)]?).getD undef, VRs.of_get (by simp) fun i hi _ => ?_, by simp, fun j u hj => ?_⟩
  · obtain ⟨a1, a2⟩ := hl i hi
    obtain ⟨_, v, hv, hr⟩ := h1 (off + i) (not_isU a2)
    rw [List.getElem?_eq_getElem hi, Option.some.injEq] at a1
    rw [a1]
    simpa [hv] using hr
  · have hlt : j < l.length := by
      rcases Nat.lt_or_ge j l.length with g | g
      · exact g
      · simp [g] at hj
    obtain ⟨a1, a2⟩ := hl j hlt
    obtain ⟨_, v, hv, hr⟩ := h1 (off + j) (not_isU a2)
    rw [add_at, cell_at e]
    simp [hlt, hv] at hj ⊢
    exact hj

theorem wr_nil (M : Mem) (id off : Nat) : M.wr id off [] = M := by
  apply Mem.ext
  · intro j; rfl
  · intro j o; simp [Mem.wr]; intro _ h1 h2; omega

theorem at_mk (ι : Io) (id off : Nat) : ι.at id off = ⟨(ι id).blk, (ι id).sh + off, none⟩ := rfl

/-- cells are written -/
theorem store_list (h : Rel P N0 ι M n ω) {id off m : Nat} (hs : M.sh id = .cs m) (hr : roN ≤ id) {l : List AV} {vs : List Value} (hv : VRs ι n l vs) (hk : ∀ a ∈ l, okC a = true)
    (hp : ∀ i, i < l.length → isU (M.cel id (off + i)) = false) :
    ∃ ω', (storeCells (ι.at id off) vs).run P ω = .ok () ω' ∧ Rel P N0 ι (M.wr id off l) n ω' ∧ Evo ι M n ω ι (M.wr id off l) n ω' := by
  by_cases hne : l = []
  · subst hne
    cases hv
    rw [wr_nil]
    exact ⟨ω, rfl, h, .refl _ _ _ _⟩
  obtain ⟨c, elem, e, h1, h2⟩ := h.cells hs
  have hlen := hv.length
  have hpos : 0 < l.length := List.length_pos_iff.2 hne
  have hin : ∀ i, i < l.length → (ι id).sh + (off + i) < c.size := fun i hi => by
    obtain ⟨_, v, hc, _⟩ := h1 (off + i) (not_isU (hp i hi))
    exact (Array.getElem?_eq_some_iff.1 hc).1
  have hfit : (ι id).sh + off + 0 + vs.length ≤ c.size := by have := hin (l.length - 1) (by omega); omega
  have hst := run_storeCells_at P (ι id).blk ((ι id).sh + off) elem vs 0 c ω e hfit (hv.one hk)
  have hput : M.wr id off l = M.put id (.cs m) ((M.wr id off l).cel id) := by
    apply Mem.ext
    · intro j; simp only [Mem.wr, Mem.put]; split
      · rename_i e; rw [e, hs]
      · rfl
    · intro j o; simp only [Mem.wr, Mem.put]
      by_cases g : j = id
      · subst g; simp
      · simp [g]
  refine ⟨_, hst, ?_⟩
  rw [hput]
  refine h.upd id (.cs m) _ (by rw [hs]; simp) hr (by simp) (fun b hb => setRow_other _ _ _ _ hb) rfl rfl rfl ?_
  refine ⟨_, elem, setRow_heap _ _ _ _ _ _ e, fun o ho => ?_, ?_⟩
  · simp only [Mem.wr, true_and] at ho ⊢
    by_cases g : off ≤ o ∧ o < off + l.length
    · simp only [g, and_self, if_true] at ho ⊢
      have hlt : o - off < l.length := by omega
      obtain ⟨v, e1, e2⟩ := hv.get (o - off) hlt
      have hc := h1 o (by have := not_isU (hp (o - off) hlt); rwa [show off + (o - off) = o by omega] at this)
      refine ⟨hc.1, v, ?_, ?_⟩
      · rw [List.getElem?_toArray, List.getElem?_append_left (by simp; omega), List.getElem?_append_right (by simp; omega)]
        simp only [List.length_take, Array.length_toList]
        rw [show (ι id).sh + o - min ((ι id).sh + off + 0) c.size = o - off by omega, e1]
      · rw [List.getD_eq_getElem?_getD, List.getElem?_eq_getElem hlt]; exact e2
    · simp only [g, if_false] at ho ⊢
      obtain ⟨b1, v, b2, b3⟩ := h1 o ho
      refine ⟨b1, v, ?_, b3⟩
      rw [← b2, List.getElem?_toArray]
      by_cases g2 : o < off
      · rw [List.getElem?_append_left (by simp; omega), List.getElem?_append_left (by simp; omega), List.getElem?_take_of_lt (by omega), Array.getElem?_toList]
      · rw [List.getElem?_append_right (by simp; omega), List.getElem?_drop, Array.getElem?_toList]
        congr 1
        simp only [List.length_append, List.length_take, Array.length_toList]
        omega
  · simp only [List.size_toArray, List.length_append, List.length_take, List.length_drop, Array.length_toList]
    omega

end

end Go.Ev
