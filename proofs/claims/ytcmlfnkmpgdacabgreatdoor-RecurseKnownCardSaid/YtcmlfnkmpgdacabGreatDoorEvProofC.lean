/-
  What is known of the temporaries, of the deferred calls.
-/
import Derived.Test.YtcmlfnkmpgdacabGreatDoorEvProofB
import Derived.OrdersIn
import Derived.RangeFuncLeaves
import Derived.RangeFuncRecord
import Derived.RangeFuncCalls
namespace Go.Ev

/-! ## Sources -/

noncomputable def srcV (s : Src) (R : List AV) (tm : Tm) : AV := match s with
  | .r k => nthC (R.length - 1 - k) R
  | .v t => TR.get .u (pathOf t) tm
  | .c x => x
  | .x => .u

theorem oaOf_val {n : Nat} {s : Src} {a : OA} {R : List AV} {tm : Tm} (hR : R.length = n) (h : oaOf n s = some a) : evA a R tm = srcV s R tm := by
  cases s <;> simp [oaOf] at h <;> subst h
  · simp [evA, srcV, hR]
  · simp [evA, srcV, pathE_pathOf]
  · simp [evA, srcV]

theorem findS_killS (d t : Nat) : ∀ (l : List (Nat × Src)), findS t (killS d l) = (findS t l).map fun s => match s with
    | .v t' => if t' = d then .x else s
    | s => s := by
  intro l
  induction l with
  | nil => rfl
  | cons e l ih =>
    obtain ⟨x, s⟩ := e
    have : killS d ((x, s) :: l) = (match s with
      | .v t => if t = d then (x, .x) else (x, s)
      | _ => (x, s)) :: killS d l := rfl
    rw [this]
    by_cases hx : x = t
    · cases s <;> simp only [findS, hx, if_true, Option.map_some]
      split <;> simp
    · cases s <;> simp only [findS, hx, if_false, ih]
      split <;> simp

structure PreR (E : Env) (pre : Pre) (R : List AV) (tm : Tm) (ι : Io) (n : Dom) (tmps : Array Value) : Prop where
  len : R.length = pre.n
  ok : ∀ e ∈ pre.l, ∀ k, e.2 = .r k → k < pre.n
  okv : ∀ e ∈ pre.l, ∀ k, e.2 = .v k → k ≠ dsI
  kds : Nat.testBit E.K dsI = false
  val : ∀ t s, cSrc E pre (.tmp t) = some s → VR ι n (srcV s R tm) (tmps.getD t undef)

/-- the globals are where they are -/
def GlR (E : Env) (ι : Io) (n : Dom) : Prop := ∀ g, g < E.P.globals.size → (ι g).blk = g ∧ (ι g).sh = 0 ∧ n g

section
variable {E : Env} {pre : Pre} {R : List AV} {tm : Tm} {ι : Io} {n : Dom} {tmps : Array Value}

theorem PreR.src {a : Act} (h : PreR E pre R tm ι n a.tmps) (hg : GlR E ι n) {x : Operand} {s : Src} (hs : cSrc E pre x = some s) : VR ι n (srcV s R tm) (a.eval x) := by
  cases x with
  | tmp t => exact h.val t s hs
  | const v => simp [cSrc] at hs; subst hs; exact VR_ofV _ _ _
  | global g =>
    simp only [cSrc] at hs
    split at hs
    · rename_i hlt
      simp at hs; subst hs
      obtain ⟨e1, e2, e3⟩ := hg g hlt
      have : (⟨g, 0, none⟩ : Addr) = ι.at g 0 := by simp [Io.at, e1, e2]
      simp only [Act.eval, srcV, this]
      exact .p g 0 e3
    · simp at hs
  | func f => simp [cSrc] at hs; subst hs; exact .f f [] [] #[] #[] .nil .nil

theorem PreR.op {a : Act} (h : PreR E pre R tm ι n a.tmps) (hg : GlR E ι n) : OpR E pre R tm a.eval ι n := fun x oa hx => by
  unfold cA at hx
  cases hs : cSrc E pre x with
  | none => simp [hs] at hx
  | some s =>
    simp [hs] at hx
    rw [oaOf_val h.len hx]
    exact h.src hg hs

theorem findS_mem {t : Nat} {s : Src} : ∀ {l : List (Nat × Src)}, findS t l = some s → ∃ x, (x, s) ∈ l := by
  intro l
  induction l with
  | nil => intro h; simp [findS] at h
  | cons e l ih =>
    intro h
    simp only [findS] at h
    split at h
    · simp at h; exact ⟨e.1, by rw [← h]; exact List.mem_cons_self⟩
    · obtain ⟨x, hx⟩ := ih h; exact ⟨x, List.mem_cons_of_mem _ hx⟩

theorem PreR.src_lt {x : Operand} (h : PreR E pre R tm ι n tmps) {k : Nat} (hs : cSrc E pre x = some (.r k)) : k < pre.n := by
  cases x with
  | tmp t =>
    simp only [cSrc] at hs
    split at hs
    · rename_i s he
      simp at hs; subst hs
      obtain ⟨y, hy⟩ := findS_mem he
      exact h.ok _ hy k rfl
    · split at hs <;> simp at hs
  | const v => simp [cSrc] at hs
  | global g => simp only [cSrc] at hs; split at hs <;> simp at hs
  | func f => simp [cSrc] at hs

theorem PreR.src_v {x : Operand} (h : PreR E pre R tm ι n tmps) {k : Nat} (hs : cSrc E pre x = some (.v k)) : k ≠ dsI := by
  cases x with
  | tmp t =>
    simp only [cSrc] at hs
    split at hs
    · rename_i s he
      simp at hs; subst hs
      obtain ⟨y, hy⟩ := findS_mem he
      exact h.okv _ hy k rfl
    · split at hs
      · rename_i hk
        simp at hs; subst hs
        intro e; rw [e, h.kds] at hk; cases hk
      · simp at hs
  | const v => simp [cSrc] at hs
  | global g => simp only [cSrc] at hs; split at hs <;> simp at hs
  | func f => simp [cSrc] at hs

theorem getD_put (tmps : Array Value) (d t : Nat) (v : Value) (hd : d < tmps.size) : (tmps.setIfInBounds d v).getD t undef = if t = d then v else tmps.getD t undef := by
  simp only [Array.getD_eq_getD_getElem?, Array.getElem?_setIfInBounds]
  by_cases e : t = d
  · subst e; simp [hd]
  · simp [e, Ne.symm e]

/-- 'x := y' where x is not kept -/
theorem PreR.aka (h : PreR E pre R tm ι n tmps) {d : Nat} {s : Src} {v : Value} (hs : VR ι n (srcV s R tm) v) (hk : ∀ k, s = .r k → k < pre.n) (hkv : ∀ k, s = .v k → k ≠ dsI) (hd : d < tmps.size) : PreR E (pre.aka d s) R tm ι n (tmps.setIfInBounds d v) where
  len := h.len
  ok := fun e he k hk' => by
    rcases List.mem_cons.1 he with e1 | e1
    · subst e1; exact hk k hk'
    · exact h.ok e e1 k hk'
  okv := fun e he k hk' => by
    rcases List.mem_cons.1 he with e1 | e1
    · subst e1; exact hkv k hk'
    · exact h.okv e e1 k hk'
  kds := h.kds
  val := fun t s' hs' => by
    rw [getD_put _ _ _ _ hd]
    simp only [cSrc, Pre.aka, findS] at hs'
    by_cases e : d = t
    · simp [e] at hs'; subst hs'; simp only [e, if_true]; exact hs
    · rw [if_neg (Ne.symm e)]
      simp only [e, if_false] at hs'
      exact h.val t s' (by simpa only [cSrc] using hs')

/-- a value is kept -/
theorem PreR.kept (h : PreR E pre R tm ι n tmps) {d : Nat} {a : AV} {v : Value} (hv : VR ι n a v) (hds : d ≠ dsI) (hd : d < tmps.size) : PreR E (pre.kept d) R (TR.set .u a (pathOf d) tm) ι n (tmps.setIfInBounds d v) where
  len := h.len
  ok := fun e he k hk' => by
    rcases List.mem_cons.1 he with e1 | e1
    · subst e1; simp at hk'
    · obtain ⟨e2, he2, he3⟩ := List.mem_map.1 e1
      have h1 := h.ok e2 he2 k
      obtain ⟨x, s⟩ := e2
      cases s with
      | v t => simp only at he3; split at he3 <;> (subst he3; simp at hk')
      | r j => simp only at he3; subst he3; exact h1 hk'
      | c x => simp only at he3; subst he3; simp at hk'
      | x => simp only at he3; subst he3; simp at hk'
  okv := fun e he k hk' => by
    rcases List.mem_cons.1 he with e1 | e1
    · subst e1; simp at hk'; omega
    · obtain ⟨e2, he2, he3⟩ := List.mem_map.1 e1
      have h1 := h.okv e2 he2 k
      obtain ⟨x, s⟩ := e2
      cases s with
      | v t =>
        simp only at he3
        split at he3
        · subst he3; simp at hk'
        · subst he3; exact h1 hk'
      | r j => simp only at he3; subst he3; simp at hk'
      | c x => simp only at he3; subst he3; simp at hk'
      | x => simp only at he3; subst he3; simp at hk'
  kds := h.kds
  val := fun t s' hs' => by
    rw [getD_put _ _ _ _ hd]
    simp only [cSrc, Pre.kept, findS, findS_killS] at hs'
    by_cases e : d = t
    · simp [e] at hs'; subst hs'; subst e; simp only [if_true, srcV, TR.get_setN]; exact hv
    · rw [if_neg (Ne.symm e)]
      simp only [e, if_false] at hs'
      cases hf : findS t pre.l with
      | some s =>
        simp only [hf, Option.map_some, Option.some.injEq] at hs'
        have h1 := h.val t s (by simp [cSrc, hf])
        cases s with
        | v t' =>
          simp only at hs'
          split at hs'
          · subst hs'; exact .u _
          · rename_i hne; subst hs'; simp only [srcV, TR.get_setN, hne, if_false] at h1 ⊢; exact h1
        | r j => simp only at hs'; subst hs'; exact h1
        | c x => simp only at hs'; subst hs'; exact h1
        | x => simp only at hs'; subst hs'; exact h1
      | none =>
        simp only [hf, Option.map_none] at hs'
        have h1 := h.val t s' (by simpa [cSrc, hf] using hs')
        split at hs'
        · simp at hs'; subst hs'; simp only [srcV, TR.get_setN, Ne.symm e, if_false] at h1 ⊢; exact h1
        · simp at hs'

/-- a value is pushed -/
theorem PreR.pushed (h : PreR E pre R tm ι n tmps) {d : Nat} {a : AV} {v : Value} (hv : VR ι n a v) (hd : d < tmps.size) : PreR E (pre.pushed d) (a :: R) tm ι n (tmps.setIfInBounds d v) where
  len := by simp [Pre.pushed, h.len]
  ok := fun e he k hk' => by
    simp only [Pre.pushed] at he ⊢
    rcases List.mem_cons.1 he with e1 | e1
    · subst e1; simp at hk'; omega
    · have := h.ok e e1 k hk'; omega
  okv := fun e he k hk' => by
    simp only [Pre.pushed] at he
    rcases List.mem_cons.1 he with e1 | e1
    · subst e1; simp at hk'
    · exact h.okv e e1 k hk'
  kds := h.kds
  val := fun t s' hs' => by
    rw [getD_put _ _ _ _ hd]
    simp only [cSrc, Pre.pushed, findS] at hs'
    by_cases e : d = t
    · simp [e] at hs'; subst hs'
      simp only [e, if_true, srcV, ← h.len]
      have : (a :: R).length - 1 - R.length = 0 := by simp
      rw [this]; exact hv
    · rw [if_neg (Ne.symm e)]
      simp only [e, if_false] at hs'
      have hs'' : cSrc E pre (.tmp t) = some s' := by simpa only [cSrc] using hs'
      have h1 := h.val t s' hs''
      cases s' with
      | r k =>
        have hlt := h.src_lt hs''
        rw [← h.len] at hlt
        simp only [srcV] at h1 ⊢
        have : (a :: R).length - 1 - k = (R.length - 1 - k) + 1 := by simp; omega
        rw [this]; exact h1
      | v t' => exact h1
      | c x => exact h1
      | x => exact h1

theorem PreR.ext {ι' : Io} {n' : Dom} (h : PreR E pre R tm ι n tmps) (he : ι.ext ι' n) (hn : n.le n') : PreR E pre R tm ι' n' tmps :=
  ⟨h.len, h.ok, h.okv, h.kds, fun t s hs => VR.ext he hn (h.val t s hs)⟩

/-- where a region begins -/
theorem PreR.begin (hK : Nat.testBit E.K dsI = false) (h : TmR ι n E.K tm tmps) : PreR E ⟨[], 0⟩ [] tm ι n tmps where
  len := rfl
  ok := fun e he => by simp at he
  okv := fun e he => by simp at he
  kds := hK
  val := fun t s hs => by
    simp only [cSrc, findS] at hs
    split at hs
    · rename_i hk; simp at hs; subst hs; exact h t hk
    · simp at hs

theorem TmR.put {K : Nat} (h : TmR ι n K tm tmps) {d : Nat} {v : Value} (hd : d < tmps.size) (hk : Nat.testBit K d = false) : TmR ι n K tm (tmps.setIfInBounds d v) := fun t ht => by
  rw [getD_put _ _ _ _ hd]
  by_cases e : t = d
  · subst e; rw [hk] at ht; cases ht
  · simp only [e, if_false]; exact h t ht
theorem TmR.kept {K : Nat} (h : TmR ι n K tm tmps) {d : Nat} {a : AV} {v : Value} (hd : d < tmps.size) (hv : VR ι n a v) : TmR ι n K (TR.set .u a (pathOf d) tm) (tmps.setIfInBounds d v) := fun t ht => by
  rw [getD_put _ _ _ _ hd, TR.get_setN]
  by_cases e : t = d
  · simp only [e, if_true]; exact hv
  · simp only [e, if_false]; exact h t ht

end

/-! ## Deferred calls -/

inductive DsR (ι : Io) (n : Dom) : List AV → List Deferred → Prop
  | nil : DsR ι n [] []
  | call (fn : Nat) (a b args : List AV) (a' b' vargs : Array Value) (l : List AV) (ds : List Deferred) : VRs ι n a a'.toList → VRs ι n b b'.toList → VRs ι n args vargs.toList → DsR ι n l ds →
      DsR ι n (.tup (.f fn a b :: args) :: l) ({ target := .fn (.func fn) b', args := a' ++ vargs } :: ds)
  | mark (id off : Nat) (l : List AV) (ds : List Deferred) : n id → DsR ι n l ds → DsR ι n (.p id off :: l) ({ target := .collected (ι id).blk, args := #[] } :: ds)

theorem DsR.ext {ι ι' : Io} {n n' : Dom} (he : ι.ext ι' n) (hn : n.le n') {l : List AV} {ds : List Deferred} (h : DsR ι n l ds) : DsR ι' n' l ds := by
  induction h with
  | nil => exact .nil
  | call fn a b args a' b' vargs l ds h1 h2 h3 _ ih => exact .call fn a b args a' b' vargs l ds (VRs.ext he hn h1) (VRs.ext he hn h2) (VRs.ext he hn h3) ih
  | mark id off l ds h1 _ ih => rw [← he id h1]; exact .mark id off l ds (hn id h1) ih

theorem dsP_eq : dsP = pathOf dsI := by decide

/-- the state of an activation -/
structure St (E : Env) (N0 : Nat) (ι : Io) (n : Dom) (tm : Tm) (w : W) (a : Act) (ω : World) : Prop where
  rel : Rel E.P N0 ι w.mem n ω
  wf : WfW E.P w
  tms : TmR ι n E.K tm a.tmps
  siz : E.T ≤ a.tmps.size
  dfs : E.rd = false → DsR ι n (listT (TR.get .u dsP tm)) a.defers

theorem St.gl {E : Env} {N0 : Nat} {ι : Io} {n : Dom} {tm : Tm} {w : W} {a : Act} {ω : World} (h : St E N0 ι n tm w a ω) : GlR E ι n := h.rel.glob

end Go.Ev

/-
  Calls of function values; rounds.
-/
namespace Go.Ev

def exitR : X → Exit → Prop
  | .nrm, e => e = .normal
  | .exit id, e => e = .exit id
  | .ret, e => e = .ret

/-- the fences that there are -/
def FnOk (F : Fence) (rd : Bool) : Prop := F = Fence.wide ∨ (rd = true ∧ ∃ l, F = Fence.wide.inRound l)

theorem FnOk.fn {F : Fence} {rd : Bool} (h : FnOk F rd) (f : FuncId) : F.fn f := by
  rcases h with rfl | ⟨_, l, rfl⟩ <;> trivial
theorem FnOk.depth {F : Fence} {rd : Bool} (h : FnOk F rd) : ¬ (F.depth.isSome = true) := by
  rcases h with rfl | ⟨_, l, rfl⟩ <;> simp [Fence.wide, Fence.inRound]
theorem FnOk.round {F : Fence} (h : FnOk F false) : F.round = none := by
  rcases h with rfl | ⟨h, _⟩
  · rfl
  · cases h

def CallPost (P : Program) (N0 : Nat) (ι : Io) (n : Dom) (w : W) (ω : World) (v : AV) (w' : W) (e : Ending) (ω' : World) : Prop :=
  ∃ v' ι', e = .returned v' ∧ VR ι' (n.upto w.nx w'.nx) v v' ∧ Rel P N0 ι' w'.mem (n.upto w.nx w'.nx) ω' ∧ Evo ι w.mem n ω ι' w'.mem (n.upto w.nx w'.nx) ω'

def CodePost (E : Env) (N0 : Nat) (ι : Io) (n : Dom) (w : W) (a : Act) (ω : World) (x : X) (tm' : Tm) (w' : W) (e : Exit) (a' : Act) (ω' : World) : Prop :=
  exitR x e ∧ ∃ ι', St E N0 ι' (n.upto w.nx w'.nx) tm' w' a' ω' ∧ Evo ι w.mem n ω ι' w'.mem (n.upto w.nx w'.nx) ω' ∧ a'.tmps.size = a.tmps.size

/-- a piece of code does what the evaluator does -/
def CodeOk (E : Env) (code : Code) (tm : Tm) (w : W) (x : X) (tm' : Tm) (w' : W) : Prop :=
  WfW E.P w → Chg E.P w w' ∧ ∀ (F : Fence), FnOk F E.rd → ∀ (N0 : Nat) (ι : Io) (n : Dom) (a : Act) (ω : World), St E N0 ι n tm w a ω → n.free w.nx w'.nx → code.wpIn F 0 E.P (CodePost E N0 ι n w a ω x tm' w') a ω

/-- a function that can be entered -/
def Enters (P : Program) (fid : Nat) : Prop := ∃ fn, P.funcs[fid]? = some fn ∧ fn.name ≠ "runtime.NumGoroutine" ∧ fn.body.isSome = true

theorem Enters.run {P : Program} {fid : Nat} (h : Enters P fid) (args : Array Value) (ω : World) : (callFunc fid args).run P ω = .ok (.enter fid args) ω := by
  obtain ⟨fn, h1, h2, h3⟩ := h
  unfold callFunc
  cases hb : fn.body with
  | none => rw [hb] at h3; simp at h3
  | some b => simp [h1, h2, hb]

/-- the level below -/
structure LvOk (P : Program) (S : Lv) : Prop where
  call : ∀ fid args w v w', S.call fid args w = .ok v w' → WfW P w → Chg P w w' ∧ Enters P fid ∧ ∀ (N0 : Nat) (ι : Io) (n : Dom) (ω : World) (vs : Array Value), Rel P N0 ι w.mem n ω → n.free w.nx w'.nx → VRs ι n args vs.toList →
    CallsIn Fence.wide 0 P fid vs ω (CallPost P N0 ι n w ω v w')
  dcall : ∀ fid args w v w', S.dcall fid args w = .ok v w' → WfW P w → Chg P w w' ∧ Enters P fid ∧ ∀ (N0 : Nat) (ι : Io) (n : Dom) (ω : World) (vs : Array Value) (u : FrameMode), Rel P N0 ι w.mem n ω → n.free w.nx w'.nx → VRs ι n args vs.toList →
    CallsDIn Fence.wide 0 P fid vs u ω (fun e u' ω' => u' = u ∧ CallPost P N0 ι n w ω v w' e ω')
  round : ∀ c tm w x tm' w', S.round c tm w = .ok x tm' w' → ∀ (E : Env) (code : Code), E.P = P → E.rd = true → Nat.testBit E.K dsI = false → cC E code = some c → CodeOk E code tm w x tm' w'

/-- the next step is a call -/
def CallR (P : Program) (N0 : Nat) (ι : Io) (n : Dom) (w : W) (ω : World) (s : Sem Next) (v : AV) (w' : W) : Prop :=
  (∃ f vs, s.run P ω = .ok (.enter f vs) ω ∧ CallsIn Fence.wide 0 P f vs ω (CallPost P N0 ι n w ω v w')) ∨
  (∃ l f tmps as body, s.run P ω = .ok (.round l f tmps as body) ω ∧ RoundIn Fence.wide 0 P l f tmps as body ω (CallPost P N0 ι n w ω v w'))

theorem toF_fn {f : AV} {fid : Nat} {a b : List AV} (h : toF f = .fn fid a b) : f = .f fid a b := by
  cases f <;> simp [toF] at h
  obtain ⟨rfl, rfl, rfl⟩ := h; rfl
theorem toF_yl {f : AV} {l : Nat} (h : toF f = .yl l) : f = .y l := by
  cases f <;> simp [toF] at h
  rw [h]

theorem onLp_RV {k : Nat → X → Tm → List Pa → C → C → RV} {o : AO} {v : AV} {w : W} (h : onLp .no k o = .ok v w) : ∃ st x tm ps as body, o = .lp st x tm ps as body ∧ k st x tm ps as body = .ok v w := by
  cases o <;> simp [onLp] at h
  exact ⟨_, _, _, _, _, _, rfl, h⟩

theorem setPs_run {ι : Io} {n : Dom} {K T : Nat} : ∀ {ts : List Nat} {ps : List Pa} {args : List AV} {tm tm1 : Tm} {tmps : Array Value} {vs : List Value}, ts.map (fun t => pathE t t) = ps → setPs ps args tm = some tm1 → VRs ι n args vs → TmR ι n K tm tmps → (∀ t ∈ ts, t < T) → T ≤ tmps.size →
    ts.length = vs.length ∧ TmR ι n K tm1 ((ts.zip vs).foldl (fun tmps (t, a) => tmps.setIfInBounds t a) tmps) ∧ ((ts.zip vs).foldl (fun tmps (t, a) => tmps.setIfInBounds t a) tmps).size = tmps.size := by
  intro ts
  induction ts with
  | nil =>
    intro ps args tm tm1 tmps vs hp h hv ht hT hs
    simp at hp; subst hp
    cases args with
    | nil => simp [setPs] at h; subst h; cases hv; exact ⟨rfl, ht, rfl⟩
    | cons a args => simp [setPs] at h
  | cons t ts ih =>
    intro ps args tm tm1 tmps vs hp h hv ht hT hs
    simp at hp; subst hp
    cases args with
    | nil => simp [setPs] at h
    | cons a args =>
      cases hv with
      | cons _ v _ vs h1 h2 =>
        simp only [setPs] at h
        rw [pathE_pathOf t] at h
        have hlt : t < tmps.size := Nat.lt_of_lt_of_le (hT t (by simp)) hs
        obtain ⟨q1, q2, q3⟩ := ih (tmps := tmps.setIfInBounds t v) rfl h h2 (ht.kept hlt h1) (fun x hx => hT x (by simp [hx])) (by simpa using hs)
        refine ⟨by simp [q1], ?_, ?_⟩
        · simpa using q2
        · simpa using q3

section
variable {P : Program} {N0 : Nat} {ι : Io} {M : Mem} {n : Dom} {ω : World}

/-- the record of a range over a function -/
theorem Rel.loop {w : W} (h : Rel P N0 ι w.mem n ω) {l st : Nat} {pend : X} {tm : Tm} {ps : List Pa} {as body : C} (e : w.ob l = .lp st pend tm ps as body) :
    ∃ r, ω.heap[(ι l).blk]? = some (.loop r) ∧ LpR P ι n st pend tm ps as body r := by
  have hs : w.mem.sh l = .lp st pend tm ps as body := by simp [W.mem, e, shOf]
  have := h.ob l (by rw [hs]; simp)
  rw [hs] at this
  exact this

/-- the record is changed -/
theorem Rel.setLoop {w : W} (h : Rel P N0 ι w.mem n ω) {l st st' : Nat} {pend pend' : X} {tm : Tm} {ps : List Pa} {as body : C} (e : w.ob l = .lp st pend tm ps as body) (hr : roN ≤ l) {r : Loop} (hr1 : ω.heap[(ι l).blk]? = some (.loop r))
    (hL : LpR P ι n st pend tm ps as body r) {ls : LoopState} {pc : Option Code} (h1 : stR st' ls) (h2 : pendR pend' pc) :
    Rel P N0 ι (w.set l 0 0 (.lp st' pend' tm ps as body)).mem n (ω.putObj (ι l).blk (.loop { r with state := ls, pending := pc })) ∧
    Evo ι w.mem n ω ι (w.set l 0 0 (.lp st' pend' tm ps as body)).mem n (ω.putObj (ι l).blk (.loop { r with state := ls, pending := pc })) := by
  have hlt : (ι l).blk < ω.heap.size := (Array.getElem?_eq_some_iff.1 hr1).1
  rw [W.mem_set]
  refine h.upd l _ _ (by simp [W.mem, e, shOf]) hr (by simp) (fun b hb => World.putObj_heap_other hb) rfl rfl rfl ?_
  rw [World.putObj_heap_same hlt]
  exact ⟨_, rfl, ⟨h1, h2, hL.code, hL.ps⟩⟩

theorem pend_of {x : X} {e : Exit} (h : exitR x e) {P : Program} {l : Nat} {R : Ending → World → Prop} {a : Act} {ω : World}
    (hR : ∀ pc, pendR x pc → pc.isNone = isN x → ∃ v ω', (Instr.endRound l pc).run P ω = .ok v ω' ∧ R (.returned v) ω') : roundPost P l R e a ω := by
  cases x with
  | nrm => cases h; exact hR none rfl rfl
  | exit id => cases h; exact hR (some (.exit id)) rfl rfl
  | ret => cases h; exact hR (some .ret) rfl rfl

theorem roundV_sound {S : Lv} (hS : LvOk P S) {l : Nat} {args : List AV} {w w' : W} {v : AV} (h : roundV S l args w = .ok v w') :
    WfW P w → Chg P w w' ∧ ∀ (N0 : Nat) (ι : Io) (n : Dom) (ω : World) (vs : Array Value), Rel P N0 ι w.mem n ω → n.free w.nx w'.nx → VRs ι n args vs.toList → n l →
      CallR P N0 ι n w ω (Instr.yield (ι l).blk vs) v w' := by
  intro hwf
  unfold roundV at h
  obtain ⟨st, pend, tm, ps, as, body, e0, h⟩ := onLp_RV h
  split at h
  · split at h
    · rename_i tm1 hps
      split at h
      · rename_i tm2 w1 hr1
        obtain ⟨st', pend', tm', ps', as', body', e1, h⟩ := onLp_RV h
        split at h
        · rename_i hst
          subst hst
          rw [putO_eq] at h
          split at h
          · rename_i hro
            split at h
            · rename_i x tm3 w3 hr2
              obtain ⟨st3, pend3, tm3', ps3, as3, body3, e3, h⟩ := onLp_RV h
              split at h
              · rename_i hst3
                subst hst3
                rw [putO_eq] at h
                simp only [hro, if_true] at h
                simp only [RV.ok.injEq] at h
                obtain ⟨rfl, rfl⟩ := h
                obtain ⟨E0, ca, cb, hP0, hrd0, hK0, hca0, hcb0⟩ := hwf.ob l _ _ _ _ _ _ e0
                have c1 : Chg P w w1 := by have := (hS.round _ _ _ _ _ _ hr1 E0 ca hP0 hrd0 hK0 hca0 (by rw [hP0]; exact hwf)).1; rw [hP0] at this; exact this
                have f1 := c1.wf hwf
                have c2 : Chg P w1 (w1.set l 0 0 (.lp 1 pend' tm' ps' as' body')) := Chg.set (fun _ _ _ _ _ _ e => by cases e; exact f1.ob l _ _ _ _ _ _ e1) hro (by rw [e1]; simp) (.inl rfl)
                have f2 := c2.wf f1
                have c3 : Chg P (w1.set l 0 0 (.lp 1 pend' tm' ps' as' body')) w3 := by have := (hS.round _ _ _ _ _ _ hr2 E0 cb hP0 hrd0 hK0 hcb0 (by rw [hP0]; exact f2)).1; rw [hP0] at this; exact this
                have f3 := c3.wf f2
                have c4 : Chg P w3 (w3.set l 0 0 (.lp (if isN x then 0 else 2) x tm3' ps3 as3 body3)) := Chg.set (fun _ _ _ _ _ _ e => by cases e; exact f3.ob l _ _ _ _ _ _ e3) hro (by rw [e3]; simp) (.inl rfl)
                refine ⟨((c1.trans c2).trans c3).trans c4, ?_⟩
                intro N0 ι n ω vs hR hf hvs hl
                obtain ⟨r, hh, hL⟩ := hR.loop e0
                obtain ⟨E, hEP, hErd, hEK, hca, hcb, hT, hTm, hpar⟩ := hL.code
                subst hEP
                obtain ⟨q1, q2, q3⟩ := setPs_run hL.ps hps hvs hTm hpar hT
                have hy := run_yield (P := E.P) (args := vs) hh (by simpa using q1.symm)
                have hfold : (r.params.zip vs).foldl (fun tmps (t, a) => tmps.setIfInBounds t a) r.tmps = ((r.params.toList.zip vs.toList).foldl (fun tmps (t, a) => tmps.setIfInBounds t a) r.tmps) := by
                  rw [← Array.toList_zip, Array.foldl_toList]
                refine .inr ⟨_, _, _, _, _, hy, ?_⟩
                refine roundIn_of_wpIn (F := Fence.wide) trivial ?_
                rw [hfold]
                have hn1 := c1.nx
                have hn3 : w1.nx ≤ w3.nx := c3.nx
                have hf : n.free w.nx w3.nx := hf
                refine wpIn_mono ((hS.round _ _ _ _ _ _ hr1 E r.assign rfl hErd hEK hca hwf).2 (Fence.wide.inRound (ι l).blk) (.inr ⟨hErd, _, rfl⟩) N0 ι n ⟨_, []⟩ ω ⟨hR, hwf, q2, by rw [q3]; exact hT, fun h => by rw [hErd] at h; cases h⟩ (fun id h1 h2 => hf id h1 (by omega))) ?_
                rintro e a1 ω1 ⟨hx, ι1, st1, evo1, hsz1⟩
                cases hx
                obtain ⟨r1, hh1, hL1⟩ := st1.rel.loop e1
                have hι1 : ι1 l = ι l := evo1.ext l hl
                obtain ⟨rel2, evo2⟩ := st1.rel.setLoop e1 hro hh1 hL1 (st' := 1) (pend' := pend') (ls := .busy) (pc := r1.pending) rfl hL1.pend
                have hb := run_beginRound (P := E.P) hh1 hL1.st
                rw [hι1] at rel2 evo2 hb
                refine ⟨_, hb, ?_⟩
                refine wpIn_mono ((hS.round _ _ _ _ _ _ hr2 E r.body rfl hErd hEK hcb f2).2 (Fence.wide.inRound (ι l).blk) (.inr ⟨hErd, _, rfl⟩) N0 ι1 _ a1 _ ⟨rel2, f2, st1.tms, st1.siz, fun h => by rw [hErd] at h; cases h⟩ (fun id h1 h2 => ?_)) ?_
                · simp only [W.nx_set] at h1 h2
                  rintro (h3 | h3)
                  · exact hf id (by omega) h2 h3
                  · omega
                rintro e2 a2 ω3 ⟨hx2, ι3, st3, evo3, hsz3⟩
                refine pend_of hx2 fun pc hpc hnone => ?_
                obtain ⟨r3, hh3, hL3⟩ := st3.rel.loop e3
                have hι3 : ι3 l = ι l := by rw [evo3.ext l (.inl hl), hι1]
                obtain ⟨rel4, evo4⟩ := st3.rel.setLoop e3 hro hh3 hL3 (st' := if isN x then 0 else 2) (pend' := x) (ls := if pc.isNone then .ready else .done) (pc := pc) (by rw [hnone]; cases isN x <;> rfl) hpc
                have he := run_endRound (P := E.P) pc hh3
                rw [hι3] at rel4 evo4 he
                refine ⟨_, _, he, .bool pc.isNone, ι3, rfl, by rw [hnone]; exact .b _, ?_, ?_⟩
                · simp only [W.nx_set] at rel4
                  rw [Dom.upto_trans _ hn1 hn3] at rel4
                  exact rel4
                · have ev := ((evo1.trans evo2).trans evo3).trans evo4
                  simp only [W.nx_set] at ev
                  rw [Dom.upto_trans _ hn1 hn3] at ev
                  exact ev
              · simp at h
            · simp at h
          · simp at h
        · simp at h
      · simp at h
    · simp at h
  · simp at h

end
end Go.Ev

/-
  Regions whose order is the text's.
-/
namespace Go.Ev

theorem callV_sound {P : Program} {S : Lv} (hS : LvOk P S) {f : AV} {args : List AV} {w w' : W} {v : AV} (h : callV S f args w = .ok v w') (hwf : WfW P w) :
    Chg P w w' ∧ (∃ fid a b, f = .f fid a b) ∨ (∃ l, f = .y l) ∧ Chg P w w' := by
  unfold callV at h
  cases hf : toF f with
  | no => simp [hf] at h
  | fn fid a b => simp only [hf] at h; exact .inl ⟨(hS.call _ _ _ _ _ h hwf).1, fid, a, b, toF_fn hf⟩
  | yl l => simp only [hf] at h; exact .inr ⟨⟨l, toF_yl hf⟩, (roundV_sound hS h hwf).1⟩

theorem callV_chg {P : Program} {S : Lv} (hS : LvOk P S) {f : AV} {args : List AV} {w w' : W} {v : AV} (h : callV S f args w = .ok v w') (hwf : WfW P w) : Chg P w w' := by
  rcases callV_sound hS h hwf with ⟨h, _⟩ | ⟨_, h⟩ <;> exact h

theorem callV_fn {P : Program} {S : Lv} (hS : LvOk P S) {fid : Nat} {a b args : List AV} {w w' : W} {v : AV} (h : callV S (.f fid a b) args w = .ok v w') (hwf : WfW P w) {N0 : Nat} {ι : Io} {n : Dom} {ω : World} {a' b' vargs : Array Value}
    (hR : Rel P N0 ι w.mem n ω) (hf : n.free w.nx w'.nx) (h1 : VRs ι n a a'.toList) (h2 : VRs ι n b b'.toList) (h3 : VRs ι n args vargs.toList) :
    Enters P fid ∧ CallsIn Fence.wide 0 P fid (a' ++ vargs ++ b') ω (CallPost P N0 ι n w ω v w') := by
  have h : S.call fid (appL a (appL args b)) w = .ok v w' := h
  obtain ⟨_, e, c⟩ := hS.call _ _ _ _ _ h hwf
  refine ⟨e, c N0 ι n ω _ hR hf ?_⟩
  rw [appL_eq, appL_eq]
  simp only [Array.toList_append, List.append_assoc]
  exact h1.append (h3.append h2)

theorem callV_run {P : Program} {S : Lv} (hS : LvOk P S) {f : AV} {args : List AV} {w w' : W} {v : AV} (h : callV S f args w = .ok v w') (hwf : WfW P w) {N0 : Nat} {ι : Io} {n : Dom} {ω : World} {vf : Value} {vargs : Array Value}
    (hR : Rel P N0 ι w.mem n ω) (hf : n.free w.nx w'.nx) (hvf : VR ι n f vf) (hva : VRs ι n args vargs.toList) : CallR P N0 ι n w ω (do let d ← Deferred.ofValue vf vargs; invoke d.target d.args) v w' := by
  cases ht : toF f with
  | no => unfold callV at h; simp [ht] at h
  | fn fid a b =>
    have := toF_fn ht
    subst this
    cases hvf with
    | f _ _ _ a' b' h1 h2 =>
      obtain ⟨e, c⟩ := callV_fn hS h hwf hR hf h1 h2 hva
      refine .inl ⟨fid, _, ?_, c⟩
      simp [Deferred.ofValue, invoke, e.run]
  | yl l =>
    have := toF_yl ht
    subst this
    have h : roundV S l args w = .ok v w' := h
    cases hvf with
    | y _ hl =>
      have := (roundV_sound hS h hwf).2 N0 ι n ω vargs hR hf hva hl
      unfold CallR at this ⊢
      simpa [Deferred.ofValue, invoke] using this

section
variable {E : Env} {N0 : Nat} {ι : Io} {n : Dom} {tm : Tm} {w : W} {a : Act} {ω : World} {pre : Pre} {R : List AV}

theorem St.step (h : St E N0 ι n tm w a ω) {ι1 : Io} {n1 : Dom} {w1 : W} {ω1 : World} (hR : Rel E.P N0 ι1 w1.mem n1 ω1) (hwf : WfW E.P w1) (he : ι.ext ι1 n) (hn : n.le n1) : St E N0 ι1 n1 tm w1 a ω1 :=
  ⟨hR, hwf, h.tms.ext he hn, h.siz, fun hr => (h.dfs hr).ext he hn⟩

/-- a value is put where it belongs -/
theorem put_state {dst : Option Nat} {d : D} {pre' : Pre} (hd : cD E pre dst = some (d, pre')) (v : AV) (R : List AV) (tm : Tm) :
    ∃ R1 tm1, (∀ k, dstK d v R tm k = k R1 tm1) ∧ ∀ (N0 : Nat) (ι : Io) (n : Dom) (w : W) (a : Act) (ω : World) (v' : Value), St E N0 ι n tm w a ω → PreR E pre R tm ι n a.tmps → VR ι n v v' →
      St E N0 ι n tm1 w (a.put dst v') ω ∧ PreR E pre' R1 tm1 ι n (a.put dst v').tmps ∧ (a.put dst v').tmps.size = a.tmps.size := by
  cases dst with
  | none =>
    simp [cD] at hd
    obtain ⟨rfl, rfl⟩ := hd
    exact ⟨R, tm, fun _ => rfl, fun N0 ι n w a ω v' h hp hv => ⟨h, hp, rfl⟩⟩
  | some t =>
    simp only [cD] at hd
    split at hd
    · simp at hd
    · rename_i hc
      split at hd
      · rename_i hk
        simp at hd
        obtain ⟨rfl, rfl⟩ := hd
        refine ⟨R, TR.set .u v (pathOf t) tm, fun k => by show TR.force (k R) _ = _; rw [TR.force_eq, pathE_pathOf], fun N0 ι n w a ω v' h hp hv => ?_⟩
        have hlt : t < a.tmps.size := by have := h.siz; omega
        refine ⟨⟨h.rel, h.wf, h.tms.kept hlt hv, by simpa [Act.put] using h.siz, fun hr => ?_⟩, hp.kept hv (by omega) hlt, by simp [Act.put]⟩
        rw [dsP_eq, TR.get_setN, if_neg (by omega), ← dsP_eq]
        exact h.dfs hr
      · rename_i hk
        simp at hd
        obtain ⟨rfl, rfl⟩ := hd
        refine ⟨v :: R, tm, fun k => rfl, fun N0 ι n w a ω v' h hp hv => ?_⟩
        have hlt : t < a.tmps.size := by have := h.siz; omega
        exact ⟨⟨h.rel, h.wf, h.tms.put hlt (by simpa using hk), by simpa [Act.put] using h.siz, h.dfs⟩, hp.pushed hv hlt, by simp [Act.put]⟩

end

theorem isUd_ok {v : AV} (h : isUd v = true) : v = .tup [] := by
  cases v <;> simp [isUd] at h
  rename_i vs
  cases vs with
  | nil => rfl
  | cons a l => cases h

/-- is it carried out? -/
theorem want_run {E : Env} {pre : Pre} {R : List AV} {tm : Tm} {opsA : Array Oper} {o : Oper} {g : Option (OA × Bool)} (hg : cG E (opsA.toList.map (·.dst)) pre o.guard = some g) {s r : RC} {x : X} {tm' : Tm} {w' : W}
    (h : wantK g R tm s r = .ok x tm' w') : (r = .ok x tm' w' ∧ ∀ (ι : Io) (n : Dom) (a : Act), OpR E pre R tm a.eval ι n → Region.wanted o (yielded opsA a.tmps) = true) ∨
      (s = .ok x tm' w' ∧ ∀ (ι : Io) (n : Dom) (a : Act), OpR E pre R tm a.eval ι n → Region.wanted o (yielded opsA a.tmps) = false) := by
  cases ho : o.guard with
  | none =>
    simp [ho, cG] at hg
    subst hg
    exact .inl ⟨h, fun _ _ _ _ => by simp [Region.wanted, ho]⟩
  | some jw =>
    obtain ⟨j, want⟩ := jw
    simp only [ho, cG] at hg
    split at hg
    · rename_i d hd
      cases hx : cA E pre (.tmp d) with
      | none => simp [hx] at hg
      | some oa =>
        simp [hx] at hg
        subst hg
        have h : onB (β := RC) (Bool.rec .no s (isUd (evA oa R tm))) (fun t => Bool.rec (Bool.rec r s t) (Bool.rec s r t) want) (evA oa R tm) = .ok x tm' w' := h
        unfold onB at h
        cases hb : toB (evA oa R tm) with
        | no =>
          simp only [hb] at h
          cases hu : isUd (evA oa R tm) with
          | false => simp [hu] at h
          | true =>
            simp only [hu] at h
            refine .inr ⟨h, fun ι n a hρ => ?_⟩
            have hv := hρ _ _ hx
            rw [isUd_ok hu] at hv
            have hval : a.tmps.getD d undef = .tuple #[] := by
              change VR ι n (.tup []) (a.tmps.getD d undef) at hv
              generalize a.tmps.getD d undef = vv at hv
              cases hv with
              | tup _ cs' hvs =>
                have : cs' = #[] := by
                  have hl := hvs.length
                  exact Array.eq_empty_of_size_eq_zero (by simpa using hl.symm)
                rw [this]
            have hdst : ((opsA[j]?).bind (·.dst)) = some d := by
              rw [List.getElem?_map, Array.getElem?_toList] at hd
              cases hq : opsA[j]? with
              | none => simp [hq] at hd
              | some u => simpa [hq] using hd
            have hy : yielded opsA a.tmps j = none := by
              simp only [yielded, hdst, Option.bind_some]
              rw [Array.getD_eq_getD_getElem?] at hval
              cases hq : a.tmps[d]? with
              | none => rfl
              | some u => rw [hq] at hval; simp at hval; subst hval; rfl
            simp only [Region.wanted, ho, hy]; rfl
        | ok t =>
          simp only [hb] at h
          have key : ∀ (ι : Io) (n : Dom) (a : Act), OpR E pre R tm a.eval ι n → Region.wanted o (yielded opsA a.tmps) = (t == want) := by
            intro ι n a hρ
            have hv := hρ _ _ hx
            rw [toB_ok hb] at hv
            have hval : a.tmps.getD d undef = .bool t := by
              change VR ι n (.b t) (a.tmps.getD d undef) at hv
              generalize a.tmps.getD d undef = vv at hv
              cases hv; rfl
            have hget : a.tmps[d]? = some (.bool t) := by
              rw [Array.getD_eq_getD_getElem?] at hval
              cases hq : a.tmps[d]? with
              | none => simp [hq, undef] at hval
              | some u => simpa [hq] using hval
            have hdst : ((opsA[j]?).bind (·.dst)) = some d := by
              rw [List.getElem?_map, Array.getElem?_toList] at hd
              cases hq : opsA[j]? with
              | none => simp [hq] at hd
              | some u => simpa [hq] using hd
            have hy : yielded opsA a.tmps j = some t := by simp only [yielded, hdst, Option.bind_some, hget]
            simp only [Region.wanted, ho, hy]; cases t <;> cases want <;> rfl
          cases t <;> cases want <;> first
            | exact .inl ⟨h, key⟩
            | exact .inr ⟨h, key⟩
    · simp at hg

end Go.Ev

/-
  One operation; regions whose order is the text's.
-/
namespace Go.Ev

theorem Agr.refl (l : List L3) (m : Mem) : Agr l m m := fun x _ => by cases x; exact ⟨rfl, fun _ _ => rfl⟩

theorem kind3 {i : I} (h : kindI i = 3) : i = .bad := by
  cases i <;> simp [kindI] at h
  rfl
theorem kind_lt (i : I) : kindI i = 0 ∨ kindI i = 1 ∨ kindI i = 2 ∨ kindI i = 3 := by cases i <;> simp [kindI]

theorem call_inv {E : Env} {pre : Pre} {o : Oper} {i : I} (hc : cOp E pre o = some i) (hk : kindI i = 2) :
    ∃ c f fa aa, o.op = .call c ∧ c.callee = .value f ∧ cA E pre f = some fa ∧ cL E pre c.args.toList = some aa ∧ i = .call fa aa := by
  cases i <;> simp [kindI] at hk
  rename_i fa aa
  unfold cOp at hc
  cases ho : o.op <;> simp only [ho] at hc
  case call c =>
    split at hc
    · rename_i f hf
      cases h1 : cA E pre f <;> cases h2 : cL E pre c.args.toList <;> simp [h1, h2] at hc
      obtain ⟨rfl, rfl⟩ := hc
      exact ⟨c, f, _, _, rfl, hf, h1, h2, rfl⟩
    · exfalso
      revert hc
      (repeat' split) <;> intro hc <;> first
        | (simp at hc; done)
        | (simp [Option.bind_eq_some_iff] at hc; done)
    · simp at hc
  all_goals (exfalso; revert hc; (repeat' split) <;> intro hc <;> first
    | (simp at hc; done)
    | (simp [Option.bind_eq_some_iff] at hc; done))

theorem no_defer {E : Env} {pre : Pre} {o : Oper} {i : I} (hc : cOp E pre o = some i) : ∀ c, o.op ≠ .defer c := fun c e => by
  unfold cOp at hc
  simp [e] at hc

theorem opt2_ok {r : RV} {k : K1} {x : X} {tm : Tm} {w : W} (h : opt2 r k = .ok x tm w) : ∃ v w1, r = .ok v w1 ∧ k v w1 = .ok x tm w := by
  cases r with
  | no => simp [opt2] at h
  | ok v w1 => exact ⟨v, w1, rfl, h⟩
theorem opt1_ok {r : Option AV} {w : W} {k : K1} {x : X} {tm : Tm} {w' : W} (h : opt1 r w k = .ok x tm w') : ∃ v, r = some v ∧ k v w = .ok x tm w' := by
  cases r with
  | none => simp [opt1] at h
  | some v => exact ⟨v, rfl, h⟩

section
variable {E : Env} {S : Lv} {pre : Pre} {R : List AV} {tm tm' : Tm} {w w' : W} {x : X}

theorem wp_gives {F : Fence} {P : Program} {o : Oper} {a : Act} {ω ω' : World} {K : Act → World → Prop} {Q : Exit → Act → World → Prop} {rd : Bool} (hF : FnOk F rd) (hd : ∀ c, o.op ≠ .defer c) {nx : Next} {v : Value} (h : (execOp a.eval o).run P ω = .ok nx ω') (hg : Gives nx v)
    (hK : K (a.put o.dst v) ω') : o.wpIn F 0 P a ω K Q := by
  refine ⟨fun f _ => hF.fn f, ?_⟩
  rw [Oper.semAt_eq _ _ _ hd, h]
  rcases hg with rfl | ⟨rfl, rfl⟩ <;> exact hK

theorem wp_call {F : Fence} {P : Program} {o : Oper} {a : Act} {ω : World} {K : Act → World → Prop} {Q : Exit → Act → World → Prop} {rd : Bool} (hF : FnOk F rd) (hd : ∀ c, o.op ≠ .defer c) {N0 : Nat} {ι : Io} {n : Dom} {v : AV} {w w1 : W}
    (h : CallR P N0 ι n w ω (execOp a.eval o) v w1) (hK : ∀ v' ω1 ι1, VR ι1 (n.upto w.nx w1.nx) v v' → Rel P N0 ι1 w1.mem (n.upto w.nx w1.nx) ω1 → Evo ι w.mem n ω ι1 w1.mem (n.upto w.nx w1.nx) ω1 → K (a.put o.dst v') ω1) : o.wpIn F 0 P a ω K Q := by
  refine ⟨fun f _ => hF.fn f, ?_⟩
  rw [Oper.semAt_eq _ _ _ hd]
  rcases h with ⟨f, vs, h1, h2⟩ | ⟨l, f, tmps, as, body, h1, h2⟩
  · rw [h1, Oper.uponIn_enter]
    refine ⟨fun h => absurd h hF.depth, ?_⟩
    have h3 : CallsIn F 0 P f vs ω (CallPost P N0 ι n w ω v w1) := by
      rcases hF with rfl | ⟨_, l, rfl⟩
      · exact h2
      · exact h2.inRound l
    refine h3.mono fun e ω1 hp => ?_
    obtain ⟨v', ι1, rfl, q1, q2, q3⟩ := hp
    exact hK v' ω1 ι1 q1 q2 q3
  · rw [h1, Oper.uponIn_round]
    refine ⟨fun h => absurd h hF.depth, ?_⟩
    have h3 : RoundIn F 0 P l f tmps as body ω (CallPost P N0 ι n w ω v w1) := by
      rcases hF with rfl | ⟨_, l, rfl⟩
      · exact h2
      · exact h2
    refine h3.mono fun e ω1 hp => ?_
    obtain ⟨v', ι1, rfl, q1, q2, q3⟩ := hp
    exact hK v' ω1 ι1 q1 q2 q3

/-- one operation, in the text's order -/
theorem op_step (hS : LvOk E.P S) {o : Oper} {i : I} (hc : cOp E pre o = some i) {k : K1} (h : exI i S R tm w k = .ok x tm' w') (hwf : WfW E.P w) :
    ∃ v w1, Chg E.P w w1 ∧ k v w1 = .ok x tm' w' ∧ ∀ (F : Fence), FnOk F E.rd → ∀ (N0 : Nat) (ι : Io) (n : Dom) (a : Act) (ω : World) (K : Act → World → Prop) (Q : Exit → Act → World → Prop), Rel E.P N0 ι w.mem n ω → OpR E pre R tm a.eval ι n → n.free w.nx w1.nx →
      (∀ v' ω1 ι1, VR ι1 (n.upto w.nx w1.nx) v v' → Rel E.P N0 ι1 w1.mem (n.upto w.nx w1.nx) ω1 → Evo ι w.mem n ω ι1 w1.mem (n.upto w.nx w1.nx) ω1 → K (a.put o.dst v') ω1) → o.wpIn F 0 E.P a ω K Q := by
  have hd := no_defer hc
  rcases kind_lt i with hk | hk | hk | hk
  · obtain ⟨pv, e1, e2⟩ := pure_sound (R := R) (tm := tm) hc hk
    rw [e1] at h
    obtain ⟨v, hv, h⟩ := opt1_ok h
    refine ⟨v, w, .refl w, h, fun F hF N0 ι n a ω K Q hR hρ hf hK => ?_⟩
    obtain ⟨v', q1, q2⟩ := e2 v hv _ ι n hρ ω
    refine wp_gives hF hd q1 (.inl rfl) (hK v' ω ι ?_ ?_ ?_)
    · rw [Dom.upto_self]; exact q2
    · rw [Dom.upto_self]; exact hR
    · rw [Dom.upto_self]; exact .refl _ _ _ _
  · obtain ⟨f, e1, e2⟩ := mem_sound (R := R) (tm := tm) hc hk
    rw [e1] at h
    obtain ⟨v, w1, hv, h⟩ := opt2_ok h
    obtain ⟨eds, heff, e3⟩ := e2 w v w1 hv
    refine ⟨v, w1, heff.chg, h, fun F hF N0 ι n a ω K Q hR hρ hf hK => ?_⟩
    obtain ⟨ι', nx, v', ω', q1, q2, q3, q4, q5⟩ := e3 N0 w.mem ι n ω _ hR hf hρ (.refl _ _)
    rw [← heff.mem] at q4 q5
    exact wp_gives hF hd q1 q2 (hK v' ω' ι' q3 q4 q5)
  · obtain ⟨c, f, fa, aa, ho, hcal, h1, h2, rfl⟩ := call_inv hc hk
    have h : opt2 (callV S (evA fa R tm) (evL aa R tm) w) k = .ok x tm' w' := h
    obtain ⟨v, w1, hv, h⟩ := opt2_ok h
    refine ⟨v, w1, callV_chg hS hv hwf, h, fun F hF N0 ι n a ω K Q hR hρ hf hK => ?_⟩
    have hcr := callV_run hS hv hwf hR hf (hρ f _ h1) (vargs := c.args.map a.eval) (by rw [Array.toList_map]; exact cL_rel hρ _ _ h2)
    refine wp_call hF hd ?_ hK
    unfold execOp
    simp only [ho, resolve, hcal]
    exact hcr
  · rw [kind3 hk] at h
    simp [exI, xBad] at h

end
end Go.Ev

/-
  Regions whose order is the text's.
-/
namespace Go.Ev

section
variable {E : Env} {S : Lv}

/-- what an operation becomes -/
def mkQ (i : I) (g : Option (OA × Bool)) (d : D) (j : Nat) (un : List Nat) (l : Q) : Q := match g, i, d with
  | none, .bin op x y, .push => .bin op x y l
  | none, .bin op x y, .keep p => .bink p op x y l
  | g, i, d => .gen i g d j un l

theorem opsL_mkQ (i : I) (g : Option (OA × Bool)) (d : D) (j : Nat) (un : List Nat) (l : Q) (R : List AV) (tm : Tm) (w : W) :
    opsL S (mkQ i g d j un l) R tm w = wantK g R tm (dstK d (.tup []) R tm (fun R' tm' => opsL S l R' tm' w)) (exI i S R tm w (fun v w' => dstK d v R tm (fun R' tm' => opsL S l R' tm' w'))) := by
  unfold mkQ
  split <;> rfl

theorem isMv_spec {o : Oper} {d : Nat} {x : Operand} (h : isMv o = some (d, x)) : o.guard = none ∧ o.dst = some d ∧ (o.op = .move x ∨ o.op = .assign x) := by
  unfold isMv at h
  split at h
  · rename_i h1 h2 h3; simp at h; obtain ⟨rfl, rfl⟩ := h; exact ⟨h1, h2, .inl h3⟩
  · rename_i h1 h2 h3; simp at h; obtain ⟨rfl, rfl⟩ := h; exact ⟨h1, h2, .inr h3⟩
  · simp at h
theorem isDf_spec {o : Oper} {f : Operand} {args : List Operand} (h : isDf o = some (f, args)) : o.guard = none ∧ o.dst = none ∧ ∃ c, o.op = .defer c ∧ c.callee = .value f ∧ c.args.toList = args := by
  unfold isDf at h
  split at h
  · rename_i c h1 h2 h3
    split at h
    · rename_i f' hf; simp at h; obtain ⟨rfl, rfl⟩ := h; exact ⟨h1, h2, c, h3, hf, rfl⟩
    · simp at h
  · simp at h

theorem mv_ok (o : Oper) (a : Act) (x : Operand) (P : Program) (ω : World) (h : o.op = .move x ∨ o.op = .assign x) : (execOp a.eval o).run P ω = .ok (.value (a.eval x)) ω := by
  unfold execOp; rcases h with h | h <;> simp [h]

theorem listT_pushD (d : AV) (tm : Tm) : listT (TR.get .u dsP (pushD d tm)) = d :: listT (TR.get .u dsP tm) := by
  unfold pushD
  rw [dsP_eq, TR.get_setN, if_pos rfl]
  rfl
theorem get_pushD (d : AV) (tm : Tm) (t : Nat) (ht : t ≠ dsI) : TR.get .u (pathOf t) (pushD d tm) = TR.get .u (pathOf t) tm := by
  unfold pushD
  rw [dsP_eq, TR.get_setN, if_neg ht]

theorem opsL_sound (hS : LvOk E.P S) (hK : Nat.testBit E.K dsI = false) (opsA : Array Oper) (un : Nat → I → List Nat) : ∀ (ops : List Oper) (pre : Pre) (j : Nat) (q : Q) (R : List AV) (tm : Tm) (w : W) (x : X) (tm' : Tm) (w' : W),
    (∀ i, ops[i]? = opsA[j + i]?) → cOps E (opsA.toList.map (·.dst)) un ops pre j = some q → opsL S q R tm w = .ok x tm' w' → WfW E.P w → x = .nrm ∧ Chg E.P w w' ∧
    ∀ (F : Fence), FnOk F E.rd → ∀ (N0 : Nat) (ι : Io) (n : Dom) (a : Act) (ω : World) (Q : Exit → Act → World → Prop), St E N0 ι n tm w a ω → PreR E pre R tm ι n a.tmps → n.free w.nx w'.nx →
      (∀ a' ω', CodePost E N0 ι n w a ω .nrm tm' w' .normal a' ω' → Q .normal a' ω') → wpOpsIn F 0 E.P opsA Q (List.range' j ops.length) a ω := by
  intro ops
  induction ops with
  | nil =>
    intro pre j q R tm w x tm' w' hi hc h hwf
    simp [cOps] at hc
    subst hc
    have h : RC.ok .nrm tm w = .ok x tm' w' := h
    cases h
    refine ⟨rfl, .refl _, fun F hF N0 ι n a ω Q hst hpre hf hQ => ?_⟩
    refine hQ a ω ⟨rfl, ι, ?_, ?_, rfl⟩
    · rw [Dom.upto_self]; exact hst
    · rw [Dom.upto_self]; exact .refl _ _ _ _
  | cons o ops ih =>
    intro pre j q R tm w x tm' w' hi hc h hwf
    have ho : opsA[j]? = some o := by have := hi 0; simpa using this.symm
    have hi' : ∀ i, ops[i]? = opsA[j + 1 + i]? := fun i => by
      have := hi (i + 1)
      rw [show j + 1 + i = j + (i + 1) by omega]
      simpa using this
    have hrange : List.range' j (o :: ops).length = j :: List.range' (j + 1) ops.length := by simp [List.range'_succ]
    rw [hrange]
    unfold cOps at hc
    split at hc
    · -- a move
      rename_i d y hmv
      obtain ⟨m1, m2, m3⟩ := isMv_spec hmv
      have hd : ∀ c, o.op ≠ .defer c := fun c e => by rcases m3 with m3 | m3 <;> rw [m3] at e <;> cases e
      split at hc
      · rename_i s hs
        split at hc
        · simp at hc
        rename_i hT
        split at hc
        · rename_i hk
          split at hc
          · rename_i oa l hoa hl
            simp at hc
            subst hc
            have h : TR.force (fun tm' => opsL S l R tm' w) (TR.set .u (evA oa R tm) (pathE d d) tm) = .ok x tm' w' := h
            rw [TR.force_eq, pathE_pathOf] at h
            obtain ⟨r1, r2, r3⟩ := ih _ _ _ _ _ _ _ _ _ hi' hl h hwf
            refine ⟨r1, r2, fun F hF N0 ι n a ω Q hst hpre hf hQ => ?_⟩
            simp only [wpOpsIn, ho, Region.wanted, m1, if_true]
            refine wp_gives hF hd (mv_ok o a y _ _ m3) (.inl rfl) ?_
            rw [m2]
            have hlt : d < a.tmps.size := by have := hst.siz; omega
            have hv : VR ι n (evA oa R tm) (a.eval y) := by rw [oaOf_val hpre.len hoa]; exact hpre.src hst.gl hs
            refine r3 F hF N0 ι n (a.put (some d) (a.eval y)) ω Q ⟨hst.rel, hst.wf, hst.tms.kept hlt hv, by simpa [Act.put] using hst.siz, fun hr => ?_⟩ (hpre.kept hv (by omega) hlt) hf (fun a' ω' hp => hQ a' ω' ?_)
            · rw [dsP_eq, TR.get_setN, if_neg (by omega), ← dsP_eq]; exact hst.dfs hr
            · obtain ⟨p1, ι', p2, p3, p4⟩ := hp
              exact ⟨p1, ι', p2, p3, by rw [p4]; simp [Act.put]⟩
          · simp at hc
        · rename_i hk
          obtain ⟨r1, r2, r3⟩ := ih _ _ _ _ _ _ _ _ _ hi' hc h hwf
          refine ⟨r1, r2, fun F hF N0 ι n a ω Q hst hpre hf hQ => ?_⟩
          simp only [wpOpsIn, ho, Region.wanted, m1, if_true]
          refine wp_gives hF hd (mv_ok o a y _ _ m3) (.inl rfl) ?_
          rw [m2]
          have hlt : d < a.tmps.size := by have := hst.siz; omega
          refine r3 F hF N0 ι n (a.put (some d) (a.eval y)) ω Q ⟨hst.rel, hst.wf, hst.tms.put hlt (by simpa using hk), by simpa [Act.put] using hst.siz, hst.dfs⟩ (hpre.aka (hpre.src hst.gl hs) (fun k e => hpre.src_lt (e ▸ hs)) (fun k e => hpre.src_v (e ▸ hs)) hlt) hf (fun a' ω' hp => hQ a' ω' ?_)
          obtain ⟨p1, ι', p2, p3, p4⟩ := hp
          exact ⟨p1, ι', p2, p3, by rw [p4]; simp [Act.put]⟩
      · simp at hc
    · split at hc
      · -- a deferred call
        rename_i f args hdf
        obtain ⟨m1, m2, c, m3, m4, m5⟩ := isDf_spec hdf
        split at hc
        · simp at hc
        rename_i hrd
        split at hc
        · rename_i fa aa l hfa haa hl
          simp at hc
          subst hc
          have h : FV.rec (motive := fun _ => RC) .no (fun _ _ _ => TR.force (fun tm' => opsL S l R tm' w) (pushD (.tup (evA fa R tm :: evL aa R tm)) tm)) (fun _ => .no) (toF (evA fa R tm)) = .ok x tm' w' := h
          cases hf' : toF (evA fa R tm) with
          | no => simp [hf'] at h
          | yl l => simp [hf'] at h
          | fn fid va vb =>
            simp only [hf', TR.force_eq] at h
            have hfv := toF_fn hf'
            rw [hfv] at h
            obtain ⟨r1, r2, r3⟩ := ih _ _ _ _ _ _ _ _ _ hi' hl h hwf
            refine ⟨r1, r2, fun F hF N0 ι n a ω Q hst hpre hf hQ => ?_⟩
            simp only [wpOpsIn, ho, Region.wanted, m1, if_true]
            have hρ := hpre.op hst.gl
            have h1 := hρ f _ hfa
            rw [hfv] at h1
            have h2 := cL_rel hρ _ _ haa
            have hrd' : E.rd = false := by simpa using hrd
            have hro : F.round = none := FnOk.round (hrd' ▸ hF)
            generalize hvf : a.eval f = vf at h1
            cases h1 with
            | f _ _ _ a' b' g1 g2 =>
              refine ⟨fun f _ => hF.fn f, ?_⟩
              have hrun : (execOp a.eval o).run E.P ω = .ok (.defer { target := .fn (.func fid) b', args := a' ++ c.args.map a.eval }) ω := by
                unfold execOp; simp [m3, resolve, m4, hvf, Deferred.ofValue]
              rw [hro, Oper.semAt_none, hrun, Oper.uponIn_defer, m2]
              refine r3 F hF N0 ι n _ ω Q ⟨hst.rel, hst.wf, fun t ht => ?_, hst.siz, fun hr => ?_⟩ ⟨hpre.len, hpre.ok, hpre.okv, hpre.kds, fun t s hs => ?_⟩ hf (fun a' ω' hp => hQ a' ω' hp)
              · rw [get_pushD _ _ _ (fun e => by rw [e, hK] at ht; cases ht)]; exact hst.tms t ht
              · rw [listT_pushD]
                exact .call fid va vb _ a' b' _ _ _ g1 g2 (by rw [Array.toList_map, m5]; exact h2) (hst.dfs hr)
              · have hv := hpre.val t s hs
                cases s with
                | v t' => simp only [srcV] at hv ⊢; rw [get_pushD _ _ _ (hpre.src_v hs)]; exact hv
                | r k => exact hv
                | c y => exact hv
                | x => exact hv
        · simp at hc
      · split at hc
        · rename_i d pre' hd
          split at hc
          · rename_i g i l hg hi0 hl
            have hq : mkQ i g d j (un j i) l = q := by
              unfold mkQ
              split at hc <;> simp at hc <;> subst hc <;> simp_all
            rw [← hq, opsL_mkQ] at h
            have hdf := no_defer hi0
            rcases want_run hg h with ⟨hr, hw⟩ | ⟨hs, hw⟩
            · obtain ⟨v, w1, c1, h1, hop⟩ := op_step hS hi0 hr hwf
              obtain ⟨R1, tm1, hk, hput⟩ := put_state hd v R tm
              rw [hk] at h1
              obtain ⟨r1, r2, r3⟩ := ih _ _ _ _ _ _ _ _ _ hi' hl h1 (c1.wf hwf)
              refine ⟨r1, c1.trans r2, fun F hF N0 ι n a ω Q hst hpre hf hQ => ?_⟩
              have hρ := hpre.op hst.gl
              simp only [wpOpsIn, ho, hw ι n a hρ, if_true]
              have n1 := c1.nx
              have n2 := r2.nx
              refine hop F hF N0 ι n a ω _ _ hst.rel hρ (fun id g1 g2 => hf id g1 (by omega)) fun v' ω1 ι1 q1 q2 q3 => ?_
              obtain ⟨s1, s2, s3⟩ := hput N0 ι1 _ w1 a ω1 v' (hst.step q2 (c1.wf hwf) q3.ext q3.le) (hpre.ext q3.ext q3.le) q1
              refine r3 F hF N0 ι1 _ _ ω1 Q s1 s2 (fun id g1 g2 => ?_) fun a' ω' hp => hQ a' ω' ?_
              · rintro (g3 | g3)
                · exact hf id (by omega) g2 g3
                · omega
              · obtain ⟨p1, ι', p2, p3, p4⟩ := hp
                rw [Dom.upto_trans _ n1 n2] at p2 p3
                exact ⟨p1, ι', p2, q3.trans p3, by rw [p4, s3]⟩
            · obtain ⟨R1, tm1, hk, hput⟩ := put_state hd (.tup []) R tm
              rw [hk] at hs
              obtain ⟨r1, r2, r3⟩ := ih _ _ _ _ _ _ _ _ _ hi' hl hs hwf
              refine ⟨r1, r2, fun F hF N0 ι n a ω Q hst hpre hf hQ => ?_⟩
              have hρ := hpre.op hst.gl
              simp only [wpOpsIn, ho, hw ι n a hρ, Bool.false_eq_true, if_false]
              obtain ⟨s1, s2, s3⟩ := hput N0 ι n w a ω undef hst hpre (.tup [] #[] .nil)
              refine ⟨fun f _ => hF.fn f, r3 F hF N0 ι n _ ω Q s1 s2 hf fun a' ω' hp => hQ a' ω' ?_⟩
              obtain ⟨p1, ι', p2, p3, p4⟩ := hp
              exact ⟨p1, ι', p2, p3, by rw [p4, s3]⟩
          · simp at hc
        · simp at hc

end
end Go.Ev

/-
  Regions that draw their order: whatever the order, the same.
-/
namespace Go.Ev

/-! ## What stands ahead -/

def befG (acc : Array Nat) (o : Oper) : Nat := o.after.foldl (fun s e => if Region.binds .any e then s ||| 2 ^ e.on ||| acc.getD e.on 0 else s) 0

theorem befG_bit (acc : Array Nat) (o : Oper) (i : Nat) (h : Nat.testBit (befG acc o) i = true) : ∃ e ∈ o.after, Region.binds .any e = true ∧ (i = e.on ∨ Nat.testBit (acc.getD e.on 0) i = true) := by
  unfold befG at h
  rw [← Array.foldl_toList] at h
  have key : ∀ (l : List Edge) (s : Nat), Nat.testBit (l.foldl (fun s e => if Region.binds .any e then s ||| 2 ^ e.on ||| acc.getD e.on 0 else s) s) i = true →
      Nat.testBit s i = true ∨ ∃ e ∈ l, Region.binds .any e = true ∧ (i = e.on ∨ Nat.testBit (acc.getD e.on 0) i = true) := by
    intro l
    induction l with
    | nil => intro s h; exact .inl h
    | cons e l ih =>
      intro s h
      rw [List.foldl_cons] at h
      rcases ih _ h with h1 | ⟨e', he', h2⟩
      · by_cases hb : Region.binds .any e = true
        · simp only [hb, if_true, Nat.testBit_or, Bool.or_eq_true] at h1
          rcases h1 with (h1 | h1) | h1
          · exact .inl h1
          · refine .inr ⟨e, by simp, hb, .inl ?_⟩
            rw [Nat.testBit_two_pow] at h1
            exact (of_decide_eq_true h1).symm
          · exact .inr ⟨e, by simp, hb, .inr h1⟩
        · simp only [hb] at h1; exact .inl h1
      · exact .inr ⟨e', by simp [he'], h2⟩
  rcases key _ _ h with h | ⟨e, he, h⟩
  · simp at h
  · exact ⟨e, by simpa using he, h⟩

theorem before_fold (l : List Oper) : (l.foldl (fun acc o => acc.push (befG acc o)) #[]).size = l.length ∧
    ∀ j o, l[j]? = some o → (∀ e ∈ o.after, Region.binds .any e = true → e.on < j) → ∀ i, Nat.testBit ((l.foldl (fun acc o => acc.push (befG acc o)) #[]).getD j 0) i = true →
      ∃ e ∈ o.after, Region.binds .any e = true ∧ (i = e.on ∨ Nat.testBit ((l.foldl (fun acc o => acc.push (befG acc o)) #[]).getD e.on 0) i = true) := by
  suffices H : ∀ (r : List Oper), ((r.reverse).foldl (fun acc o => acc.push (befG acc o)) #[]).size = r.length ∧
      ∀ j o, r.reverse[j]? = some o → (∀ e ∈ o.after, Region.binds .any e = true → e.on < j) → ∀ i, Nat.testBit ((r.reverse.foldl (fun acc o => acc.push (befG acc o)) #[]).getD j 0) i = true →
        ∃ e ∈ o.after, Region.binds .any e = true ∧ (i = e.on ∨ Nat.testBit ((r.reverse.foldl (fun acc o => acc.push (befG acc o)) #[]).getD e.on 0) i = true) by
    have := H l.reverse
    simpa using this
  intro r
  induction r with
  | nil => simp
  | cons x r ih =>
    obtain ⟨ih1, ih2⟩ := ih
    simp only [List.reverse_cons, List.foldl_append, List.foldl_cons, List.foldl_nil, Array.size_push, ih1, List.length_cons, true_and]
    generalize hA : r.reverse.foldl (fun acc o => acc.push (befG acc o)) #[] = A at *
    intro j o hj he i hb
    have getlt : ∀ k, k < r.length → (A.push (befG A x)).getD k 0 = A.getD k 0 := fun k hk => by
      simp only [Array.getD_eq_getD_getElem?, Array.getElem?_push, ih1]
      rw [if_neg (by omega)]
    by_cases hlt : j < r.length
    · rw [getlt j hlt] at hb
      rw [List.getElem?_append_left (by simpa using hlt)] at hj
      obtain ⟨e, e1, e2, e3⟩ := ih2 j o hj he i hb
      refine ⟨e, e1, e2, e3.imp id fun h => ?_⟩
      rw [getlt _ (by have := he e e1 e2; omega)]; exact h
    · have hj' : j = r.length := by
        have h1 := (List.getElem?_eq_some_iff.1 hj).1
        simp at h1; omega
      subst hj'
      have hox : o = x := by
        rw [List.getElem?_append_right (by simp)] at hj
        simpa using hj.symm
      subst hox
      have : (A.push (befG A o)).getD r.length 0 = befG A o := by simp only [Array.getD_eq_getD_getElem?, Array.getElem?_push, ih1]; simp
      rw [this] at hb
      obtain ⟨e, e1, e2, e3⟩ := befG_bit A o i hb
      refine ⟨e, e1, e2, e3.imp id fun h => ?_⟩
      rw [getlt _ (he e e1 e2)]; exact h

theorem before_spec {ops : Array Oper} (hb : ∀ (j : Nat) (o : Oper), ops[j]? = some o → ∀ e ∈ o.after, Region.binds .any e = true → e.on < j) {j : Nat} {o : Oper} (ho : ops[j]? = some o) {i : Nat} (h : Nat.testBit ((Region.before ops).toList.getD j 0) i = true) :
    ∃ e ∈ o.after, Region.binds .any e = true ∧ (i = e.on ∨ Nat.testBit ((Region.before ops).toList.getD e.on 0) i = true) := by
  have e0 : Region.before ops = ops.toList.foldl (fun acc o => acc.push (befG acc o)) #[] := by
    unfold Region.before
    rw [← Array.foldl_toList]; rfl
  have conv : ∀ k, (Region.before ops).toList.getD k 0 = (Region.before ops).getD k 0 := fun k => by
    simp [List.getD_eq_getElem?_getD]
  rw [conv, e0] at h
  obtain ⟨e, e1, e2, e3⟩ := (before_fold ops.toList).2 j o (by rw [Array.getElem?_toList]; exact ho) (hb j o ho) i h
  exact ⟨e, e1, e2, by rw [conv, e0]; exact e3⟩

def Lst (listed : Array Bool) (i : Nat) : Prop := listed.getD i false = true

/-- what stands ahead of a listed operation is listed -/
def Closed (ops : Array Oper) (listed : Array Bool) : Prop := ∀ (j : Nat) (o : Oper), Lst listed j → ops[j]? = some o → ∀ e ∈ o.after, Region.binds .any e = true → Lst listed e.on

theorem bef_listed {ops : Array Oper} (hb : ∀ (j : Nat) (o : Oper), ops[j]? = some o → ∀ e ∈ o.after, Region.binds .any e = true → e.on < j) {listed : Array Bool} (hc : Closed ops listed) : ∀ (j : Nat) (o : Oper), ops[j]? = some o → (∀ e ∈ o.after, Region.binds .any e = true → Lst listed e.on) →
    ∀ i, Nat.testBit ((Region.before ops).toList.getD j 0) i = true → Lst listed i := by
  intro j
  induction j using Nat.strongRecOn with
  | _ j ih =>
    intro o ho hl i hi
    obtain ⟨e, e1, e2, e3⟩ := before_spec hb ho hi
    rcases e3 with rfl | e3
    · exact hl e e1 e2
    · have hlt := hb j o ho e e1 e2
      have hj := (Array.getElem?_eq_some_iff.1 ho).1
      have ho' : ops[e.on]? = some ops[e.on] := Array.getElem?_eq_getElem (by omega)
      exact ih e.on hlt _ ho' (hc _ _ (hl e e1 e2) ho') i e3

/-! ## Steps with footprints -/

structure Stp where
  v : AV
  all : Bool
  rd : List L3
  wr : List L3
  a : Nat
  b : Nat

def WS (s : Stp) (id : Nat) : Prop := (s.a ≤ id ∧ id < s.b) ∨ wrS s.wr id
def WC (s : Stp) (id o : Nat) : Prop := (s.a ≤ id ∧ id < s.b) ∨ wrC s.wr id o

/-- what a step writes, over another memory -/
structure PatchR (s : Stp) (m' M M' : Mem) : Prop where
  inS : ∀ id, WS s id → M'.sh id = m'.sh id
  outS : ∀ id, ¬ WS s id → M'.sh id = M.sh id
  inC : ∀ id o, WC s id o → M'.cel id o = m'.cel id o
  outC : ∀ id o, ¬ WC s id o → M'.cel id o = M.cel id o

/-- what a step reads -/
def RdS (s : Stp) (id : Nat) : Prop := if s.all then id < s.a else ∃ x ∈ s.rd, idOf x = id
def RdC (s : Stp) (id o : Nat) : Prop := if s.all then id < s.a else ∃ x ∈ s.rd, ∃ off n, x = .mk id off n ∧ (n = 0 ∨ off ≤ o ∧ o < off + n)

/-- two steps that may change places -/
structure PairR (st : Nat → Stp) (i j : Nat) : Prop where
  rwS : ∀ id, RdS (st j) id → ¬ WS (st i) id
  rwC : ∀ id o, RdC (st j) id o → ¬ WC (st i) id o
  wrS' : ∀ id, RdS (st i) id → ¬ WS (st j) id
  wrC' : ∀ id o, RdC (st i) id o → ¬ WC (st j) id o
  wwS : ∀ id, WS (st i) id → ¬ WS (st j) id
  wwC : ∀ id o, WC (st i) id o → ¬ WC (st j) id o

/-- the temporaries that an operation names -/
def named (ops : Array Oper) (j : Nat) (t : Nat) : Prop := ∃ o, ops[j]? = some o ∧ t ∈ namesO (ops.toList.map (·.dst)) o

structure Trc (P : Program) (F : Fence) (ops : Array Oper) (Q : Exit → Act → World → Prop) (N0 T : Nat) (m : Nat → Mem) (st : Nat → Stp) (tv : Nat → Nat → AV) (dst : Nat → Option Nat) : Prop where
  dsts : ∀ (j : Nat) (o : Oper), ops[j]? = some o → dst j = o.dst
  back : ∀ (j : Nat) (o : Oper), ops[j]? = some o → ∀ e ∈ o.after, Region.binds .any e = true → e.on < j
  frS : ∀ p, p < ops.size → ∀ id, ¬ WS (st p) id → (m (p + 1)).sh id = (m p).sh id
  frC : ∀ p, p < ops.size → ∀ id o, ¬ WC (st p) id o → (m (p + 1)).cel id o = (m p).cel id o
  tvs : ∀ p, p < ops.size → ∀ t, tv (p + 1) t = .u ∨ tv (p + 1) t = if dst p = some t then (st p).v else tv p t
  rng : ∀ i j, i < j → j < ops.size → (st i).b ≤ (st j).a
  le : ∀ j, j < ops.size → (st j).a ≤ (st j).b
  pair : ∀ i j, i < j → j < ops.size → Nat.testBit ((Region.before ops).toList.getD j 0) i = false → PairR st i j
  tmp : ∀ i j t, i < ops.size → j < ops.size → i ≠ j → dst i = some t → (dst j = some t ∨ named ops j t) → Nat.testBit ((Region.before ops).toList.getD (max i j) 0) (min i j) = true
  exec : ∀ j, j < ops.size → ∀ (K : Act → World → Prop) (M : Mem) (n : Dom) (ι : Io) (a : Act) (ω : World), Rel P N0 ι M n ω → n.free (st j).a (st j).b → T ≤ a.tmps.size →
    (∀ t, named ops j t → VR ι n (tv j t) (a.tmps.getD t undef)) → (∀ id, RdS (st j) id → M.sh id = (m j).sh id) → (∀ id o, RdC (st j) id o → M.cel id o = (m j).cel id o) →
    (∀ v' ω1 ι1 M', VR ι1 (n.upto (st j).a (st j).b) (st j).v v' → PatchR (st j) (m (j + 1)) M M' → Rel P N0 ι1 M' (n.upto (st j).a (st j).b) ω1 → Evo ι M n ω ι1 M' (n.upto (st j).a (st j).b) ω1 → K (a.put (dst j) v') ω1) →
    wpOpIn F 0 P ops Q j K a ω

structure InvS (P : Program) (ops : Array Oper) (N0 : Nat) (m : Nat → Mem) (st : Nat → Stp) (tv : Nat → Nat → AV) (dst : Nat → Option Nat) (ι0 : Io) (n0 : Dom) (ω0 : World) (a0 : Act)
    (listed : Array Bool) (a : Act) (ω : World) (ι : Io) (n : Dom) (M : Mem) : Prop where
  size : listed.size = ops.size
  clo : Closed ops listed
  rel : Rel P N0 ι M n ω
  evo : Evo ι0 (m 0) n0 ω0 ι M n ω
  dom : ∀ id, n id ↔ n0 id ∨ ∃ i, Lst listed i ∧ (st i).a ≤ id ∧ id < (st i).b
  memS : ∀ id p, p ≤ ops.size → (∀ i, Lst listed i → p ≤ i → ¬ WS (st i) id) → (∀ i, i < p → ¬ Lst listed i → ¬ WS (st i) id) → M.sh id = (m p).sh id
  memC : ∀ id o p, p ≤ ops.size → (∀ i, Lst listed i → p ≤ i → ¬ WC (st i) id o) → (∀ i, i < p → ¬ Lst listed i → ¬ WC (st i) id o) → M.cel id o = (m p).cel id o
  tmp : ∀ t p, p ≤ ops.size → (∀ i, Lst listed i → p ≤ i → dst i ≠ some t) → (∀ i, i < p → ¬ Lst listed i → dst i ≠ some t) → VR ι n (tv p t) (a.tmps.getD t undef)
  siz : a.tmps.size = a0.tmps.size
  dfs : a.defers = a0.defers

theorem lst_lt {ops : Array Oper} {listed : Array Bool} (hs : listed.size = ops.size) {i : Nat} (h : Lst listed i) : i < ops.size := by
  rw [← hs]
  rcases Nat.lt_or_ge i listed.size with g | g
  · exact g
  · simp [Lst, Array.getElem?_eq_none g] at h

theorem lst_set {ops : Array Oper} {listed : Array Bool} (hs : listed.size = ops.size) {j : Nat} (hj : j < ops.size) (i : Nat) : Lst (listed.setIfInBounds j true) i ↔ i = j ∨ Lst listed i := by
  unfold Lst
  by_cases e : j = i
  · subst e; simp [hs, hj]
  · rw [getD_set_ne false e]; simp [Ne.symm e]

section
variable {P : Program} {F : Fence} {ops : Array Oper} {Q : Exit → Act → World → Prop} {N0 T : Nat} {m : Nat → Mem} {st : Nat → Stp} {tv : Nat → Nat → AV} {dst : Nat → Option Nat}

/-- between two steps nothing is written -/
theorem Trc.fromS (h : Trc P F ops Q N0 T m st tv dst) {id : Nat} : ∀ (k p : Nat), p + k ≤ ops.size → (∀ i, p ≤ i → i < p + k → ¬ WS (st i) id) → (m (p + k)).sh id = (m p).sh id := by
  intro k
  induction k with
  | zero => intro p _ _; rfl
  | succ k ih =>
    intro p hp hw
    rw [show p + (k + 1) = (p + k) + 1 by omega, h.frS (p + k) (by omega) id (hw _ (by omega) (by omega))]
    exact ih p (by omega) fun i h1 h2 => hw i h1 (by omega)
theorem Trc.fromC (h : Trc P F ops Q N0 T m st tv dst) {id o : Nat} : ∀ (k p : Nat), p + k ≤ ops.size → (∀ i, p ≤ i → i < p + k → ¬ WC (st i) id o) → (m (p + k)).cel id o = (m p).cel id o := by
  intro k
  induction k with
  | zero => intro p _ _; rfl
  | succ k ih =>
    intro p hp hw
    rw [show p + (k + 1) = (p + k) + 1 by omega, h.frC (p + k) (by omega) id o (hw _ (by omega) (by omega))]
    exact ih p (by omega) fun i h1 h2 => hw i h1 (by omega)
theorem Trc.fromT (h : Trc P F ops Q N0 T m st tv dst) {ι : Io} {n : Dom} {v : Value} {t : Nat} : ∀ (k p : Nat), p + k ≤ ops.size → (∀ i, p ≤ i → i < p + k → dst i ≠ some t) → VR ι n (tv p t) v → VR ι n (tv (p + k) t) v := by
  intro k
  induction k with
  | zero => intro p _ _ h; exact h
  | succ k ih =>
    intro p hp hw hv
    have := ih p (by omega) (fun i h1 h2 => hw i h1 (by omega)) hv
    rcases h.tvs (p + k) (by omega) t with e | e
    · rw [show p + (k + 1) = (p + k) + 1 by omega, e]; exact .u _
    · rw [if_neg (hw _ (by omega) (by omega))] at e
      rw [show p + (k + 1) = (p + k) + 1 by omega, e]; exact this

/-- the state at which a step finds what it reads -/
theorem reads_ok (h : Trc P F ops Q N0 T m st tv dst) {ι0 : Io} {n0 : Dom} {ω0 : World} {a0 : Act} {listed : Array Bool} {a : Act} {ω : World} {ι : Io} {n : Dom} {M : Mem} (hI : InvS P ops N0 m st tv dst ι0 n0 ω0 a0 listed a ω ι n M)
    {j : Nat} (hj : j < ops.size) (hun : ¬ Lst listed j) (hpre : ∀ i, Nat.testBit ((Region.before ops).toList.getD j 0) i = true → Lst listed i) :
    (∀ i, Lst listed i → Nat.testBit ((Region.before ops).toList.getD i 0) j = false) ∧ (∀ id, RdS (st j) id → M.sh id = (m j).sh id) ∧ (∀ id o, RdC (st j) id o → M.cel id o = (m j).cel id o) := by
  have later : ∀ i, Lst listed i → Nat.testBit ((Region.before ops).toList.getD i 0) j = false := fun i hi => by
    cases hb : Nat.testBit ((Region.before ops).toList.getD i 0) j with
    | false => rfl
    | true =>
      have hlt := lst_lt hI.size hi
      have ho : ops[i]? = some ops[i] := Array.getElem?_eq_getElem hlt
      exact absurd (bef_listed h.back hI.clo i _ ho (hI.clo i _ hi ho) j hb) hun
  have pr1 : ∀ i, Lst listed i → j ≤ i → PairR st j i := fun i hi hle => by
    have hne : i ≠ j := fun e => hun (e ▸ hi)
    exact h.pair j i (by omega) (lst_lt hI.size hi) (later i hi)
  have pr2 : ∀ i, i < j → ¬ Lst listed i → PairR st i j := fun i hlt hnl => by
    refine h.pair i j hlt hj ?_
    cases hb : Nat.testBit ((Region.before ops).toList.getD j 0) i with
    | false => rfl
    | true => exact absurd (hpre i hb) hnl
  refine ⟨later, fun id hr => hI.memS id j (by omega) (fun i hi hle => (pr1 i hi hle).wrS' id hr) (fun i hlt hnl => (pr2 i hlt hnl).rwS id hr),
    fun id o hr => hI.memC id o j (by omega) (fun i hi hle => (pr1 i hi hle).wrC' id o hr) (fun i hlt hnl => (pr2 i hlt hnl).rwC id o hr)⟩

theorem step_any (h : Trc P F ops Q N0 T m st tv dst) {ι0 : Io} {n0 : Dom} {ω0 : World} {a0 : Act} (hT : T ≤ a0.tmps.size) (hTd : ∀ j t, dst j = some t → t < T) (hn0 : ∀ j, j < ops.size → n0.free (st j).a (st j).b)
    {listed : Array Bool} {a : Act} {ω : World} {ι : Io} {n : Dom} {M : Mem} (hI : InvS P ops N0 m st tv dst ι0 n0 ω0 a0 listed a ω ι n M) {j : Nat} (hr : j ∈ Region.ready .any ops listed) {K : Act → World → Prop}
    (hK : ∀ a' ω' ι' n' M', InvS P ops N0 m st tv dst ι0 n0 ω0 a0 (listed.setIfInBounds j true) a' ω' ι' n' M' → K a' ω') : wpOpIn F 0 P ops Q j K a ω := by
  obtain ⟨hun', o, ho, hed⟩ := mem_ready.1 hr
  have hj : j < ops.size := (Array.getElem?_eq_some_iff.1 ho).1
  have hun : ¬ Lst listed j := fun hl => by
    unfold Lst at hl
    rw [Array.getD_eq_getD_getElem?] at hl hun'
    cases hq : listed[j]? with
    | none => simp [hq] at hl
    | some b => simp [hq] at hl hun'; rw [hl] at hun'; cases hun'
  have hpre : ∀ i, Nat.testBit ((Region.before ops).toList.getD j 0) i = true → Lst listed i := bef_listed h.back hI.clo j o ho hed
  obtain ⟨later, rdS, rdC⟩ := reads_ok h hI hj hun hpre
  have unord : ∀ i, Lst listed i → j < i → PairR st j i := fun i hi hlt => h.pair j i hlt (lst_lt hI.size hi) (later i hi)
  have free : n.free (st j).a (st j).b := fun id h1 h2 hn => by
    rcases (hI.dom id).1 hn with g | ⟨i, gi, g1, g2⟩
    · exact hn0 j hj id h1 h2 g
    · have hne : i ≠ j := fun e => hun (e ▸ gi)
      have hlt := lst_lt hI.size gi
      rcases Nat.lt_or_gt_of_ne hne with q | q
      · have := h.rng i j q hj; omega
      · have := h.rng j i q hlt; omega
  have tmpsj : ∀ t, named ops j t → VR ι n (tv j t) (a.tmps.getD t undef) := fun t ht => by
    refine hI.tmp t j (by omega) (fun i hi hle hd => ?_) (fun i hlt hnl hd => ?_)
    · have hne : i ≠ j := fun e => hun (e ▸ hi)
      have := h.tmp i j t (lst_lt hI.size hi) hj hne hd (.inr ht)
      rw [Nat.max_eq_left hle, Nat.min_eq_right hle, later i hi] at this
      cases this
    · have := h.tmp i j t (by omega) hj (by omega) hd (.inr ht)
      rw [Nat.max_eq_right (by omega), Nat.min_eq_left (by omega)] at this
      exact hnl (hpre i this)
  refine h.exec j hj K M n ι a ω hI.rel free (by rw [hI.siz]; exact hT) tmpsj rdS rdC fun v' ω1 ι1 M' hv hP hR hE => ?_
  have hset := lst_set hI.size hj
  have hsz : ∀ d, (a.put d v').tmps.size = a.tmps.size := fun d => by cases d <;> simp [Act.put]
  refine hK _ ω1 ι1 _ M' ⟨by simpa using hI.size, ?_, hR, hI.evo.trans hE, ?_, ?_, ?_, ?_, ?_, ?_⟩
  · intro k ok hk hok e he hb
    rw [hset] at hk ⊢
    rcases hk with rfl | hk
    · rw [ho] at hok; cases hok; exact .inr (hed e he hb)
    · exact .inr (hI.clo k ok hk hok e he hb)
  · intro id
    simp only [Dom.upto, hI.dom]
    constructor
    · rintro ((g | ⟨i, g1, g2⟩) | g)
      · exact .inl g
      · exact .inr ⟨i, (hset i).2 (.inr g1), g2⟩
      · exact .inr ⟨j, (hset j).2 (.inl rfl), g⟩
    · rintro (g | ⟨i, g1, g2⟩)
      · exact .inl (.inl g)
      · rcases (hset i).1 g1 with rfl | g1
        · exact .inr g2
        · exact .inl (.inr ⟨i, g1, g2⟩)
  · intro id p hp h1 h2
    by_cases hw : WS (st j) id
    · rw [hP.inS id hw]
      have hjp : j < p := by
        rcases Nat.lt_or_ge j p with g | g
        · exact g
        · exact absurd hw (h1 j ((hset j).2 (.inl rfl)) g)
      have := h.fromS (id := id) (p - (j + 1)) (j + 1) (by omega) (fun i g1 g2 hwi => ?_)
      · rw [show j + 1 + (p - (j + 1)) = p by omega] at this; exact this.symm
      · by_cases hl : Lst listed i
        · exact (unord i hl (by omega)).wwS id hw hwi
        · exact h2 i (by omega) (fun hl' => by rcases (hset i).1 hl' with e | e
                                               · omega
                                               · exact hl e) hwi
    · rw [hP.outS id hw]
      refine hI.memS id p hp (fun i hi hle => h1 i ((hset i).2 (.inr hi)) hle) (fun i hlt hnl => ?_)
      by_cases e : i = j
      · subst e; exact hw
      · exact h2 i hlt fun hl' => by rcases (hset i).1 hl' with e' | e'
                                     · exact e e'
                                     · exact hnl e'
  · intro id oo p hp h1 h2
    by_cases hw : WC (st j) id oo
    · rw [hP.inC id oo hw]
      have hjp : j < p := by
        rcases Nat.lt_or_ge j p with g | g
        · exact g
        · exact absurd hw (h1 j ((hset j).2 (.inl rfl)) g)
      have := h.fromC (id := id) (o := oo) (p - (j + 1)) (j + 1) (by omega) (fun i g1 g2 hwi => ?_)
      · rw [show j + 1 + (p - (j + 1)) = p by omega] at this; exact this.symm
      · by_cases hl : Lst listed i
        · exact (unord i hl (by omega)).wwC id oo hw hwi
        · exact h2 i (by omega) (fun hl' => by rcases (hset i).1 hl' with e | e
                                               · omega
                                               · exact hl e) hwi
    · rw [hP.outC id oo hw]
      refine hI.memC id oo p hp (fun i hi hle => h1 i ((hset i).2 (.inr hi)) hle) (fun i hlt hnl => ?_)
      by_cases e : i = j
      · subst e; exact hw
      · exact h2 i hlt fun hl' => by rcases (hset i).1 hl' with e' | e'
                                     · exact e e'
                                     · exact hnl e'
  · intro t p hp h1 h2
    have hput : (a.put (dst j) v').tmps.getD t undef = if dst j = some t then v' else a.tmps.getD t undef := by
      cases hd : dst j with
      | none => simp [Act.put]
      | some d =>
        simp only [Act.put, Option.some.injEq]
        rw [getD_put _ _ _ _ (by rw [hI.siz]; have := hTd j d hd; omega)]
        by_cases e : t = d
        · simp [e]
        · simp [e, Ne.symm e]
    rw [hput]
    by_cases hd : dst j = some t
    · rw [if_pos hd]
      have hjp : j < p := by
        rcases Nat.lt_or_ge j p with g | g
        · exact g
        · exact absurd hd (h1 j ((hset j).2 (.inl rfl)) g)
      have base : VR ι1 (n.upto (st j).a (st j).b) (tv (j + 1) t) v' := by
        rcases h.tvs j hj t with e | e
        · rw [e]; exact .u _
        · rw [e, if_pos hd]; exact hv
      have := h.fromT (t := t) (p - (j + 1)) (j + 1) (by omega) (fun i g1 g2 hdi => ?_) base
      · rwa [show j + 1 + (p - (j + 1)) = p by omega] at this
      · by_cases hl : Lst listed i
        · have := h.tmp i j t (by omega) hj (by omega) hdi (.inl hd)
          rw [Nat.max_eq_left (by omega), Nat.min_eq_right (by omega), later i hl] at this
          cases this
        · exact h2 i (by omega) (fun hl' => by rcases (hset i).1 hl' with e | e
                                               · omega
                                               · exact hl e) hdi
    · rw [if_neg hd]
      refine VR.ext hE.ext hE.le (hI.tmp t p hp (fun i hi hle => h1 i ((hset i).2 (.inr hi)) hle) (fun i hlt hnl => ?_))
      by_cases e : i = j
      · subst e; exact hd
      · exact h2 i hlt fun hl' => by rcases (hset i).1 hl' with e' | e'
                                     · exact e e'
                                     · exact hnl e'
  · rw [hsz]; exact hI.siz
  · cases dst j <;> exact hI.dfs

theorem countP_lt {p q : Nat → Bool} : ∀ (l : List Nat), (∀ x, q x = true → p x = true) → ∀ {i : Nat}, i ∈ l → p i = true → q i = false → l.countP q < l.countP p := by
  intro l
  induction l with
  | nil => intro _ i hi; cases hi
  | cons x l ih =>
    intro hpq i hi h1 h2
    have hle : l.countP q ≤ l.countP p := List.countP_mono_left fun y _ hy => hpq y hy
    rw [List.countP_cons, List.countP_cons]
    rcases List.mem_cons.1 hi with rfl | hi
    · simp [h1, h2]; omega
    · have := ih hpq hi h1 h2
      cases hq : q x with
      | true => simp [hpq x hq]; omega
      | false => cases p x <;> simp <;> omega

def cntU (N : Nat) (listed : Array Bool) : Nat := (List.range N).countP fun i => !listed.getD i true

theorem all_listed {listed : Array Bool} (hb : ∀ (j : Nat) (o : Oper), ops[j]? = some o → ∀ e ∈ o.after, Region.binds .any e = true → e.on < j) (hs : listed.size = ops.size) (hr : Region.ready .any ops listed = []) : ∀ j, j < ops.size → Lst listed j := by
  intro j
  induction j using Nat.strongRecOn with
  | _ j ih =>
    intro hj
    by_cases h : Lst listed j
    · exact h
    · exfalso
      have ho : ops[j]? = some ops[j] := Array.getElem?_eq_getElem hj
      have : j ∈ Region.ready .any ops listed := by
        rw [mem_ready]
        refine ⟨?_, _, ho, fun e he hbd => ih e.on (hb j _ ho e he hbd) (by have := hb j _ ho e he hbd; omega)⟩
        have hjl : j < listed.size := by omega
        unfold Lst at h
        simp [Array.getElem?_eq_getElem hjl] at h ⊢
        exact h
      rw [hr] at this; cases this

theorem draw_any (h : Trc P F ops Q N0 T m st tv dst) {ι0 : Io} {n0 : Dom} {ω0 : World} {a0 : Act} (hT : T ≤ a0.tmps.size) (hTd : ∀ j t, dst j = some t → t < T) (hn0 : ∀ j, j < ops.size → n0.free (st j).a (st j).b)
    (hQ : ∀ a ω ι n M, (∃ listed, (∀ j, j < ops.size → Lst listed j) ∧ InvS P ops N0 m st tv dst ι0 n0 ω0 a0 listed a ω ι n M) → Q .normal a ω) :
    ∀ (fuel : Nat) (listed : Array Bool) (a : Act) (ω : World) (ι : Io) (n : Dom) (M : Mem), InvS P ops N0 m st tv dst ι0 n0 ω0 a0 listed a ω ι n M → cntU ops.size listed ≤ fuel → wpAnyIn F 0 P .any ops Q fuel listed a ω := by
  intro fuel
  induction fuel with
  | zero =>
    intro listed a ω ι n M hI hc
    have hr : Region.ready .any ops listed = [] := by
      cases hq : Region.ready .any ops listed with
      | nil => rfl
      | cons j r =>
        have hj : j ∈ Region.ready .any ops listed := by rw [hq]; simp
        obtain ⟨h1, o, ho, _⟩ := mem_ready.1 hj
        have hlt := (Array.getElem?_eq_some_iff.1 ho).1
        have : 0 < cntU ops.size listed := List.countP_pos_iff.2 ⟨j, by simpa using hlt, by simpa using h1⟩
        omega
    exact ⟨hr, hQ a ω ι n M ⟨listed, all_listed h.back hI.size hr, hI⟩⟩
  | succ fuel ih =>
    intro listed a ω ι n M hI hc
    refine ⟨fun hr => hQ a ω ι n M ⟨listed, all_listed h.back hI.size hr, hI⟩, fun j hj => ?_⟩
    refine step_any h hT hTd hn0 hI hj fun a' ω' ι' n' M' hI' => ih _ a' ω' ι' n' M' hI' ?_
    obtain ⟨h1, o, ho, _⟩ := mem_ready.1 hj
    have hlt := (Array.getElem?_eq_some_iff.1 ho).1
    have : cntU ops.size (listed.setIfInBounds j true) < cntU ops.size listed := by
      refine countP_lt _ (fun x hx => ?_) (i := j) (by simpa using hlt) (by simpa using h1) ?_
      · by_cases e : j = x
        · subst e
          have hls : j < listed.size := by rw [hI.size]; exact hlt
          simp [hls] at hx
        · rw [getD_set_ne true e] at hx; exact hx
      · have hls : j < listed.size := by rw [hI.size]; exact hlt
        simp [hls]
    omega

end
end Go.Ev

/-
  An operation, seen from its own operands alone.
-/
namespace Go.Ev

section
variable {E E' : Env} {pre pre' : Pre}

theorem cL_congr : ∀ (xs : List Operand), (∀ x ∈ xs, cA E' pre' x = cA E pre x) → cL E' pre' xs = cL E pre xs := by
  intro xs
  induction xs with
  | nil => intro _; rfl
  | cons x r ih => intro h; simp only [cL, h x (by simp), ih fun y hy => h y (by simp [hy])]
theorem cQ_congr (x : Option Operand) (h : ∀ y ∈ x.toList, cA E' pre' y = cA E pre y) : cQ E' pre' x = cQ E pre x := by
  cases x with
  | none => rfl
  | some x => simp only [cQ, h x (by simp)]
theorem cPS_congr (pl : List (Nat × Nat)) : ∀ (xs : List (Nat × Operand)), (∀ x ∈ xs.map (·.2), cA E' pre' x = cA E pre x) → cPS E' pre' pl xs = cPS E pre pl xs := by
  intro xs
  induction xs with
  | nil => intro _; rfl
  | cons x r ih => intro h; obtain ⟨i, x⟩ := x; simp only [cPS, h x (by simp), ih fun y hy => h y (by simp at hy ⊢; exact .inr hy)]
theorem cPA_congr (n : Nat) : ∀ (xs : List (Nat × Operand)), (∀ x ∈ xs.map (·.2), cA E' pre' x = cA E pre x) → cPA E' pre' n xs = cPA E pre n xs := by
  intro xs
  induction xs with
  | nil => intro _; rfl
  | cons x r ih => intro h; obtain ⟨i, x⟩ := x; simp only [cPA, h x (by simp), ih fun y hy => h y (by simp at hy ⊢; exact .inr hy)]

theorem cOp_congr {o : Oper} (hP : E'.P = E.P) (h : ∀ x ∈ o.op.operands.toList, cA E' pre' x = cA E pre x) : cOp E' pre' o = cOp E pre o := by
  obtain ⟨P', K', T', rd'⟩ := E'
  simp only at hP
  subst hP
  unfold cOp
  cases ho : o.op with
  | build t ps =>
    simp only [ho, Op.operands] at h
    have h1 := fun pl => cPS_congr (E' := ⟨E.P, K', T', rd'⟩) (pre' := pre') pl ps.toList (by simpa using h)
    have h2 := fun n => cPA_congr (E' := ⟨E.P, K', T', rd'⟩) (pre' := pre') n ps.toList (by simpa using h)
    simp only [h1, h2]
  | buildSlice t n ps =>
    simp only [ho, Op.operands] at h
    have h2 := fun n => cPA_congr (E' := ⟨E.P, K', T', rd'⟩) (pre' := pre') n ps.toList (by simpa using h)
    simp only [h2]
  | makeFunc fn first cap =>
    simp only [ho, Op.operands] at h
    have h1 := cL_congr (E' := ⟨E.P, K', T', rd'⟩) (pre' := pre') first.toList (fun x hx => h x (by simp at hx ⊢; exact .inl hx))
    have h2 := cL_congr (E' := ⟨E.P, K', T', rd'⟩) (pre' := pre') cap.toList (fun x hx => h x (by simp at hx ⊢; exact .inr hx))
    simp only [h1, h2]
  | slice t x lo hi mx =>
    simp only [ho, Op.operands] at h
    have h0 := h x (by simp)
    have h1 := cQ_congr (E' := ⟨E.P, K', T', rd'⟩) (pre' := pre') lo (fun y hy => h y (by simp at hy ⊢; simp [hy]))
    have h2 := cQ_congr (E' := ⟨E.P, K', T', rd'⟩) (pre' := pre') hi (fun y hy => h y (by simp at hy ⊢; simp [hy]))
    have h3 := cQ_congr (E' := ⟨E.P, K', T', rd'⟩) (pre' := pre') mx (fun y hy => h y (by simp at hy ⊢; simp [hy]))
    simp only [h0, h1, h2, h3]
  | call c =>
    simp only [ho, Op.operands, Call.operands] at h
    cases hc : c.callee with
    | value f =>
      simp only [hc] at h
      have h1 := cL_congr (E' := ⟨E.P, K', T', rd'⟩) (pre' := pre') c.args.toList (fun x hx => h x (by simp at hx ⊢; simp [hx]))
      have h0 := h f (by simp)
      simp only [hc, h0, h1]
    | builtin b =>
      simp only [hc] at h
      have h1 : ∀ x ∈ c.args.toList, cA ⟨E.P, K', T', rd'⟩ pre' x = cA E pre x := fun x hx => h x (by simp at hx ⊢; simp [hx])
      simp only [hc]
      generalize hargs : c.args.toList = al at h1
      generalize c.argTypes.toList = tl
      rcases al with _ | ⟨x, _ | ⟨y, _ | ⟨z, al⟩⟩⟩
      · cases b <;> rfl
      · have hx := h1 x (by simp)
        cases b <;> first
          | rfl
          | (rcases tl with _ | ⟨t, _ | ⟨u, tl⟩⟩ <;> first
              | rfl
              | simp only [hx])
      · have hx := h1 x (by simp)
        have hy := h1 y (by simp)
        cases b <;> first
          | rfl
          | simp only [hx, hy]
          | (rcases tl with _ | ⟨t, _ | ⟨u, _ | ⟨v, tl⟩⟩⟩ <;> first
              | rfl
              | simp only [hx, hy])
      · cases b <;> rfl
    | invoke recv name => simp only [hc]
  | _ => (try rfl) <;> (simp [ho, Op.operands] at h; simp [h])

end
end Go.Ev

/-
  Drawn regions: what the steps are made of.
-/
namespace Go.Ev

/-! ## Edits, as patches -/

def TS : List Ed → Nat → Prop
  | [], _ => False
  | .put i _ _ :: r, id => id = i ∨ TS r id
  | .wr .. :: r, id => TS r id
def TC : List Ed → Nat → Nat → Prop
  | [], _, _ => False
  | .put i _ _ :: r, id, o => id = i ∨ TC r id o
  | .wr i off vs :: r, id, o => (id = i ∧ off ≤ o ∧ o < off + vs.length) ∨ TC r id o

theorem aps_outS : ∀ (es : List Ed) (M : Mem) (id : Nat), ¬ TS es id → (aps es M).sh id = M.sh id := by
  intro es
  induction es with
  | nil => intro M id _; rfl
  | cons e es ih =>
    intro M id h
    cases e with
    | put i s f =>
      simp only [TS, not_or] at h
      simp only [aps, Ed.ap]
      rw [ih _ _ h.2]; simp [Mem.put, h.1]
    | wr i off vs => simp only [TS] at h; simp only [aps, Ed.ap]; rw [ih _ _ h]; rfl
theorem aps_outC : ∀ (es : List Ed) (M : Mem) (id o : Nat), ¬ TC es id o → (aps es M).cel id o = M.cel id o := by
  intro es
  induction es with
  | nil => intro M id o _; rfl
  | cons e es ih =>
    intro M id o h
    cases e with
    | put i s f =>
      simp only [TC, not_or] at h
      simp only [aps, Ed.ap]
      rw [ih _ _ _ h.2]; simp [Mem.put, h.1]
    | wr i off vs =>
      simp only [TC, not_or] at h
      simp only [aps, Ed.ap]
      rw [ih _ _ _ h.2]; simp only [Mem.wr, h.1, if_false]
theorem aps_inS : ∀ (es : List Ed) (M M' : Mem) (id : Nat), TS es id → (aps es M).sh id = (aps es M').sh id := by
  intro es
  induction es with
  | nil => intro M M' id h; exact h.elim
  | cons e es ih =>
    intro M M' id h
    by_cases g : TS es id
    · simp only [aps]; exact ih _ _ _ g
    · simp only [aps]
      rw [aps_outS _ _ _ g, aps_outS _ _ _ g]
      cases e with
      | put i s f => simp only [TS] at h; rcases h with h | h
                     · simp [Ed.ap, Mem.put, h]
                     · exact absurd h g
      | wr i off vs => exact absurd h g
theorem aps_inC : ∀ (es : List Ed) (M M' : Mem) (id o : Nat), TC es id o → (aps es M).cel id o = (aps es M').cel id o := by
  intro es
  induction es with
  | nil => intro M M' id o h; exact h.elim
  | cons e es ih =>
    intro M M' id o h
    by_cases g : TC es id o
    · simp only [aps]; exact ih _ _ _ _ g
    · simp only [aps]
      rw [aps_outC _ _ _ _ g, aps_outC _ _ _ _ g]
      cases e with
      | put i s f => simp only [TC] at h; rcases h with h | h
                     · simp [Ed.ap, Mem.put, h]
                     · exact absurd h g
      | wr i off vs => simp only [TC] at h; rcases h with h | h
                       · simp only [Ed.ap, Mem.wr, h.1, h.2, and_self, if_true]
                       · exact absurd h g

/-- nothing behind the last object -/
def Top (w : W) : Prop := ∀ id, w.nx ≤ id → w.ob id = .no

theorem wrS_mono {l l' : List L3} (h : ∃ k, l' = k ++ l) {id : Nat} (hw : wrS l id) : wrS l' id := by
  obtain ⟨k, rfl⟩ := h; obtain ⟨x, hx, off, e⟩ := hw; exact ⟨x, List.mem_append_right _ hx, off, e⟩
theorem wrC_mono {l l' : List L3} (h : ∃ k, l' = k ++ l) {id o : Nat} (hw : wrC l id o) : wrC l' id o := by
  obtain ⟨k, rfl⟩ := h; obtain ⟨x, hx, off, n, e⟩ := hw; exact ⟨x, List.mem_append_right _ hx, off, n, e⟩

theorem Chg.ext {P : Program} {w w' : W} (h : Chg P w w') : ∃ k, w'.wl = k ++ w.wl := let ⟨l, e, _⟩ := h.wl; ⟨l, e⟩

/-- what the edits touch -/
theorem eff_touch {w w' : W} {es : List Ed} (h : Eff w w' es) : Top w → w.bs ≤ w.nx →
    (∀ id, TS es id → (w.nx ≤ id ∧ id < w'.nx) ∨ wrS w'.wl id ∨ (w.bs ≤ id ∧ id < w.nx)) ∧ (∀ id, w.nx ≤ id ∧ id < w'.nx → TS es id) ∧ (∀ id, wrS w'.wl id → wrS w.wl id ∨ TS es id) ∧
    (∀ id o, TC es id o → (w.nx ≤ id ∧ id < w'.nx) ∨ wrC w'.wl id o ∨ (w.bs ≤ id ∧ id < w.nx)) ∧ (∀ id o, w.nx ≤ id ∧ id < w'.nx → TC es id o) ∧ (∀ id o, wrC w'.wl id o → wrC w.wl id o ∨ TC es id o) := by
  induction h with
  | nil w => intro _ _; exact ⟨fun _ h => h.elim, fun _ h => by omega, fun _ h => .inl h, fun _ _ h => h.elim, fun _ _ h => by omega, fun _ _ h => .inl h⟩
  | new w w' o es ho heff ih =>
    intro ht hb
    obtain ⟨i1, i2, i3, i4, i5, i6⟩ := ih ((Chg.add (P := default) (.of_isLp ho) w).top ht) (by simp; omega)
    have hnx := heff.nx
    simp only [W.nx_add, W.bs_add, W.wl_add] at i1 i2 i3 i4 i5 i6 hnx
    refine ⟨?_, ?_, ?_, ?_, ?_, ?_⟩
    · rintro id (rfl | h)
      · exact .inl ⟨Nat.le_refl _, by omega⟩
      · rcases i1 id h with g | g | g
        · exact .inl ⟨by omega, g.2⟩
        · exact .inr (.inl g)
        · by_cases e : id = w.nx
          · exact .inl ⟨by omega, by omega⟩
          · exact .inr (.inr ⟨g.1, by omega⟩)
    · intro id h
      by_cases e : id = w.nx
      · exact .inl e
      · exact .inr (i2 id ⟨by omega, h.2⟩)
    · intro id h; rcases i3 id h with g | g
      · exact .inl g
      · exact .inr (.inr g)
    · rintro id oo (rfl | h)
      · exact .inl ⟨Nat.le_refl _, by omega⟩
      · rcases i4 id oo h with g | g | g
        · exact .inl ⟨by omega, g.2⟩
        · exact .inr (.inl g)
        · by_cases e : id = w.nx
          · exact .inl ⟨by omega, by omega⟩
          · exact .inr (.inr ⟨g.1, by omega⟩)
    · intro id oo h
      by_cases e : id = w.nx
      · exact .inl e
      · exact .inr (i5 id oo ⟨by omega, h.2⟩)
    · intro id oo h; rcases i6 id oo h with g | g
      · exact .inl g
      · exact .inr (.inr g)
  | put w w' i o es hro hne ho heff ih =>
    intro ht hb
    have c := Chg.set (P := default) (off := 0) (.of_isLp ho) hro hne (.inl rfl)
    obtain ⟨i1, i2, i3, i4, i5, i6⟩ := ih (c.top ht) (by simpa using hb)
    have hext := heff.chg (P := default) |>.ext
    have hlt : i < w.nx := by
      rcases Nat.lt_or_ge i w.nx with g | g
      · exact g
      · exact absurd (ht i g) hne
    simp only [W.nx_set, W.bs_set, W.wl_set, note_eq] at i1 i2 i3 i4 i5 i6 hext
    have self : (i < w.bs ∧ wrS w'.wl i ∧ ∀ o, wrC w'.wl i o) ∨ (w.bs ≤ i) := by
      by_cases g : i < w.bs
      · simp only [g, if_true] at hext
        exact .inl ⟨g, wrS_mono hext ⟨_, List.mem_cons_self, 0, rfl⟩, fun o => wrC_mono hext ⟨_, List.mem_cons_self, 0, 0, rfl, .inl rfl⟩⟩
      · exact .inr (by omega)
    refine ⟨?_, ?_, ?_, ?_, ?_, ?_⟩
    · rintro id (rfl | h)
      · rcases self with g | g
        · exact .inr (.inl g.2.1)
        · exact .inr (.inr ⟨g, hlt⟩)
      · exact i1 id h
    · intro id h; exact .inr (i2 id h)
    · intro id h
      rcases i3 id h with g | g
      · split at g
        · obtain ⟨x, hx, off, e⟩ := g
          rcases List.mem_cons.1 hx with rfl | hx
          · cases e; exact .inr (.inl rfl)
          · exact .inl ⟨x, hx, off, e⟩
        · exact .inl g
      · exact .inr (.inr g)
    · rintro id oo (rfl | h)
      · rcases self with g | g
        · exact .inr (.inl (g.2.2 oo))
        · exact .inr (.inr ⟨g, hlt⟩)
      · exact i4 id oo h
    · intro id oo h; exact .inr (i5 id oo h)
    · intro id oo h
      rcases i6 id oo h with g | g
      · split at g
        · obtain ⟨x, hx, off, n, e, g⟩ := g
          rcases List.mem_cons.1 hx with rfl | hx
          · cases e; exact .inr (.inl rfl)
          · exact .inl ⟨x, hx, off, n, e, g⟩
        · exact .inl g
      · exact .inr (.inr g)
  | wr w w' i off m vs t t' es hro hvs h3 h4 heff ih =>
    intro ht hb
    have hne : w.ob i ≠ .no := by rw [h3]; simp
    obtain ⟨_, _, s3⟩ := storeL_spec _ _ _ _ h4
    have c : Chg default w (w.set i off vs.length (.cs m t')) := Chg.set (P := default) (.of_isLp rfl) hro hne (.inr ⟨by simp [shOf, W.mem, h3], fun x hx => by simp only [celOf, W.mem, h3, s3, hx, if_false]⟩)
    obtain ⟨i1, i2, i3, i4, i5, i6⟩ := ih (c.top ht) (by simpa using hb)
    have hext := heff.chg (P := default) |>.ext
    have hlt : i < w.nx := by
      rcases Nat.lt_or_ge i w.nx with g | g
      · exact g
      · exact absurd (ht i g) hne
    have hpos : vs.length ≠ 0 := fun e => hvs (List.eq_nil_of_length_eq_zero e)
    simp only [W.nx_set, W.bs_set, W.wl_set, note_eq] at i1 i2 i3 i4 i5 i6 hext
    refine ⟨fun id h => i1 id h, fun id h => i2 id h, ?_, ?_, ?_, ?_⟩
    · intro id h
      rcases i3 id h with g | g
      · split at g
        · obtain ⟨x, hx, off', e⟩ := g
          rcases List.mem_cons.1 hx with rfl | hx
          · simp only [L3.mk.injEq] at e; exact absurd e.2.2 hpos
          · exact .inl ⟨x, hx, off', e⟩
        · exact .inl g
      · exact .inr g
    · rintro id oo (⟨rfl, h1, h2⟩ | h)
      · by_cases g : id < w.bs
        · simp only [g, if_true] at hext
          exact .inr (.inl (wrC_mono hext ⟨_, List.mem_cons_self, off, vs.length, rfl, .inr ⟨h1, h2⟩⟩))
        · exact .inr (.inr ⟨by omega, hlt⟩)
      · exact i4 id oo h
    · intro id oo h; exact .inr (i5 id oo h)
    · intro id oo h
      rcases i6 id oo h with g | g
      · split at g
        · obtain ⟨x, hx, off', n, e, g⟩ := g
          rcases List.mem_cons.1 hx with rfl | hx
          · cases e
            rcases g with g | g
            · exact absurd g hpos
            · exact .inr (.inl ⟨rfl, g⟩)
          · exact .inl ⟨x, hx, off', n, e, g⟩
        · exact .inl g
      · exact .inr (.inr g)

/-- an operation's edits, as a patch -/
theorem eff_patch {w w' : W} {es : List Ed} (h : Eff w.open' w' es) (ht : Top w) {v : AV} {all : Bool} {rd : List L3} (M : Mem) : PatchR ⟨v, all, rd, w'.wl, w.nx, w'.nx⟩ w'.mem M (aps es M) := by
  have ht' : Top w.open' := by cases w; exact ht
  have e1 : w.open'.nx = w.nx := by cases w; rfl
  have e2 : w.open'.bs = w.nx := by cases w; rfl
  have e3 : w.open'.wl = [] := by cases w; rfl
  obtain ⟨i1, i2, i3, i4, i5, i6⟩ := eff_touch h ht' (by rw [e1, e2]; exact Nat.le_refl _)
  rw [e1] at i1 i2 i4 i5
  rw [e2] at i1 i4
  rw [e3] at i3 i6
  have noS : ∀ id, ¬ wrS [] id := fun id ⟨x, hx, _⟩ => by cases hx
  have noC : ∀ id o, ¬ wrC [] id o := fun id o ⟨x, hx, _⟩ => by cases hx
  rw [h.mem]
  refine ⟨fun id hw => ?_, fun id hw => ?_, fun id o hw => ?_, fun id o hw => ?_⟩
  · refine aps_inS es _ _ id ?_
    rcases hw with hw | hw
    · exact i2 id hw
    · exact (i3 id hw).resolve_left (noS id)
  · refine aps_outS es _ id fun ht => hw ?_
    rcases i1 id ht with g | g | g
    · exact .inl g
    · exact .inr g
    · omega
  · refine aps_inC es _ _ id o ?_
    rcases hw with hw | hw
    · exact i5 id o hw
    · exact (i6 id o hw).resolve_left (noC id o)
  · refine aps_outC es _ id o fun ht => hw ?_
    rcases i4 id o ht with g | g | g
    · exact .inl g
    · exact .inr g
    · omega

/-! ## Objects that a call does not know -/

theorem Rel.frame {P : Program} {N0 : Nat} {ι ι1 : Io} {A A' M M' : Mem} {n n1 : Dom} {ω ω1 : World} (hM : Rel P N0 ι M n ω) (hs : Sub A M) (hR : Rel P N0 ι1 A' n1 ω1) (hE : Evo ι A n ω ι1 A' n1 ω1)
    (hro : ∀ id, id < roN → A'.sh id = A.sh id)
    (hx : ∀ id, M'.sh id ≠ .no → (A'.sh id ≠ .no ∧ M'.sh id = A'.sh id ∧ M'.cel id = A'.cel id) ∨ (A.sh id = .no ∧ A'.sh id = .no ∧ M'.sh id = M.sh id ∧ M'.cel id = M.cel id)) :
    Rel P N0 ι1 M' n1 ω1 ∧ Evo ι M n ω ι1 M' n1 ω1 := by
  have extra : ∀ id, A.sh id = .no → M.sh id ≠ .no → ι1 id = ι id ∧ ω1.heap[(ι id).blk]? = ω.heap[(ι id).blk]? := fun id ha hm => by
    refine ⟨hE.ext id (hM.lt id hm), hE.frame _ (hM.size id hm) fun id' h1 h2 e => ?_⟩
    have : id' = id := hM.inj id' id h2 (by rw [hs.sh id' h1]; exact h1) hm e
    subst this; exact h1 ha
  have apart : ∀ i j, (roN ≤ i ∨ roN ≤ j) → A'.sh i ≠ .no → A.sh j = .no → A'.sh j = .no → M.sh j ≠ .no → (ι1 i).blk ≠ (ι1 j).blk := fun i j hij hi ha ha' hm hb => by
    obtain ⟨e1, _⟩ := extra j ha hm
    rw [e1] at hb
    by_cases hr : roN ≤ i
    · obtain ⟨k, k1, k2, k3⟩ := hE.own i hi hr (by rw [hb]; exact hM.size j hm)
      have : k = j := hM.inj k j k2 (by rw [hs.sh k k1]; exact k1) hm (k3.trans hb)
      subst this; exact k1 ha
    · have hA : A.sh i ≠ .no := by rw [← hro i (by omega)]; exact hi
      have hMi : M.sh i ≠ .no := by rw [hs.sh i hA]; exact hA
      rw [hE.ext i (hM.lt i hMi)] at hb
      have : i = j := (hM.inj j i (hij.resolve_left hr) hm hMi hb.symm).symm
      subst this; exact hA ha
  have cs : ∀ id, M'.sh id ≠ .no → (A'.sh id ≠ .no ∧ M'.sh id = A'.sh id ∧ M'.cel id = A'.cel id) ∨ (A.sh id = .no ∧ A'.sh id = .no ∧ M.sh id ≠ .no ∧ M'.sh id = M.sh id ∧ M'.cel id = M.cel id) := fun id h => by
    rcases hx id h with g | ⟨g1, g2, g3, g4⟩
    · exact .inl g
    · exact .inr ⟨g1, g2, by rw [← g3]; exact h, g3, g4⟩
  refine ⟨?_, ?_⟩
  · exact
    { ro := fun id h => hE.le id (hM.ro id h)
      lt := fun id h => by
        rcases cs id h with g | g
        · exact hR.lt id g.1
        · exact hE.le id (hM.lt id g.2.2.1)
      inj := fun i j hr hi hj hb => by
        rcases cs i hi with gi | gi <;> rcases cs j hj with gj | gj
        · exact hR.inj i j hr gi.1 gj.1 hb
        · exact absurd hb (apart i j (.inl hr) gi.1 gj.1 gj.2.1 gj.2.2.1)
        · exact absurd hb.symm (apart j i (.inr hr) gj.1 gi.1 gi.2.1 gi.2.2.1)
        · rw [(extra i gi.1 gi.2.2.1).1, (extra j gj.1 gj.2.2.1).1] at hb
          exact hM.inj i j hr gi.2.2.1 gj.2.2.1 hb
      own := fun id h hr => by
        rcases cs id h with g | g
        · exact hR.own id g.1 hr
        · rw [(extra id g.1 g.2.2.1).1]; exact hM.own id g.2.2.1 hr
      size := fun id h => by
        rcases cs id h with g | g
        · exact hR.size id g.1
        · rw [(extra id g.1 g.2.2.1).1]; exact Nat.lt_of_lt_of_le (hM.size id g.2.2.1) hE.size
      ob := fun id h => by
        rcases cs id h with g | g
        · rw [g.2.1, g.2.2]; exact hR.ob id g.1
        · obtain ⟨e1, e2⟩ := extra id g.1 g.2.2.1
          rw [g.2.2.2.1, g.2.2.2.2, e1, e2]
          exact (hM.ob id g.2.2.1).ext hE.ext hE.le
      glob := hR.glob
      base := Nat.le_trans hM.base hE.size }
  · exact
    { ext := hE.ext
      le := hE.le
      size := hE.size
      frame := fun b hb hn => hE.frame b hb fun id h1 h2 => hn id (by rw [hs.sh id h1]; exact h1) h2
      own := fun id h hr hb => by
        rcases cs id h with g | g
        · obtain ⟨k, k1, k2, k3⟩ := hE.own id g.1 hr hb
          exact ⟨k, by rw [hs.sh k k1]; exact k1, k2, k3⟩
        · rw [(extra id g.1 g.2.2.1).1]; exact ⟨id, g.2.2.1, hr, rfl⟩
      os := hE.os
      tape := hE.tape
      output := hE.output }

/-! ## What is known to an operation of a drawn region -/

/-- the environment in which it knows its own temporaries alone -/
def Env.bare (E : Env) : Env := { E with K := 0 }
def Pre.only (E : Env) (pre : Pre) (ts : List Nat) : Pre := { l := ts.filterMap fun t => (cSrc E pre (.tmp t)).map fun s => (t, s), n := pre.n }

theorem findS_only {E : Env} {pre : Pre} {t : Nat} : ∀ (ts : List Nat), t ∈ ts → findS t (Pre.only E pre ts).l = cSrc E pre (.tmp t) := by
  intro ts
  induction ts with
  | nil => intro h; cases h
  | cons x r ih =>
    intro h
    simp only [Pre.only, List.filterMap_cons]
    by_cases e : x = t
    · subst e
      cases hs : cSrc E pre (.tmp x) with
      | some s => simp [findS]
      | none =>
        simp only [Option.map_none]
        by_cases hm : x ∈ r
        · rw [← hs]; exact ih hm
        · have key : ∀ (r : List Nat), x ∉ r → findS x (r.filterMap fun t => (cSrc E pre (.tmp t)).map fun s => (t, s)) = none := by
            intro r
            induction r with
            | nil => intro _; rfl
            | cons y r ih2 =>
              intro h
              simp only [List.mem_cons, not_or] at h
              simp only [List.filterMap_cons]
              cases hy : cSrc E pre (.tmp y) with
              | none => simp only [Option.map_none]; exact ih2 h.2
              | some s => simp only [Option.map_some, findS]; rw [if_neg (Ne.symm h.1)]; exact ih2 h.2
          exact key r hm
    · have hm : t ∈ r := (List.mem_cons.1 h).resolve_left (Ne.symm e)
      cases hs : cSrc E pre (.tmp x) with
      | none => simp only [Option.map_none]; exact ih hm
      | some s => simp only [Option.map_some, findS, e, if_false]; exact ih hm
theorem findS_only_mem {E : Env} {pre : Pre} {t : Nat} {s : Src} : ∀ (ts : List Nat), findS t (Pre.only E pre ts).l = some s → t ∈ ts := by
  intro ts
  induction ts with
  | nil => intro h; simp [Pre.only, findS] at h
  | cons x r ih =>
    intro h
    simp only [Pre.only, List.filterMap_cons] at h
    by_cases e : x = t
    · subst e; exact List.mem_cons_self
    · cases hs : cSrc E pre (.tmp x) with
      | none => simp only [hs, Option.map_none] at h; exact List.mem_cons_of_mem _ (ih h)
      | some s' => simp only [hs, Option.map_some, findS, e, if_false] at h; exact List.mem_cons_of_mem _ (ih h)

theorem cA_only {E : Env} {pre : Pre} {ts : List Nat} {x : Operand} (h : ∀ t, x = .tmp t → t ∈ ts) : cA E.bare (pre.only E ts) x = cA E pre x := by
  unfold cA
  congr 1
  cases x with
  | tmp t =>
    have ht := h t rfl
    have e := findS_only (E := E) (pre := pre) ts ht
    show (match findS t (Pre.only E pre ts).l with
      | some s => some s
      | none => if Nat.testBit 0 t then some (.v t) else none) = _
    rw [e]
    cases cSrc E pre (.tmp t) <;> simp
  | const v => rfl
  | global g => rfl
  | func f => rfl

end Go.Ev
