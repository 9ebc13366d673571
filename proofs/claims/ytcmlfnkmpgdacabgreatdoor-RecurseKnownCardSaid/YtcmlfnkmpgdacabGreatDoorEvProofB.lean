/-
  Operations that touch memory.
-/
import Derived.Test.YtcmlfnkmpgdacabGreatDoorEvProofA
import Derived.MapKept
namespace Go.Ev

/-! ## What is known -/

def Dom.upto (n : Dom) (a b : Nat) : Dom := fun id => n id ∨ (a ≤ id ∧ id < b)
theorem Dom.upto_self (n : Dom) (a : Nat) : n.upto a a = n := by
  funext id; simp only [Dom.upto, eq_iff_iff]; constructor
  · rintro (h | h)
    · exact h
    · omega
  · exact .inl
theorem Dom.upto_succ (n : Dom) (a : Nat) : n.upto a (a + 1) = n.add a := by
  funext id; simp only [Dom.upto, Dom.add, eq_iff_iff]; constructor
  · rintro (h | h)
    · exact .inl h
    · exact .inr (by omega)
  · rintro (h | h)
    · exact .inl h
    · exact .inr (by omega)
theorem Dom.upto_trans (n : Dom) {a b c : Nat} (h : a ≤ b) (h' : b ≤ c) : (n.upto a b).upto b c = n.upto a c := by
  funext id; simp only [Dom.upto, eq_iff_iff]; constructor
  · rintro ((h | h) | h)
    · exact .inl h
    · exact .inr (by omega)
    · exact .inr (by omega)
  · rintro (h | h)
    · exact .inl (.inl h)
    · by_cases g : id < b
      · exact .inl (.inr (by omega))
      · exact .inr (by omega)
theorem Dom.le_upto (n : Dom) (a b : Nat) : n.le (n.upto a b) := fun _ h => .inl h
/-- there is none of these yet -/
def Dom.free (n : Dom) (a b : Nat) : Prop := ∀ id, a ≤ id → id < b → ¬ n id

def Gives (x : Next) (v : Value) : Prop := x = .value v ∨ (x = .skip ∧ v = undef)

/-- the model does what the evaluator does -/
def MemR (P : Program) (N0 : Nat) (ι : Io) (M : Mem) (n : Dom) (ω : World) (s : Sem Next) (a b : Nat) (v : AV) (es : List Ed) : Prop :=
  ∃ ι' x v' ω', s.run P ω = .ok x ω' ∧ Gives x v' ∧ VR ι' (n.upto a b) v v' ∧ Rel P N0 ι' (aps es M) (n.upto a b) ω' ∧ Evo ι M n ω ι' (aps es M) (n.upto a b) ω'

section
variable {P : Program} {N0 : Nat} {ι : Io} {M : Mem} {n : Dom} {ω : World}

/-- nothing is changed -/
theorem MemR.read (h : Rel P N0 ι M n ω) {s : Sem Next} {v : AV} {a : Nat} (h1 : ∃ v', s.run P ω = .ok (.value v') ω ∧ VR ι n v v') : MemR P N0 ι M n ω s a a v [] := by
  obtain ⟨v', e1, e2⟩ := h1
  refine ⟨ι, _, v', ω, e1, .inl rfl, ?_, ?_, ?_⟩
  · rw [Dom.upto_self]; exact e2
  · rw [Dom.upto_self]; exact h
  · rw [Dom.upto_self]; exact .refl _ _ _ _

/-- a new object -/
theorem MemR.new (h : Rel P N0 ι M n ω) {s : Sem Next} {v : AV} {k : Nat} (hk : ¬ n k) (o : Obj) (L : Loc) (sh : Sh) (f : Nat → AV) (v' : Value) {ω1 : World} (hω : ω1 = ω ∨ ω1 = ω.drew) (hL : L.blk = ω.heap.size) (hs : s.run P ω = .ok (.value v') (ω1.alloc o))
    (ho : ∀ ι' : Io, ι.ext ι' n → ι' k = L → ObR P ι' (n.add k) L f sh (some o)) (hv : ∀ ι' : Io, ι' k = L → ι.ext ι' n → VR ι' (n.add k) v v') :
    MemR P N0 ι M n ω s k (k + 1) v [.put k sh f] := by
  obtain ⟨ι', e1, e2, e3⟩ := h.new k hk o L sh f hL ho
  refine ⟨ι', _, v', _, hs, .inl rfl, ?_, ?_, ?_⟩
  · rw [Dom.upto_succ]; exact hv ι' e1 e3.ext
  · rw [Dom.upto_succ]; rcases hω with rfl | rfl
    · exact e2
    · exact ⟨e2.ro, e2.lt, e2.inj, e2.own, e2.size, e2.ob, e2.glob, e2.base⟩
  · rw [Dom.upto_succ]; rcases hω with rfl | rfl
    · exact e3
    · exact ⟨e3.ext, e3.le, e3.size, e3.frame, e3.own, e3.os, e3.tape, e3.output⟩

theorem opt1_no (k : K1) (w : W) : opt1 none w k = .no := rfl

/-! ## Loads -/

theorem onP_RV {k : Nat → Nat → RV} {x : AV} {v : AV} {w : W} (h : onP .no k x = .ok v w) : ∃ id off, x = .p id off ∧ k id off = .ok v w := by
  unfold onP at h
  cases hx : toP x with
  | no => simp [hx] at h
  | ok kk m => simp only [hx] at h; exact ⟨kk, m, toP_ok hx, h⟩
theorem onN_RV {k : Nat → RV} {x : AV} {v : AV} {w : W} (h : onN .no k x = .ok v w) : ∃ kk m, x = .n kk m ∧ k m = .ok v w := by
  unfold onN at h
  cases hx : toN x with
  | no => simp [hx] at h
  | ok kk m => simp only [hx] at h; exact ⟨kk, m, toN_ok hx, h⟩
theorem onCs_RV {k : Nat → TR AV → RV} {o : AO} {v : AV} {w : W} (h : onCs .no k o = .ok v w) : ∃ m t, o = .cs m t ∧ k m t = .ok v w := by
  cases o <;> simp [onCs] at h
  exact ⟨_, _, rfl, h⟩

theorem load1A_eq {x v : AV} {w w' : W} (h : load1A x w = .ok v w') : w' = w ∧ ∃ id off m t, x = .p id off ∧ w.ob id = .cs m t ∧ v = TR.get .u (pathOf off) t ∧ isU v = false := by
  obtain ⟨id, off, rfl, h1⟩ := onP_RV h
  obtain ⟨m, t, e, h2⟩ := onCs_RV h1
  cases hu : isU (TR.get .u (pathOf off) t) with
  | true => simp [hu] at h2
  | false =>
    simp [hu] at h2
    exact ⟨h2.2.symm, id, off, m, t, rfl, e, h2.1.symm, by rw [← h2.1]; exact hu⟩

theorem mem_cs {w : W} {id m : Nat} {t : TR AV} (e : w.ob id = .cs m t) : w.mem.sh id = .cs m ∧ ∀ off, w.mem.cel id off = TR.get .u (pathOf off) t := by
  simp [W.mem, e, shOf, celOf]

theorem agr_cs {w : W} {id off k m : Nat} {t : TR AV} (e : w.ob id = .cs m t) (h : agr (.mk id off k) w.mem M) : M.sh id = .cs m ∧ ∀ o, (k = 0 ∨ off ≤ o ∧ o < off + k) → M.cel id o = TR.get .u (pathOf o) t := by
  obtain ⟨h1, h2⟩ := h
  obtain ⟨e1, e2⟩ := mem_cs e
  exact ⟨h1.trans e1, fun o ho => (h2 o ho).trans (e2 o)⟩

theorem agr_ptr {k id off : Nat} {m : Mem} (h : Agr (ptrNd k (.p id off)) m M) : agr (.mk id off k) m M := h _ (by simp [ptrNd, onP, toP])

theorem load1_run {t : TypeId} {k : Nat} {x v : AV} {vx : Value} {w w' : W} (ha : aggB P t = some false) (_hz : sizeA P t = some k) (h : load1A x w = .ok v w') (hR : Rel P N0 ι M n ω) (hx : VR ι n x vx) (hA : Agr (ptrNd 1 x) w.mem M) :
    ∃ v', (Instr.loadAt t vx).run P ω = .ok v' ω ∧ VR ι n v v' := by
  obtain ⟨_, id, off, m, tr, rfl, e, rfl, hu⟩ := load1A_eq h
  obtain ⟨e1, e2⟩ := agr_cs e (agr_ptr hA)
  cases hx
  have e3 := e2 off (.inr ⟨Nat.le_refl _, by omega⟩)
  obtain ⟨v', r1, r2⟩ := load_one hR (off := off) e1 (by rw [e3]; exact hu) .plain
  refine ⟨v', ?_, by rw [← e3]; exact r2⟩
  simp only [Instr.loadAt, Instr.sureAddr, loadVar, Sem.run_bind, Sem.run_pure, Result.andThen_ok, run_isAgg' ha, Bool.false_eq_true, if_false]
  exact r1

theorem loadnA_eq {k : Nat} {x v : AV} {w w' : W} (h : loadnA k x w = .ok v w') : w' = w ∧ ∃ id off m t l, x = .p id off ∧ w.ob id = .cs m t ∧ loadL t k off = some l ∧ v = .agg l := by
  obtain ⟨id, off, rfl, h1⟩ := onP_RV h
  obtain ⟨m, t, e, h2⟩ := onCs_RV h1
  cases hl : loadL t k off with
  | none => simp [hl] at h2
  | some l => simp [hl] at h2; exact ⟨h2.2.symm, id, off, m, t, l, rfl, e, hl, h2.1.symm⟩

theorem loadn_run {t : TypeId} {k : Nat} {x v : AV} {vx : Value} {w w' : W} (ha : aggB P t = some true) (hz : sizeA P t = some k) (h : loadnA k x w = .ok v w') (hR : Rel P N0 ι M n ω) (hx : VR ι n x vx) (hA : Agr (ptrNd k x) w.mem M) :
    ∃ v', (Instr.loadAt t vx).run P ω = .ok v' ω ∧ VR ι n v v' := by
  obtain ⟨_, id, off, m, tr, l, rfl, e, hl, rfl⟩ := loadnA_eq h
  obtain ⟨e1, e2⟩ := agr_cs e (agr_ptr hA)
  obtain ⟨l1, l2⟩ := loadL_spec _ _ _ _ hl
  cases hx
  obtain ⟨vs, r1, r2, r3⟩ := load_list hR (off := off) e1 l (fun i hi => by
    have e3 := e2 (off + i) (.inr (by omega))
    rw [e3]; exact l2 i (by omega))
  refine ⟨.agg vs.toArray, ?_, .agg _ _ (by simpa using r1)⟩
  simp only [Instr.loadAt, Instr.sureAddr, loadVar, Sem.run_bind, Sem.run_pure, Result.andThen_ok, run_isAgg' ha, if_true, run_sizeOf' hz]
  have := run_loadCells_list (P := P) ω (ι.at id off) vs r3
  rw [r2, l1] at this
  rw [this]
  rfl

/-! ## Stores -/

theorem storeA_eq {k : Nat} {x v r : AV} {w w' : W} (h : storeA k x v w = .ok r w') : ∃ id off m t t', x = .p id off ∧ w.ob id = .cs m t ∧ storeL (cellsV v) t off = some t' ∧ (cellsV v).length = k ∧ roN ≤ id ∧ w' = w.set id off k (.cs m t') ∧ r = .u := by
  obtain ⟨id, off, rfl, h1⟩ := onP_RV h
  obtain ⟨m, t, e, h2⟩ := onCs_RV h1
  cases hb : Nat.beq (lenL (cellsV v)) k with
  | false => simp [hb] at h2
  | true =>
    cases hs : storeL (cellsV v) t off with
    | none => simp [hb, hs] at h2
    | some t' =>
      simp only [hb, hs, putO_eq] at h2
      by_cases hr : roN ≤ id
      · simp [hr] at h2
        exact ⟨id, off, m, t, t', rfl, e, hs, by rw [← lenL_eq]; exact Nat.eq_of_beq_eq_true hb, hr, h2.2.symm, h2.1.symm⟩
      · simp [hr] at h2

theorem isU_cellsV {v : AV} (h : ∀ a ∈ cellsV v, okC a = true) : isU v = false := by
  cases v <;> first
    | rfl
    | (have := h .u (by simp [cellsV]); simp [okC] at this)

theorem store_run {t : TypeId} {k : Nat} {x v r : AV} {w w' : W} (hz : sizeA P t = some k) (h0 : k ≠ 0) (h : storeA k x v w = .ok r w') :
    ∃ es, Eff w w' es ∧ w'.nx = w.nx ∧ ∀ (N0 : Nat) (M : Mem) (ι : Io) (n : Dom) (ω : World) (vx vv : Value), Rel P N0 ι M n ω → VR ι n x vx → VR ι n v vv → Agr (ptrNd k x) w.mem M →
      MemR P N0 ι M n ω (do Instr.storeAt t vx vv; pure .skip) w.nx w.nx r es := by
  obtain ⟨id, off, m, tr, tr', rfl, e, hs, hlen, hr, rfl, rfl⟩ := storeA_eq h
  obtain ⟨s1, s2, s3⟩ := storeL_spec _ _ _ _ hs
  have hne : cellsV v ≠ [] := fun e => by rw [e] at hlen; exact h0 hlen.symm
  refine ⟨[.wr id off (cellsV v)], .wr _ _ id off m _ tr tr' [] hr hne e hs (by rw [hlen]; exact .nil _), rfl, ?_⟩
  intro N0 M ι n ω vx vv hR hx hv hA
  obtain ⟨e1, e2⟩ := agr_cs e (agr_ptr hA)
  have hcs := cells_VR hv (isU_cellsV s1)
  cases hx
  obtain ⟨ω', r1, r2, r3⟩ := store_list hR (off := off) e1 hr hcs s1 (fun i hi => by rw [e2 (off + i) (.inr (by omega))]; exact s2 i hi)
  refine ⟨ι, .skip, undef, ω', ?_, .inr ⟨rfl, rfl⟩, .u _, ?_, ?_⟩
  · simp only [Instr.storeAt, Instr.sureAddr, storeVar, Sem.run_bind, Sem.run_pure, Result.andThen_ok, run_sizeOf' hz, Sem.run_ite]
    have hl2 : vv.cells.size = k := by have := hcs.length; simpa [hlen] using this.symm
    simp only [hl2, ne_eq, not_true_eq_false, if_false]
    rw [r1]; rfl
  · rw [Dom.upto_self]; exact r2
  · rw [Dom.upto_self]; exact r3

/-! ## New cells -/

/-- the object of these cells -/
theorem obR_new {P : Program} {ι : Io} {n : Dom} (cs : List AV) (vs : Array Value) (elem : TypeId) (L : Loc) (hL : L.sh = 0) (ht : L.tot ≤ vs.size) (h : VRs ι n cs vs.toList) :
    ObR P ι n L (celOf (mkCs cs)) (shOf (mkCs cs)) (some (.cells vs elem (0, 0))) := by
  rw [shOf_mkCs]
  refine ⟨vs, elem, rfl, fun off ho => ?_, ht⟩
  rw [celOf_mkCs] at ho ⊢
  by_cases hlt : off < cs.length
  · obtain ⟨v, e1, e2⟩ := h.get off hlt
    refine ⟨hlt, v, by rw [hL, Nat.zero_add, ← Array.getElem?_toList]; exact e1, ?_⟩
    rw [List.getD_eq_getElem?_getD, List.getElem?_eq_getElem hlt]; exact e2
  · simp [List.getD_eq_getElem?_getD, List.getElem?_eq_none (Nat.le_of_not_lt hlt)] at ho

theorem at_zero {ι : Io} {id b t : Nat} (h : ι id = ⟨b, 0, t⟩) : ι.at id 0 = ⟨b, 0, none⟩ := by simp [Io.at, h]

/-- a new variable -/
theorem newVar_run {t : TypeId} {cs : List AV} {vv : Value} (hR : Rel P N0 ι M n ω) {k : Nat} (hk : ¬ n k) (hv : VRs ι n cs vv.cells.toList) {s : Sem Next} (hs : s.run P ω = .ok (.value (.pointer (some ⟨ω.heap.size, 0, none⟩))) (ω.alloc (.cells vv.cells t))) :
    MemR P N0 ι M n ω s k (k + 1) (.p k 0) [.put k (shOf (mkCs cs)) (celOf (mkCs cs))] :=
  MemR.new hR hk _ ⟨ω.heap.size, 0, 0⟩ _ _ _ (.inl rfl) rfl hs (fun ι' he _ => obR_new cs _ _ _ rfl (Nat.zero_le _) (VRs.ext he (n.le_add k) hv))
    (fun ι' e _ => by rw [← at_zero e]; exact .p k 0 (n.at_add k))

theorem alloc_run {t : TypeId} {z : List AV} {v : AV} {w w' : W} (hz : zeroA P t = some z) (h : allocA z w = .ok v w') :
    ∃ es, Eff w w' es ∧ ∀ (N0 : Nat) (M : Mem) (ι : Io) (n : Dom) (ω : World), Rel P N0 ι M n ω → n.free w.nx w'.nx →
      MemR P N0 ι M n ω (do pure (.value (← Instr.alloc t true (.tuple #[])))) w.nx w'.nx v es := by
  unfold allocA at h
  rw [newO_eq] at h
  simp at h
  obtain ⟨rfl, rfl⟩ := h
  refine ⟨_, .new _ _ _ [] rfl (.nil _), ?_⟩
  intro N0 M ι n ω hR hf
  obtain ⟨zv, e1, rfl⟩ := zeroA_run (w := ω) hz
  exact newVar_run (t := t) (vv := zv) hR (hf _ (Nat.le_refl _) (by simp)) (VRs_ofV _) (by simp [Instr.alloc, e1, newVar, newRow])

theorem box_run {t : TypeId} {x v : AV} {w w' : W} (h : boxA x w = .ok v w') :
    ∃ es, Eff w w' es ∧ ∀ (N0 : Nat) (M : Mem) (ι : Io) (n : Dom) (ω : World) (vx : Value), Rel P N0 ι M n ω → n.free w.nx w'.nx → VR ι n x vx →
      MemR P N0 ι M n ω (do pure (.value (← Instr.box t vx))) w.nx w'.nx v es := by
  have hu : isU x = false := by cases x <;> first | rfl | simp [boxA] at h
  have h2 : allocA (cellsV x) w = .ok v w' := by cases x <;> first | exact h | simp [boxA] at h
  clear h
  unfold allocA at h2
  rw [newO_eq] at h2
  simp at h2
  obtain ⟨rfl, rfl⟩ := h2
  refine ⟨_, .new _ _ _ [] rfl (.nil _), ?_⟩
  intro N0 M ι n ω vx hR hf hx
  exact newVar_run (t := t) (vv := vx) hR (hf _ (Nat.le_refl _) (by simp)) (cells_VR hx hu) (by simp [Instr.box, newVar, newRow])

end
end Go.Ev

/-
  append.
-/
namespace Go.Ev

section
variable {P : Program} {ω : World}

theorem run_app_room {t tx e e' ty : TypeId} {es : Nat} (ht : P.underlying t = some (.slice e)) (htx : P.underlying tx = some (.slice e')) (hes : sizeA P e = some es) {base : Option Addr} {sLen sCap k : Nat} {x : Value} {news : Array Value} {ω' : World}
    (hn : (Builtin.lenOf x).run P ω = .ok k ω) (hf : (Builtin.firstCells es k x).run P ω = .ok news ω) (hroom : sLen + k ≤ sCap)
    (hst : match base with
      | some a => (storeCells (a.add (sLen * es)) news.toList).run P ω = .ok () ω'
      | none => ω' = ω) :
    (Builtin.append_ #[t, tx] ty #[.slice base sLen sCap, x]).run P ω = .ok (.slice base (sLen + k) sCap) ω' := by
  unfold Builtin.append_
  simp [run_underlying' ht, run_underlying' htx, run_sizeOf' hes, hn, hf, hroom]
  cases base with
  | none => simp at hst; subst hst; rfl
  | some a => simp at hst; simp [hst]

theorem run_appz_room {t tx e ty : TypeId} {kk : IntKind} {es bytes : Nat} {z : Value} (ht : P.underlying t = some (.slice e)) (htx : P.underlying tx = some (.int kk)) (hes : sizeA P e = some es) (hby : bytesA P e = some bytes)
    (hz : (zeroValue e).run P ω = .ok z ω) {base : Option Addr} {sLen sCap k : Nat} {ki : IntKind} {ω' : World} (h0 : k ≠ 0) (hes0 : es ≠ 0) (hk : k ≤ 1048576) (hb : bytes ≤ 1048576) (hroom : sLen + k ≤ sCap)
    (hst : match base with
      | some a => (storeCells (a.add (sLen * es)) (Builtin.zeroCells z.cells k).toList).run P ω = .ok () ω'
      | none => ω' = ω) :
    (Builtin.append_ #[t, tx] ty #[.slice base sLen sCap, .int ki k]).run P ω = .ok (.slice base (sLen + k) sCap) ω' := by
  have hw : IntKind.i64.wrap (k : Int) = k := by rw [IntKind.wrap_i64]; omega
  unfold bytesA at hby
  cases hi : P.info? e with
  | none => simp [hi] at hby
  | some i =>
    simp [hi] at hby
    have h48 : ¬ (281474976710656 < (k : Int) * (bytes : Int)) := by
      have : k * bytes ≤ 1048576 * 1048576 := Nat.mul_le_mul hk hb
      have h2 : ((k * bytes : Nat) : Int) ≤ 1099511627776 := by omega
      rw [Int.natCast_mul] at h2; omega
    have hke : ¬ k * es = 0 := Nat.mul_ne_zero h0 hes0
    unfold Builtin.append_
    simp [run_underlying' ht, run_underlying' htx, run_sizeOf' hes, asInt, asIntOf, hw, run_typeInfo' hi, hby, h48, hke, hz, hroom, show ¬ ((k : Int) < 0) by omega]
    cases base with
    | none => simp at hst; subst hst; rfl
    | some a => simp at hst; simp [hst]

theorem run_app_grow {t tx e e' ty : TypeId} {es bytes : Nat} {z : Value} (ht : P.underlying t = some (.slice e)) (htx : P.underlying tx = some (.slice e')) (hes : sizeA P e = some es) (hby : bytesA P e = some bytes)
    (hz : (zeroValue e).run P ω.drew = .ok z ω.drew) {base : Option Addr} {sLen sCap k : Nat} {x : Value} {olds news : Array Value} (hb : bytes ≤ 1048576) (hb0 : bytes ≠ 0)
    (hn : (Builtin.lenOf x).run P ω = .ok k ω) (hf : (Builtin.firstCells es k x).run P ω.drew = .ok news ω.drew) (hfo : (Builtin.firstCells es sLen (.slice base sLen sCap)).run P ω.drew = .ok olds ω.drew)
    (hg : sCap < sLen + k) (hneed : sLen + k ≤ 134217728) :
    (Builtin.append_ #[t, tx] ty #[.slice base sLen sCap, x]).run P ω =
      .ok (.slice (some ⟨ω.heap.size, 0, none⟩) (sLen + k) (grownCap ω (sLen + k) sCap e)) (ω.drew.alloc (.cells (olds ++ news ++ Builtin.zeroCells z.cells (grownCap ω (sLen + k) sCap e - (sLen + k))) e)) := by
  unfold bytesA at hby
  cases hi : P.info? e with
  | none => simp [hi] at hby
  | some i =>
    simp [hi] at hby
    have hn' : ¬ (sLen + k ≤ sCap) := by omega
    have h48 : ¬ (281474976710656 < Builtin.nextslicecap (sLen + k) sCap * bytes) := by
      have h1 := nextslicecap_le hg
      have : Builtin.nextslicecap (sLen + k) sCap * bytes ≤ 268435456 * 1048576 := Nat.mul_le_mul (by omega) hb
      omega
    unfold Builtin.append_
    simp [run_underlying' ht, run_underlying' htx, run_sizeOf' hes, run_typeInfo' hi, hby, hb0, hn, hn', h48, Question.forced, hf, hfo, hz, newRow, grownCap]

theorem run_appz_grow {t tx e ty : TypeId} {kk : IntKind} {es bytes : Nat} {z : Value} (ht : P.underlying t = some (.slice e)) (htx : P.underlying tx = some (.int kk)) (hes : sizeA P e = some es) (hby : bytesA P e = some bytes)
    (hz : (zeroValue e).run P ω.drew = .ok z ω.drew) {base : Option Addr} {sLen sCap k : Nat} {ki : IntKind} {olds : Array Value} (h0 : k ≠ 0) (hes0 : es ≠ 0) (hk : k ≤ 1048576) (hb : bytes ≤ 1048576)
    (hfo : (Builtin.firstCells es sLen (.slice base sLen sCap)).run P ω.drew = .ok olds ω.drew) (hg : sCap < sLen + k) (hneed : sLen + k ≤ 134217728) :
    (Builtin.append_ #[t, tx] ty #[.slice base sLen sCap, .int ki k]).run P ω =
      .ok (.slice (some ⟨ω.heap.size, 0, none⟩) (sLen + k) (grownCap ω (sLen + k) sCap e)) (ω.drew.alloc (.cells (olds ++ Builtin.zeroCells z.cells k ++ Builtin.zeroCells z.cells (grownCap ω (sLen + k) sCap e - (sLen + k))) e)) := by
  have hw : IntKind.i64.wrap (k : Int) = k := by rw [IntKind.wrap_i64]; omega
  unfold bytesA at hby
  cases hi : P.info? e with
  | none => simp [hi] at hby
  | some i =>
    simp [hi] at hby
    have hn' : ¬ (sLen + k ≤ sCap) := by omega
    have h48 : ¬ (281474976710656 < Builtin.nextslicecap (sLen + k) sCap * bytes) := by
      have h1 := nextslicecap_le hg
      have : Builtin.nextslicecap (sLen + k) sCap * bytes ≤ 268435456 * 1048576 := Nat.mul_le_mul (by omega) hb
      omega
    have h48' : ¬ (281474976710656 < (k : Int) * (bytes : Int)) := by
      have : k * bytes ≤ 1048576 * 1048576 := Nat.mul_le_mul hk hb
      have h2 : ((k * bytes : Nat) : Int) ≤ 1099511627776 := by omega
      rw [Int.natCast_mul] at h2; omega
    have hmax : ¬ (9223372036854775807 < (sLen : Int) + (k : Int)) := by omega
    have hke : ¬ k * es = 0 := Nat.mul_ne_zero h0 hes0
    unfold Builtin.append_
    simp [run_underlying' ht, run_underlying' htx, run_sizeOf' hes, asInt, asIntOf, hw, run_typeInfo' hi, hby, h48', hke, hn', h48, Question.forced, hfo, hz, newRow, grownCap, show ¬ ((k : Int) < 0) by omega, hmax]

end
end Go.Ev

/-
  append, joined.
-/
namespace Go.Ev

section
variable {P : Program} {N0 : Nat} {ι : Io} {M : Mem} {n : Dom} {ω : World}

/-- an object's block becomes another object's -/
theorem Rel.adopt (h : Rel P N0 ι M n ω) (id k : Nat) (hid : M.sh id ≠ .no) (hr : roN ≤ id) (hk : ¬ n k) {ω' : World}
    (hsz : ω'.heap.size = ω.heap.size) (hoth : ∀ b, b ≠ (ι id).blk → ω'.heap[b]? = ω.heap[b]?) (hos : ω'.os = ω.os) (htp : ω'.tape = ω.tape) (hout : ω'.output = ω.output)
    (L : Loc) (hL : L.blk = (ι id).blk) (s : Sh) (f f0 : Nat → AV) (ho : ∀ ι' : Io, ι.ext ι' n → ι' k = L → ObR P ι' (n.add k) L f s ω'.heap[L.blk]?) :
    ∃ ι', ι' k = L ∧ Rel P N0 ι' ((M.put id .no f0).put k s f) (n.add k) ω' ∧ Evo ι M n ω ι' ((M.put id .no f0).put k s f) (n.add k) ω' := by
  have hex : ι.ext (fun j => if j = k then L else ι j) n := fun j hi => if_neg (fun (e : j = k) => hk (e ▸ hi))
  have hik : id ≠ k := fun e => hk (e ▸ h.lt id hid)
  have hsh : ∀ j, ((M.put id .no f0).put k s f).sh j ≠ .no → j = k ∨ (j ≠ k ∧ j ≠ id ∧ M.sh j ≠ .no) := fun j hj => by
    by_cases e : j = k
    · exact .inl e
    · simp only [Mem.put, e, if_false] at hj
      by_cases e2 : j = id
      · simp [e2] at hj
      · simp only [e2, if_false] at hj; exact .inr ⟨e, e2, hj⟩
  have hown := h.own id hid hr
  refine ⟨fun j => if j = k then L else ι j, if_pos rfl, ?_, ?_⟩
  · exact
    { ro := fun j hi => .inl (h.ro j hi)
      lt := fun j hj => by
        rcases hsh j hj with e | ⟨_, _, e⟩
        · exact .inr e
        · exact .inl (h.lt j e)
      inj := fun i j hr' hi hj hb => by
        rcases hsh i hi with ei | ⟨ei, ei2, ei3⟩ <;> rcases hsh j hj with ej | ⟨ej, ej2, ej3⟩
        · omega
        · simp only [ei, ej, if_true, if_false, hL] at hb; exact absurd (h.inj id j hr hid ej3 hb).symm ej2
        · simp only [ei, ej, if_true, if_false, hL] at hb; exact absurd (h.inj id i hr hid ei3 hb.symm).symm ei2
        · simp only [ei, ej, if_false] at hb; exact h.inj i j hr' ei3 ej3 hb
      own := fun j hj hr' => by
        rcases hsh j hj with e | ⟨e, _, e3⟩
        · simp only [e, if_true, hL]; exact hown
        · simp only [e, if_false]; exact h.own j e3 hr'
      size := fun j hj => by
        rw [hsz]
        rcases hsh j hj with e | ⟨e, _, e3⟩
        · simp only [e, if_true, hL]; exact h.size id hid
        · simp only [e, if_false]; exact h.size j e3
      ob := fun j hj => by
        rcases hsh j hj with e | ⟨e, e2, e3⟩
        · subst e
          simp only [Mem.put, if_true]
          exact ho _ hex (if_pos rfl)
        · simp only [Mem.put, e, e2, if_false]
          rw [hoth _ (fun hb => e2 (h.inj id j hr hid e3 hb.symm).symm)]
          exact (h.ob j e3).ext hex (n.le_add k)
      glob := fun g hg => by
        have h1 := h.glob g hg
        have e : g ≠ k := fun e => hk (e ▸ h1.2.2)
        simp only [e, if_false]
        exact ⟨h1.1, h1.2.1, .inl h1.2.2⟩
      base := by rw [hsz]; exact h.base }
  · exact
    { ext := hex
      le := n.le_add k
      size := by rw [hsz]; exact Nat.le_refl _
      frame := fun b _ hn => hoth b fun e => hn id hid hr e.symm
      own := fun j hj hr' _ => by
        rcases hsh j hj with e | ⟨e, _, e3⟩
        · simp only [e, if_true, hL]; exact ⟨id, hid, hr, rfl⟩
        · simp only [e, if_false]; exact ⟨j, e3, hr', rfl⟩
      os := hos
      tape := htp
      output := hout }

/-- an object is forgotten -/
theorem Rel.drop (h : Rel P N0 ι M n ω) (id : Nat) (f0 : Nat → AV) : Rel P N0 ι (M.put id .no f0) n ω :=
  h.sub ⟨fun j hj => by simp only [Mem.put] at hj ⊢; split at hj <;> simp_all, fun j o hj _ => by simp only [Mem.put] at hj ⊢; split at hj <;> simp_all⟩

theorem allC_iff : ∀ (l : List AV), allC l = true ↔ ∀ a ∈ l, okC a = true := by
  intro l
  induction l with
  | nil => simp [allC]
  | cons a l ih =>
    have : allC (a :: l) = Bool.rec false (allC l) (okC a) := rfl
    rw [this]
    cases ha : okC a with
    | false => simp [ha]
    | true => simp [ha, ih]

theorem size_at (ι : Io) (b t : Nat) (id : Nat) (h : ι id = ⟨b, 0, t⟩) : (⟨b, 0, none⟩ : Addr) = ι.at id 0 := by simp [Io.at, h]

/-- the model's append, as far as its source is known -/
structure AppC (P : Program) (ω : World) (t tx ty e : TypeId) (es k : Nat) (vx : Value) (news zs : Array Value) : Prop where
  room : ∀ (base : Option Addr) (sLen sCap : Nat) (ω' : World), sLen + k ≤ sCap →
    (match base with
      | some a => (storeCells (a.add (sLen * es)) news.toList).run P ω = .ok () ω'
      | none => ω' = ω) → (Builtin.append_ #[t, tx] ty #[.slice base sLen sCap, vx]).run P ω = .ok (.slice base (sLen + k) sCap) ω'
  grow : ∀ (base : Option Addr) (sLen sCap : Nat) (olds : Array Value), (Builtin.firstCells es sLen (.slice base sLen sCap)).run P ω.drew = .ok olds ω.drew → sCap < sLen + k → sLen + k ≤ 134217728 →
    (Builtin.append_ #[t, tx] ty #[.slice base sLen sCap, vx]).run P ω =
      .ok (.slice (some ⟨ω.heap.size, 0, none⟩) (sLen + k) (grownCap ω (sLen + k) sCap e)) (ω.drew.alloc (.cells (olds ++ news ++ Builtin.zeroCells zs (grownCap ω (sLen + k) sCap e - (sLen + k))) e))
  zs : zs.size = es

theorem firstCells_at {es sLen sCap : Nat} {a : Addr} {vs : List Value} (hl : vs.length = sLen * es) (h : ∀ j u, vs[j]? = some u → ω.cell? (a.add j) = some u) :
    (Builtin.firstCells es sLen (.slice (some a) sLen sCap)).run P ω = .ok vs.toArray ω :=
  run_firstCells_some (P := P) ω es sLen a sLen sCap vs hl h

/-- a grown slice -/
theorem grown_run (hR : Rel P N0 ι M n ω) {t tx ty e : TypeId} {es k : Nat} {vx : Value} {news zs : Array Value} (hA : AppC P ω t tx ty e es k vx news zs) (hes : 0 < es) {base : Option Addr} {sLen sCap : Nat} {olds : Array Value}
    (hfo : (Builtin.firstCells es sLen (.slice base sLen sCap)).run P ω.drew = .ok olds ω.drew) (hg : sCap < sLen + k) (hneed : sLen + k ≤ 134217728) {nid : Nat} (hk : ¬ n nid)
    (hlo : olds.size = sLen * es) (hln : news.size = k * es) (f : Nat → AV) (hf : ∀ off, f off ≠ .u → off < (sLen + k) * es ∧ ∃ v, (olds.toList ++ news.toList)[off]? = some v ∧ VR ι n (f off) v) :
    MemR P N0 ι M n ω (do pure (.value (← Builtin.append_ #[t, tx] ty #[.slice base sLen sCap, vx]))) nid (nid + 1) (.sl nid 0 (sLen + k) (sLen + k) es) [.put nid (.cs ((sLen + k) * es)) f] := by
  have hcap := grownCap_ge ω (sLen + k) sCap e
  have hrun := hA.grow base sLen sCap olds hfo hg hneed
  refine MemR.new hR hk _ ⟨ω.heap.size, 0, grownCap ω (sLen + k) sCap e * es⟩ _ _ _ (.inr rfl) rfl (by rw [Sem.run_bind, hrun]; rfl) (fun ι' he _ => ?_) (fun ι' he _ => ?_)
  · refine ⟨_, e, rfl, fun off ho => ?_, ?_⟩
    · obtain ⟨a1, v, a2, a3⟩ := hf off ho
      refine ⟨a1, v, ?_, VR.ext ‹_› (n.le_add nid) a3⟩
      show (olds ++ news ++ _)[0 + off]? = _
      rw [Nat.zero_add, ← Array.getElem?_toList]
      simp only [Array.toList_append]
      rw [List.getElem?_append_left ((List.getElem?_eq_some_iff.1 a2).1)]
      exact a2
    · simp only [Array.size_append, hlo, hln, size_zeroCells, hA.zs, ← Nat.add_mul]
      apply Nat.mul_le_mul_right; omega
  · rw [size_at ι' _ _ nid he]
    refine .sli nid 0 _ _ es _ (n.at_add nid) hes hcap ?_
    simp [he]

theorem run_vals {s : Sem Value} {v : Value} {ω' : World} (h : s.run P ω = .ok v ω') : (do pure (Next.value (← s)) : Sem Next).run P ω = .ok (.value v) ω' := by simp [h]

/-- what append does to the evaluator's memory, and to the model's -/
def AppOk (P : Program) (t tx ty e : TypeId) (es k : Nat) (s v : AV) (new : List AV) (w w' : W) : Prop :=
  ∃ eds, Eff w w' eds ∧ ∀ (N0 : Nat) (M : Mem) (ι : Io) (n : Dom) (ω : World) (vs vx : Value) (news zs : Array Value), Rel P N0 ι M n ω → n.free w.nx w'.nx → VR ι n s vs → Agr (objNd s) w.mem M → VRs ι n new news.toList →
    AppC P ω t tx ty e es k vx news zs → MemR P N0 ι M n ω (do pure (.value (← Builtin.append_ #[t, tx] ty #[vs, vx]))) w.nx w'.nx v eds

theorem app_nil {t tx ty e : TypeId} {es k : Nat} {v : AV} {new : List AV} {w w' : W} (hes : 0 < es) (hl : new.length = k * es) (h : appendA es .sn k new w = .ok v w') : AppOk P t tx ty e es k .sn v new w w' := by
  simp only [appendA] at h
  split at h
  · rename_i hk
    simp at h
    obtain ⟨rfl, rfl⟩ := h
    refine ⟨[], .nil _, ?_⟩
    intro N0 M ι n ω vs vx news zs hR hf hs hA hn hC
    cases hs
    exact MemR.read hR ⟨.slice none 0 0, run_vals (by have := hC.room none 0 0 ω (by omega) rfl; rw [this, hk]), .sn⟩
  · rename_i hk
    split at h
    · simp at h
    · rename_i hb
      rw [newO_eq] at h
      simp at h
      obtain ⟨rfl, rfl⟩ := h
      refine ⟨_, .new _ _ _ [] rfl (.nil _), ?_⟩
      intro N0 M ι n ω vs vx news zs hR hf hs hA hn hC
      cases hs
      have hln : news.size = k * es := by have := hn.length; simpa [hl] using this.symm
      have hg := grown_run (olds := #[]) hR hC hes (base := none) (sLen := 0) (sCap := 0) (run_firstCells_none (P := P) ω.drew es 0 0 0) (by omega) (by omega) (hf _ (Nat.le_refl _) (by simp)) (by simp) hln (celOf (mkCs new)) (fun off ho => by
        rw [celOf_mkCs] at ho ⊢
        by_cases hlt : off < new.length
        · obtain ⟨v, e1, e2⟩ := hn.get off hlt
          refine ⟨by simpa [hl] using hlt, v, by simpa using e1, ?_⟩
          rw [List.getD_eq_getElem?_getD, List.getElem?_eq_getElem hlt]; exact e2
        · simp [List.getD_eq_getElem?_getD, List.getElem?_eq_none (Nat.le_of_not_lt hlt)] at ho)
      rw [shOf_mkCs, hl]
      simpa using hg

theorem app_room {t tx ty e : TypeId} {es k id off len cap ex : Nat} {v : AV} {new : List AV} {w w' : W} {m : Nat} {tr : TR AV} (hl : new.length = k * es) (hes : 0 < es) (e0 : w.ob id = .cs m tr) (hroom : len + k ≤ cap) (hex : ¬ (ex ≠ 0 ∧ ex ≠ es))
    (h : (match storeL new tr (off + len * es) with
          | some t' => (if k = 0 then RV.ok (.sl id off (len + k) cap ex) w else putO id (off + len * es) (k * es) (.cs m t') w (fun w' => .ok (.sl id off (len + k) cap ex) w'))
          | none => RV.no) = .ok v w') : AppOk P t tx ty e es k (.sl id off len cap ex) v new w w' := by
  have hvs : ∀ {ι : Io} {n : Dom} {vs : Value}, VR ι n (.sl id off len cap ex) vs → ∃ c, vs = .slice (some (ι.at id off)) len c ∧ cap ≤ c ∧ VR ι n (.sl id off (len + k) cap ex) (.slice (some (ι.at id off)) (len + k) c) := by
    intro ι n vs hs
    cases hs with
    | slx _ _ _ _ h1 => exact ⟨cap, rfl, Nat.le_refl _, .slx _ _ _ _ h1⟩
    | sli _ _ _ _ _ c h1 h2 h3 h4 => exact ⟨c, rfl, h3, .sli _ _ _ _ _ c h1 h2 h3 h4⟩
  cases hst : storeL new tr (off + len * es) with
  | none => simp [hst] at h
  | some t' =>
    simp only [hst] at h
    split at h
    · rename_i hk
      simp at h
      obtain ⟨rfl, rfl⟩ := h
      refine ⟨[], .nil _, ?_⟩
      intro N0 M ι n ω vs vx news zs hR hf hs hA hn hC
      obtain ⟨c, rfl, hc, hv⟩ := hvs hs
      have hnil : news.toList = [] := by
        have := hn.length; rw [hl, hk, Nat.zero_mul] at this; exact List.eq_nil_of_length_eq_zero this.symm
      exact MemR.read hR ⟨_, run_vals (hC.room (some (ι.at id off)) len c ω (by omega) (by rw [hnil]; rfl)), hv⟩
    · rename_i hk
      rw [putO_eq] at h
      split at h
      · rename_i hr
        simp at h
        obtain ⟨rfl, rfl⟩ := h
        obtain ⟨s1, s2, s3⟩ := storeL_spec _ _ _ _ hst
        have hne : new ≠ [] := fun e => Nat.mul_ne_zero hk (Nat.ne_of_gt hes) (by rw [e] at hl; exact hl.symm)
        refine ⟨[.wr id (off + len * es) new], .wr _ _ id _ m new tr t' [] hr hne e0 hst (by rw [hl]; exact .nil _), ?_⟩
        intro N0 M ι n ω vs vx news zs hR hf hs hA hn hC
        obtain ⟨c, rfl, hc, hv⟩ := hvs hs
        obtain ⟨a1, a2⟩ := agr_cs e0 (hA (.mk id 0 0) (by simp [objNd]))
        obtain ⟨ω', r1, r2, r3⟩ := store_list hR (off := off + len * es) a1 hr hn s1 (fun i hi => by rw [a2 _ (.inl rfl)]; exact s2 i hi)
        refine ⟨ι, _, _, ω', run_vals (hC.room (some (ι.at id off)) len c ω' (by omega) (by simp only [add_at]; exact r1)), .inl rfl, ?_, ?_, ?_⟩
        · simp only [W.nx_set, Dom.upto_self]; exact hv
        · simp only [W.nx_set, Dom.upto_self]; exact r2
        · simp only [W.nx_set, Dom.upto_self]; exact r3
      · simp at h

theorem Evo.sub {A : Mem} {ι' : Io} {M' : Mem} {n' : Dom} {ω' : World} (h : Evo ι A n ω ι' M' n' ω') (hs : Sub A M) : Evo ι M n ω ι' M' n' ω' where
  ext := h.ext
  le := h.le
  size := h.size
  frame := fun b hb hn => h.frame b hb fun id h1 h2 => hn id (by rw [hs.sh id h1]; exact h1) h2
  own := fun id h1 h2 h3 => let ⟨j, a1, a2, a3⟩ := h.own id h1 h2 h3; ⟨j, by rw [hs.sh j a1]; exact a1, a2, a3⟩
  os := h.os
  tape := h.tape
  output := h.output

theorem sub_drop (M : Mem) (id : Nat) (f0 : Nat → AV) : Sub (M.put id .no f0) M :=
  ⟨fun j hj => by simp only [Mem.put] at hj ⊢; split at hj <;> simp_all, fun j o hj _ => by simp only [Mem.put] at hj ⊢; split at hj <;> simp_all⟩

/-- the old elements, as they stand in the model's memory -/
def Olds (ω : World) (ι : Io) (n : Dom) (id off len es : Nat) (f : Nat → AV) (olds : List Value) : Prop :=
  olds.length = len * es ∧ (∀ j u, olds[j]? = some u → ω.cell? ((ι.at id off).add j) = some u) ∧ ∀ j, j < len * es → f j ≠ .u → ∃ v, olds[j]? = some v ∧ VR ι n (f j) v

/-- the new object's cells -/
def NewF (new : List AV) (need len es : Nat) (f : Nat → AV) : Prop :=
  ∀ x, f x ≠ .u → x < need * es ∧ (len * es ≤ x → new[x - len * es]? = some (f x))

theorem newF_old {len k es : Nat} {new : List AV} {news olds : List Value} {f : Nat → AV} (hF : NewF new (len + k) len es f) (hlo : olds.length = len * es) (hn : VRs ι n new news)
    (ho : ∀ j, j < len * es → f j ≠ .u → ∃ v, olds[j]? = some v ∧ VR ι n (f j) v) :
    ∀ x, f x ≠ .u → x < (len + k) * es ∧ ∃ v, (olds ++ news)[x]? = some v ∧ VR ι n (f x) v := fun x hx => by
  obtain ⟨h1, h2⟩ := hF x hx
  refine ⟨h1, ?_⟩
  by_cases g : x < len * es
  · obtain ⟨v, e1, e2⟩ := ho x g hx
    exact ⟨v, by rw [List.getElem?_append_left (by omega)]; exact e1, e2⟩
  · have h3 := h2 (by omega)
    obtain ⟨hlt, h4⟩ := List.getElem?_eq_some_iff.1 h3
    obtain ⟨v, e1, e2⟩ := hn.get _ hlt
    rw [h4] at e2
    exact ⟨v, by rw [List.getElem?_append_right (by omega), hlo]; exact e1, e2⟩

/-- growth of a slice whose capacity is known -/
theorem app_grow0 {t tx ty e : TypeId} {es k id off len cap : Nat} {new : List AV} {w : W} {o : AO} (hl : new.length = k * es) (hes : 0 < es) (hg : cap < len + k) (hb : len + k ≤ 134217728)
    (hlp : isLp o = false) (hsh : shOf o = .cs ((len + k) * es)) (hF : NewF new (len + k) len es (celOf o))
    (hO : ∀ (N0 : Nat) (M : Mem) (ι : Io) (n : Dom) (ω : World), Rel P N0 ι M n ω → Agr [.mk id 0 0] w.mem M → ∃ olds, Olds ω ι n id off len es (celOf o) olds) :
    AppOk P t tx ty e es k (.sl id off len cap 0) (.sl w.nx 0 (len + k) (len + k) es) new w (w.add o) := by
  refine ⟨_, .new _ _ o [] hlp (.nil _), ?_⟩
  intro N0 M ι n ω vs vx news zs hR hf hs hA hn hC
  obtain ⟨olds, o1, o2, o3⟩ := hO N0 M ι n ω hR hA
  have hln : news.size = k * es := by have := hn.length; simpa [hl] using this.symm
  rw [hsh]
  have key : ∀ c, c = cap → MemR P N0 ι M n ω (do pure (.value (← Builtin.append_ #[t, tx] ty #[.slice (some (ι.at id off)) len c, vx]))) w.nx (w.add o).nx (.sl w.nx 0 (len + k) (len + k) es) [.put w.nx (.cs ((len + k) * es)) (celOf o)] := fun c hc =>
    grown_run (olds := olds.toArray) hR hC hes (run_firstCells_some (P := P) ω.drew es len (ι.at id off) len c olds o1 o2) (by omega) hb (hf _ (Nat.le_refl _) (by simp)) (by simpa using o1) hln _ (newF_old hF o1 hn o3)
  cases hs with
  | slx _ _ _ _ h1 => exact key _ rfl
  | sli _ _ _ _ _ c h1 h2 h3 h4 => omega

theorem at_blk (id off : Nat) : (ι.at id off).block = (ι id).blk := rfl

/-- growth of a slice whose capacity is not known -/
theorem app_grow1 {t tx ty e : TypeId} {es k id off len cap m : Nat} {new : List AV} {w : W} {o : AO} {tr : TR AV} (hl : new.length = k * es) (hes : 0 < es) (hb : len + k ≤ 134217728) (hk : ∀ a ∈ new, okC a = true) (hlc : len ≤ cap)
    (e0 : w.ob id = .cs m tr) (hr : roN ≤ id) (hlp : isLp o = false) (hsh : shOf o = .cs ((len + k) * es)) (hF : (∀ x, TR.get (.u : AV) (pathOf x) tr ≠ .u → x < m) → NewF new (len + k) len es (celOf o)) (hfo : ∀ j, j < len * es → celOf o j ≠ .u → celOf o j = TR.get .u (pathOf (off + j)) tr) :
    AppOk P t tx ty e es k (.sl id off len cap es) (.sl w.nx 0 (len + k) (len + k) es) new w ((w.set id 0 0 .no).add o) := by
  refine ⟨_, .put _ _ id .no _ hr (by rw [e0]; simp) rfl (.new _ _ o [] hlp (.nil _)), ?_⟩
  intro N0 M ι n ω vs vx news zs hR hf hs hA hn hC
  obtain ⟨a1, a2⟩ := agr_cs e0 (hA (.mk id 0 0) (by simp [objNd]))
  obtain ⟨c, elem, hc1, hc2, hc3⟩ := hR.cells a1
  have hF := hF (fun x hx => (hc2 x (by rw [a2 x (.inl rfl)]; exact hx)).1)
  have hln : news.size = k * es := by have := hn.length; simpa [hl] using this.symm
  have hidn : n id := hR.lt id (by rw [a1]; simp)
  have hkn : ¬ n w.nx := hf _ (Nat.le_refl _) (by simp)
  rw [hsh]
  simp only [W.nx_set, W.nx_add]
  cases hs with
  | slx _ _ _ _ h1 => omega
  | sli _ _ _ _ _ cc h1 h2 h3 h4 =>
    by_cases hroom : len + k ≤ cc
    · -- in place
      have hmul : (len + k) * es ≤ cc * es := Nat.mul_le_mul_right _ hroom
      have hdist : (len + k) * es = len * es + k * es := Nat.add_mul _ _ _
      have hfit : (ι id).sh + (off + len * es) + 0 + news.toList.length ≤ c.size := by simp only [Array.length_toList, hln]; omega
      have hst := run_storeCells_at P (ι id).blk ((ι id).sh + (off + len * es)) elem news.toList 0 c ω hc1 hfit (hn.one hk)
      obtain ⟨ι', e1, e2, e3⟩ := hR.adopt id w.nx (by rw [a1]; simp) hr hkn (ω' := ω.setRow (ι id).blk (c.toList.take ((ι id).sh + (off + len * es) + 0) ++ news.toList ++ c.toList.drop ((ι id).sh + (off + len * es) + 0 + news.toList.length)).toArray)
        (by simp) (fun b hb => setRow_other _ _ _ _ hb) rfl rfl rfl ⟨(ι id).blk, (ι id).sh + off, (ι id).tot⟩ rfl (.cs ((len + k) * es)) (celOf o) (celOf .no) (fun ι' he hk' => by
          refine ⟨_, elem, setRow_heap _ _ _ _ _ _ hc1, fun x hx => ?_, ?_⟩
          · obtain ⟨f1, f2⟩ := hF x hx
            refine ⟨f1, ?_⟩
            by_cases g : x < len * es
            · have h5 := hfo x g hx
              have h6 := a2 (off + x) (.inl rfl)
              obtain ⟨_, v, b1, b2⟩ := hc2 (off + x) (by rw [h6, ← h5]; exact hx)
              refine ⟨v, ?_, VR.ext he (n.le_add _) (by rw [h5, ← h6]; exact b2)⟩
              dsimp only
              rw [List.getElem?_toArray, List.getElem?_append_left (by simp; omega), List.getElem?_append_left (by simp; omega), List.getElem?_take_of_lt (by omega), Array.getElem?_toList]
              rw [← b1]; congr 1; omega
            · have h3 := f2 (by omega)
              obtain ⟨hlt, h4'⟩ := List.getElem?_eq_some_iff.1 h3
              obtain ⟨v, b1, b2⟩ := hn.get _ hlt
              rw [h4'] at b2
              refine ⟨v, ?_, VR.ext he (n.le_add _) b2⟩
              dsimp only
              rw [List.getElem?_toArray, List.getElem?_append_left (by simp; omega), List.getElem?_append_right (by simp; omega)]
              simp only [List.length_take, Array.length_toList]
              rw [← b1]; congr 1; omega
          · simp only [List.size_toArray, List.length_append, List.length_take, List.length_drop, Array.length_toList]
            simp only [Array.length_toList] at hfit
            omega)
      refine ⟨ι', _, _, _, run_vals (hC.room (some (ι.at id off)) len cc _ hroom (by show (storeCells ((ι.at id off).add (len * es)) _).run P ω = .ok () _; rw [add_at]; exact hst)), .inl rfl, ?_, ?_, ?_⟩
      · rw [Dom.upto_succ]
        have : ι.at id off = ι'.at w.nx 0 := by simp [Io.at, e1]
        rw [this]
        exact .sli _ _ _ _ _ _ (n.at_add _) hes hroom (by rw [e1]; simp; omega)
      · rw [Dom.upto_succ]; exact e2
      · rw [Dom.upto_succ]; exact e3
    · -- a new block
      have hfit : ∀ j, j < len * es → len ≤ cc → (ι id).sh + (off + j) < c.size := fun j hj hle => by
        have := Nat.mul_le_mul_right es hle
        omega
      have hle : len ≤ cc := Nat.le_trans hlc h3
      · have ho : Olds ω ι n id off len es (celOf o) ((List.range (len * es)).map fun j => (c[(ι id).sh + (off + j)]?).getD undef) := by
          refine ⟨by simp, fun j u hj => ?_, fun j hj hne => ?_⟩
          · have hlt : j < len * es := by
              rcases Nat.lt_or_ge j (len * es) with g | g
              · exact g
              · simp [g] at hj
            have hin := hfit j hlt hle
            rw [add_at, cell_at hc1]
            simp [hlt, Array.getElem?_eq_getElem hin] at hj ⊢
            exact hj
          · have h5 := hfo j hj hne
            have h6 := a2 (off + j) (.inl rfl)
            obtain ⟨_, v, b1, b2⟩ := hc2 (off + j) (by rw [h6, ← h5]; exact hne)
            exact ⟨v, by simp [hj, b1], by rw [h5, ← h6]; exact b2⟩
        obtain ⟨o1, o2, o3⟩ := ho
        have hd := hR.drop id (celOf .no)
        have hgr := grown_run hd hC hes (run_firstCells_some (P := P) ω.drew es len (ι.at id off) len cc _ o1 o2) (by omega) hb hkn (by simp) hln _ (newF_old hF o1 hn o3)
        obtain ⟨ι', x, v', ω', g1, g2, g3, g4, g5⟩ := hgr
        exact ⟨ι', x, v', ω', g1, g2, g3, g4, g5.sub (sub_drop _ _ _)⟩

theorem appendA_run {t tx ty e : TypeId} {es k : Nat} {s v : AV} {new : List AV} {w w' : W} (hes : 0 < es) (hl : new.length = k * es) (h : appendA es s k new w = .ok v w') : AppOk P t tx ty e es k s v new w w' := by
  cases s with
  | sn => exact app_nil hes hl h
  | sl id off len cap ex =>
    simp only [appendA] at h
    split at h
    · simp at h
    rename_i hex
    obtain ⟨m, tr, e0, h1⟩ := onCs_RV h
    split at h1
    · rename_i hroom
      exact app_room hl hes e0 hroom hex h1
    · rename_i hroom
      split at h1
      · simp at h1
      rename_i hc
      have hb : len + k ≤ 134217728 := by omega
      have hlc : len ≤ cap := by omega
      have hk : ∀ a ∈ new, okC a = true := (allC_iff new).1 (by
        cases g : allC new with
        | true => rfl
        | false => exact absurd (.inr (.inr g)) hc)
      unfold growA at h1
      simp only [dropO, putO_eq, newO_eq] at h1
      by_cases hx0 : ex = 0
      · subst hx0
        simp only [ne_eq, not_true_eq_false, false_and, if_false, if_true] at h1
        cases ho : loadL tr (len * es) off with
        | none => simp [ho] at h1
        | some old =>
          simp [ho] at h1
          obtain ⟨rfl, rfl⟩ := h1
          obtain ⟨l1, l2⟩ := loadL_spec _ _ _ _ ho
          have hlen : (old ++ new).length = (len + k) * es := by rw [List.length_append, l1, hl, Nat.add_mul]
          refine app_grow0 hl hes (by omega) hb rfl (by rw [shOf_mkCs, hlen]) (fun x hx => ?_) ?_
          · rw [celOf_mkCs] at hx ⊢
            have hlt : x < (old ++ new).length := by
              rcases Nat.lt_or_ge x (old ++ new).length with g | g
              · exact g
              · simp only [List.getD_eq_getElem?_getD, List.getElem?_eq_none g] at hx; simp at hx
            refine ⟨by omega, fun hge => ?_⟩
            rw [List.getD_eq_getElem?_getD, List.getElem?_append_right (by omega), l1]
            rw [List.length_append] at hlt
            rw [List.getElem?_eq_getElem (show x - len * es < new.length by omega)]; rfl
          · intro N0 M ι n ω hR hA
            obtain ⟨a1, a2⟩ := agr_cs e0 (hA (.mk id 0 0) (by simp))
            obtain ⟨vs, r1, r2, r3⟩ := load_list hR (off := off) a1 old (fun i hi => by rw [a2 _ (.inl rfl)]; exact l2 i (by omega))
            refine ⟨vs, by omega, r3, fun j hj _ => ?_⟩
            obtain ⟨v, e1, e2⟩ := r1.get j (by omega)
            refine ⟨v, e1, ?_⟩
            rw [celOf_mkCs, List.getD_eq_getElem?_getD, List.getElem?_append_left (by omega), List.getElem?_eq_getElem (by omega : j < old.length)]
            exact e2
      · have hxe : ex = es := by
          by_cases g : ex = es
          · exact g
          · exact absurd ⟨hx0, g⟩ hex
        subst hxe
        simp only [hx0, if_false, ne_eq, not_false_eq_true, true_and] at h1
        by_cases hr : roN ≤ id
        · simp only [hr, if_true] at h1
          split at h1
          · rename_i hm
            obtain ⟨rfl, rfl⟩ := hm
            simp at h1
            obtain ⟨rfl, rfl⟩ := h1
            refine app_grow1 hl hes hb hk hlc e0 hr rfl rfl (fun hT x hx => ?_) (fun j hj _ => ?_)
            · simp only [celOf, layL_spec] at hx ⊢
              by_cases g : len * ex ≤ x ∧ x < len * ex + new.length
              · simp only [g, and_self, if_true] at hx ⊢
                refine ⟨by rw [Nat.add_mul]; omega, fun _ => ?_⟩
                rw [List.getD_eq_getElem?_getD, List.getElem?_eq_getElem (show x - len * ex < new.length by omega)]; rfl
              · simp only [g, if_false] at hx ⊢
                have := hT x hx
                exact ⟨by rw [Nat.add_mul]; omega, fun _ => by omega⟩
            · simp only [celOf, layL_spec]
              rw [if_neg (by omega), Nat.zero_add]
          · cases ho : loadL tr (len * ex) off with
            | none => simp [ho] at h1
            | some old =>
              simp [ho] at h1
              obtain ⟨rfl, rfl⟩ := h1
              obtain ⟨l1, l2⟩ := loadL_spec _ _ _ _ ho
              have hlen : (old ++ new).length = (len + k) * ex := by rw [List.length_append, l1, hl, Nat.add_mul]
              refine app_grow1 hl hes hb hk hlc e0 hr rfl (by rw [shOf_mkCs, hlen]) (fun _ x hx => ?_) (fun j hj _ => ?_)
              · rw [celOf_mkCs] at hx ⊢
                have hlt : x < (old ++ new).length := by
                  rcases Nat.lt_or_ge x (old ++ new).length with g | g
                  · exact g
                  · simp only [List.getD_eq_getElem?_getD, List.getElem?_eq_none g] at hx; simp at hx
                refine ⟨by omega, fun hge => ?_⟩
                rw [List.getD_eq_getElem?_getD, List.getElem?_append_right (by omega), l1]
                rw [List.length_append] at hlt
                rw [List.getElem?_eq_getElem (show x - len * ex < new.length by omega)]; rfl
              · rw [celOf_mkCs, List.getD_eq_getElem?_getD, List.getElem?_append_left (by omega)]
                obtain ⟨q1, q2⟩ := l2 j hj
                rw [q1]; rfl
        · simp only [hr, if_false] at h1
          split at h1
          · simp at h1
          · cases ho : loadL tr (len * ex) off <;> simp [ho] at h1
  | _ => simp [appendA] at h

end
end Go.Ev

/-
  Operations that touch memory: the rest.
-/
namespace Go.Ev

section
variable {P : Program} {N0 : Nat} {ι : Io} {M : Mem} {n : Dom} {ω : World}

/-! ## Sources of append and copy -/

theorem opt_rec_some {α β : Type} {o : Option α} {f : α → Option β} {r : β} (h : (Option.rec none f o : Option β) = some r) : ∃ a, o = some a ∧ f a = some r := by
  cases o with
  | none => simp at h
  | some a => exact ⟨a, rfl, h⟩

theorem srcA_spec {es k : Nat} {x : AV} {new : List AV} {w : W} (h : srcA es x w = some (k, new)) :
    new.length = k * es ∧ ∀ (N0 : Nat) (M : Mem) (ι : Io) (n : Dom) (ω : World) (vx : Value), Rel P N0 ι M n ω → VR ι n x vx → Agr (slNd es x) w.mem M →
      ∃ news : Array Value, VRs ι n new news.toList ∧ (Builtin.lenOf vx).run P ω = .ok k ω ∧ (Builtin.firstCells es k vx).run P ω = .ok news ω ∧ (Builtin.firstCells es k vx).run P ω.drew = .ok news ω.drew := by
  cases x with
  | sn =>
    simp [srcA] at h
    obtain ⟨rfl, rfl⟩ := h
    refine ⟨by simp, fun N0 M ι n ω vx hR hx hA => ?_⟩
    cases hx
    exact ⟨#[], .nil, by simp [Builtin.lenOf], by simp [Builtin.firstCells], by simp [Builtin.firstCells]⟩
  | se =>
    simp [srcA] at h
    obtain ⟨rfl, rfl⟩ := h
    refine ⟨by simp, fun N0 M ι n ω vx hR hx hA => ?_⟩
    cases hx
    exact ⟨#[], .nil, by simp [Builtin.lenOf], by simp [Builtin.firstCells, loadCells, loadCellsFrom], by simp [Builtin.firstCells, loadCells, loadCellsFrom]⟩
  | sl id off len cap ex =>
    have h1 : ∃ m t, w.ob id = .cs m t ∧ ∃ l, loadL t (len * es) off = some l ∧ (len, l) = (k, new) := by
      cases e : w.ob id with
      | cs m t =>
        simp only [srcA, onCs, e] at h
        obtain ⟨l, h1, h2⟩ := opt_rec_some h
        exact ⟨m, t, rfl, l, h1, by simpa using h2⟩
      | _ => simp [srcA, onCs, e] at h
    obtain ⟨m, t, e0, l, hl, e1⟩ := h1
    simp only [Prod.mk.injEq] at e1
    obtain ⟨rfl, rfl⟩ := e1
    obtain ⟨l1, l2⟩ := loadL_spec _ _ _ _ hl
    refine ⟨l1, fun N0 M ι n ω vx hR hx hA => ?_⟩
    have key : ∃ c, vx = .slice (some (ι.at id off)) len c := by
      cases hx with
      | slx _ _ _ _ _ => exact ⟨_, rfl⟩
      | sli _ _ _ _ _ c _ _ _ _ => exact ⟨_, rfl⟩
    obtain ⟨c, rfl⟩ := key
    by_cases h0 : len = 0
    · subst h0
      have : l = [] := List.eq_nil_of_length_eq_zero (by simpa using l1)
      subst this
      exact ⟨#[], .nil, by simp [Builtin.lenOf], by simp [Builtin.firstCells, loadCells, loadCellsFrom], by simp [Builtin.firstCells, loadCells, loadCellsFrom]⟩
    · obtain ⟨a1, a2⟩ := agr_cs e0 (hA (.mk id off (len * es)) (by simp [slNd, h0]))
      obtain ⟨vs, r1, r2, r3⟩ := load_list hR (off := off) a1 l (fun i hi => by rw [a2 _ (.inr (by omega))]; exact l2 i (by omega))
      exact ⟨vs.toArray, by simpa using r1, by simp [Builtin.lenOf], firstCells_at (by omega) r3, firstCells_at (ω := ω.drew) (by omega) r3⟩
  | _ => simp [srcA] at h

theorem zero_size {e : TypeId} {z : List AV} {es : Nat} (hz : zeroA P e = some z) (hl : lenN z = es) : ∃ zv, (∀ ω : World, (zeroValue e).run P ω = .ok zv ω) ∧ zv.cells.size = es ∧ z = zv.cells.toList.map ofV := by
  unfold zeroA at hz
  cases hi : P.info? e with
  | none => simp [hi] at hz
  | some i =>
    simp only [hi] at hz
    cases hzz : i.zero with
    | none => simp [hzz] at hz
    | some v =>
      simp only [hzz, Option.some.injEq] at hz
      refine ⟨v, fun ω => by simp [zeroValue, run_typeInfo' hi, hzz], ?_, hz.symm⟩
      rw [lenN_eq, ← hz] at hl
      simpa using hl

theorem app_run {t tx ty e e' : TypeId} {es bytes : Nat} {z : List AV} {s x v : AV} {w w' : W} (ht : P.underlying t = some (.slice e)) (htx : P.underlying tx = some (.slice e')) (hes : sizeA P e = some es) (hby : bytesA P e = some bytes)
    (hz : zeroA P e = some z) (hzl : lenN z = es) (h0 : es ≠ 0) (hb0 : bytes ≠ 0) (hb : bytes ≤ 1048576) (h : appA es bytes s x w = .ok v w') :
    ∃ eds, Eff w w' eds ∧ ∀ (N0 : Nat) (M : Mem) (ι : Io) (n : Dom) (ω : World) (vs vx : Value), Rel P N0 ι M n ω → n.free w.nx w'.nx → VR ι n s vs → VR ι n x vx → Agr (objNd s ++ slNd es x) w.mem M →
      MemR P N0 ι M n ω (do pure (.value (← Builtin.append_ #[t, tx] ty #[vs, vx]))) w.nx w'.nx v eds := by
  unfold appA at h
  split at h
  · simp at h
  split at h
  · rename_i k new hs
    split at h
    · simp at h
    rename_i hk
    obtain ⟨s1, s2⟩ := srcA_spec (P := P) hs
    obtain ⟨eds, e1, e2⟩ := appendA_run (P := P) (t := t) (tx := tx) (ty := ty) (e := e) (Nat.pos_of_ne_zero h0) s1 h
    refine ⟨eds, e1, fun N0 M ι n ω vs vx hR hf hvs hvx hA => ?_⟩
    obtain ⟨news, n1, n2, n3, n4⟩ := s2 N0 M ι n ω vx hR hvx (fun y hy => hA y (by simp [hy]))
    obtain ⟨zv, z1, z2, _⟩ := zero_size hz hzl
    refine e2 N0 M ι n ω vs vx news zv.cells hR hf hvs (fun y hy => hA y (by simp [hy])) n1 ⟨?_, ?_, z2⟩
    · intro base sLen sCap ω' hroom hst
      exact run_app_room ht htx hes n2 n3 hroom hst
    · intro base sLen sCap olds ho hg hneed
      exact run_app_grow ht htx hes hby (z1 _) hb hb0 n2 n4 ho hg hneed
  · simp at h

theorem repN_len (k : Nat) (z : List AV) : (repN k z).length = k * z.length := by
  induction k with
  | zero => simp [repN]
  | succ k ih => simp [repN, ih, Nat.succ_mul]; omega
theorem repL_repN (k : Nat) (z : List AV) : repL k z = repN k z := by
  induction k with
  | zero => rfl
  | succ k ih =>
    have : repL (k + 1) z = appL z (repL k z) := rfl
    rw [this, appL_eq, ih]; rfl
theorem repN_get (z : List AV) : ∀ (k i : Nat), i < k * z.length → (repN k z)[i]? = z[i % z.length]? := by
  intro k
  induction k with
  | zero => intro i hi; simp at hi
  | succ k ih =>
    intro i hi
    rw [Nat.succ_mul] at hi
    simp only [repN]
    by_cases g : i < z.length
    · rw [List.getElem?_append_left g, Nat.mod_eq_of_lt g]
    · have := Nat.mod_eq_sub_mod (a := i) (b := z.length) (by omega)
      rw [List.getElem?_append_right (by omega), ih _ (by omega), this]

/-- repeated zero cells -/
theorem rep_VRs {zv : Value} {z : List AV} {k m : Nat} (hz : z = zv.cells.toList.map ofV) (hm : m = k * z.length) (h0 : 0 < z.length) : VRs ι n (repN k z) ((Array.range m).map (zv.cells[· % zv.cells.size]!)).toList := by
  have hsz : z.length = zv.cells.size := by rw [hz]; simp
  refine VRs.of_get (by simp [repN_len, hm]) fun i h1 h2 => ?_
  have hi : i < k * z.length := by rwa [repN_len] at h1
  have hmod : i % z.length < z.length := Nat.mod_lt _ h0
  have e1 := repN_get z k i hi
  rw [List.getElem?_eq_getElem h1] at e1
  have e2 : z[i % z.length]? = some (ofV (zv.cells[i % zv.cells.size]!)) := by
    have : i % zv.cells.size < zv.cells.size := by rw [← hsz]; exact hmod
    rw [hsz]
    subst hz
    simp [this]
  rw [e2, Option.some.injEq] at e1
  rw [e1]
  simp only [Array.toList_map, List.getElem_map, Array.getElem_toList, Array.getElem_range]
  exact VR_ofV _ _ _

theorem appz_run {t tx ty e : TypeId} {kk : IntKind} {es bytes : Nat} {z : List AV} {s x v : AV} {w w' : W} (ht : P.underlying t = some (.slice e)) (htx : P.underlying tx = some (.int kk)) (hes : sizeA P e = some es) (hby : bytesA P e = some bytes)
    (hz : zeroA P e = some z) (hzl : lenN z = es) (h0 : es ≠ 0) (_hb0 : bytes ≠ 0) (hb : bytes ≤ 1048576) (h : appzA es bytes z s x w = .ok v w') :
    ∃ eds, Eff w w' eds ∧ ∀ (N0 : Nat) (M : Mem) (ι : Io) (n : Dom) (ω : World) (vs vx : Value), Rel P N0 ι M n ω → n.free w.nx w'.nx → VR ι n s vs → VR ι n x vx → Agr (objNd s) w.mem M →
      MemR P N0 ι M n ω (do pure (.value (← Builtin.append_ #[t, tx] ty #[vs, vx]))) w.nx w'.nx v eds := by
  unfold appzA at h
  split at h
  · simp at h
  obtain ⟨ki, k, rfl, h1⟩ := onN_RV h
  split at h1
  · simp at h1
  rename_i hk
  have hzlen : z.length = es := by rw [← lenN_eq]; exact hzl
  have hlen : (repL k z).length = k * es := by rw [repL_len, hzlen]
  obtain ⟨eds, e1, e2⟩ := appendA_run (P := P) (t := t) (tx := tx) (ty := ty) (e := e) (Nat.pos_of_ne_zero h0) hlen h1
  refine ⟨eds, e1, fun N0 M ι n ω vs vx hR hf hvs hvx hA => ?_⟩
  obtain ⟨zv, z1, z2, z3⟩ := zero_size hz hzl
  cases hvx
  have hzc : VRs ι n (repL k z) (Builtin.zeroCells zv.cells k).toList := by
    rw [repL_repN]
    exact rep_VRs (m := k * zv.cells.size) z3 (by rw [z2, hzlen]) (by omega)
  refine e2 N0 M ι n ω vs _ (Builtin.zeroCells zv.cells k) zv.cells hR hf hvs hA hzc ⟨?_, ?_, z2⟩
  · intro base sLen sCap ω' hroom hst
    exact run_appz_room ht htx hes hby (z1 _) (by omega) h0 (by omega) hb hroom hst
  · intro base sLen sCap olds ho hg hneed
    exact run_appz_grow ht htx hes hby (z1 _) (by omega) h0 (by omega) hb ho hg hneed

/-! ## Composite literals, make -/

theorem bslice_run {t e : TypeId} {k es : Nat} {z : List AV} {ps : List (Nat × Nat × AV)} {v : AV} {w w' : W} (ht : P.underlying t = some (.slice e)) (hes : sizeA P e = some es) (hz : zeroA P e = some z) (hzl : lenN z = es) (h0 : 0 < es)
    (hb : k * es ≤ 16777216) (h : bsliceA k (repN k z) ps w = .ok v w') :
    ∃ eds, Eff w w' eds ∧ ∀ (N0 : Nat) (M : Mem) (ι : Io) (n : Dom) (ω : World) (parts : Array (Nat × Value)), Rel P N0 ι M n ω → n.free w.nx w'.nx → PartsR ι n (fun i => some (i * es, es)) ps parts.toList →
      MemR P N0 ι M n ω (do pure (.value (← Instr.buildSlice t k parts))) w.nx w'.nx v eds := by
  unfold bsliceA at h
  split at h
  · rename_i cs hcs
    rw [newO_eq] at h
    simp at h
    obtain ⟨rfl, rfl⟩ := h
    refine ⟨_, .new _ _ _ [] rfl (.nil _), fun N0 M ι n ω parts hR hf hp => ?_⟩
    obtain ⟨zv, z1, z2, z3⟩ := zero_size hz hzl
    have hzlen : z.length = es := by rw [← lenN_eq]; exact hzl
    obtain ⟨cc, c1, c2⟩ := fill_run hp hcs (rep_VRs (ι := ι) (n := n) (m := k * es) z3 (by rw [hzlen]) (by omega))
    refine MemR.new hR (hf _ (Nat.le_refl _) (by simp)) (.cells cc e) ⟨ω.heap.size, 0, 0⟩ _ _ (.slice (some ⟨ω.heap.size, 0, none⟩) k k) (.inl rfl) rfl ?_ (fun ι' he _ => obR_new cs _ _ _ rfl (Nat.zero_le _) (VRs.ext he (n.le_add _) c2)) (fun ι' he _ => ?_)
    · refine run_vals ?_
      unfold Instr.buildSlice
      have hb' : ¬ (16777216 < k * es) := by omega
      by_cases hk : k * es = 0
      · have hk0 : k = 0 := by rcases Nat.mul_eq_zero.1 hk with g | g <;> omega
        subst hk0
        simp only [Nat.zero_mul] at c1
        have c1' : Instr.fill (fun i => some (i * es, es)) (#[] : Array Value) parts.toList = some cc := by simpa [Array.range_zero'] using c1
        simp [run_underlying' ht, run_sizeOf' hes, c1', newRow, Array.range_zero']
      · simp [run_underlying' ht, run_sizeOf' hes, hb', hk, z1, z2] at c1 ⊢
        simp [c1, newRow]
    · rw [size_at ι' _ _ w.nx he]
      exact .slx _ _ _ _ (n.at_add _)
  · simp at h

theorem mksl_run {t e : TypeId} {es bytes : Nat} {z : List AV} {l c v : AV} {w w' : W} (ht : P.underlying t = some (.slice e)) (hes : sizeA P e = some es) (hby : bytesA P e = some bytes) (hz : zeroA P e = some z) (hzl : lenN z = es) (h0 : 0 < es)
    (h : mkslA es bytes z l c w = .ok v w') :
    ∃ eds, Eff w w' eds ∧ ∀ (N0 : Nat) (M : Mem) (ι : Io) (n : Dom) (ω : World) (vl vc : Value), Rel P N0 ι M n ω → n.free w.nx w'.nx → VR ι n l vl → VR ι n c vc →
      MemR P N0 ι M n ω (do pure (.value (← Instr.makeSlice t vl vc))) w.nx w'.nx v eds := by
  obtain ⟨k1, l', rfl, h1⟩ := onN_RV h
  obtain ⟨k2, c', rfl, h2⟩ := onN_RV h1
  split at h2
  · rename_i hc
    obtain ⟨hlc, hc63, hcb, hzl'⟩ := hc
    rw [newO_eq] at h2
    simp at h2
    obtain ⟨rfl, rfl⟩ := h2
    have hlen : (repL c' z).length = c' * es := by rw [repL_len, ← lenL_eq, hzl']
    have hob : (AO.cs (c' * es) (layL (repL c' z) .e 0)) = mkCs (repL c' z) := by unfold mkCs; rw [lenL_eq, hlen]
    rw [hob]
    refine ⟨_, .new _ _ _ [] rfl (.nil _), fun N0 M ι n ω vl vc hR hf hl hc => ?_⟩
    obtain ⟨zv, z1, z2, z3⟩ := zero_size hz hzl
    cases hl; cases hc
    cases hi : P.info? e with
    | none => simp [sizeA, hi] at hes
    | some i =>
      have hsz : i.size = es := by simpa [sizeA, hi] using hes
      have hbb : i.bytes = bytes := by simpa [bytesA, hi] using hby
      have hzz : i.zero = some zv := by
        have := z1 ω
        cases hq : i.zero with
        | none => simp [zeroValue, run_typeInfo' hi, hq] at this
        | some v => simp [zeroValue, run_typeInfo' hi, hq] at this; rw [this]
      have hr := run_make (P := P) ω t e i zv ht hi hzz (kd k1) (kd k2) (l' : Int) (c' : Int) (by omega) (by omega) (by
        rw [hbb, ← Int.natCast_mul, Nat.mul_comm]; omega) (by omega)
      refine MemR.new hR (hf _ (Nat.le_refl _) (by simp)) _ ⟨ω.heap.size, 0, 0⟩ _ _ _ (.inl rfl) rfl (run_vals hr) (fun ι' he _ => obR_new _ _ _ _ rfl (Nat.zero_le _) (VRs.ext he (n.le_add _) ?_)) (fun ι' he _ => ?_)
      · rw [repL_repN]
        exact rep_VRs z3 (by rw [hsz, ← lenN_eq, hzl]; simp) (by rw [← lenN_eq, hzl]; exact h0)
      · rw [size_at ι' _ _ w.nx he]
        simp only [Int.toNat_natCast]
        exact .slx _ _ _ _ (n.at_add _)
  · simp at h2

end
end Go.Ev

/-
  copy, clear, maps.
-/
namespace Go.Ev

section
variable {P : Program} {N0 : Nat} {ι : Io} {M : Mem} {n : Dom} {ω : World}

theorem VR_sl {id off len cap ex : Nat} {v : Value} (h : VR ι n (.sl id off len cap ex) v) : ∃ c, v = .slice (some (ι.at id off)) len c := by
  cases h with
  | slx _ _ _ _ _ => exact ⟨_, rfl⟩
  | sli _ _ _ _ _ c _ _ _ _ => exact ⟨_, rfl⟩

theorem copy_run {td ts ty e : TypeId} {es : Nat} {d s v : AV} {w w' : W} (ht : P.underlying td = some (.slice e)) (hes : sizeA P e = some es) (h0 : es ≠ 0) (h : copyA es d s w = .ok v w') :
    ∃ eds, Eff w w' eds ∧ ∀ (N0 : Nat) (M : Mem) (ι : Io) (n : Dom) (ω : World) (vd vs : Value), Rel P N0 ι M n ω → VR ι n d vd → VR ι n s vs → Agr (slNd es d ++ slNd es s) w.mem M →
      MemR P N0 ι M n ω (do pure (.value (← Builtin.copy_ #[td, ts] ty #[vd, vs]))) w.nx w'.nx v eds := by
  unfold copyA at h
  split at h
  · rename_i ia oa la ca xa ib ob lb cb xb
    obtain ⟨mb, tb, eb, h1⟩ := onCs_RV h
    split at h1
    · rename_i new hnew
      obtain ⟨ma, ta, ea, h2⟩ := onCs_RV h1
      split at h2
      · rename_i t' hst
        obtain ⟨l1, l2⟩ := loadL_spec _ _ _ _ hnew
        split at h2
        · rename_i hk
          simp at h2
          obtain ⟨rfl, rfl⟩ := h2
          refine ⟨[], .nil _, fun N0 M ι n ω vd vs hR hd hs hA => ?_⟩
          obtain ⟨c1, rfl⟩ := VR_sl hd
          obtain ⟨c2, rfl⟩ := VR_sl hs
          have hk' : Nat.min lb la = 0 := hk
          exact MemR.read hR ⟨goInt 0, run_vals (by simp [Builtin.copy_, run_underlying' ht, run_sizeOf' hes, Builtin.lenOf, hk', Builtin.firstCells, loadCells, loadCellsFrom, storeCells]), VR.nn 3 0⟩
        · rename_i hk
          rw [putO_eq] at h2
          split at h2
          · rename_i hr
            simp at h2
            obtain ⟨rfl, rfl⟩ := h2
            obtain ⟨s1, s2, s3⟩ := storeL_spec _ _ _ _ hst
            have hne : new ≠ [] := fun e => Nat.mul_ne_zero hk h0 (by rw [← l1, e]; rfl)
            refine ⟨[.wr ia oa new], .wr _ _ ia _ ma new ta t' [] hr hne ea hst (by rw [l1]; exact .nil _), fun N0 M ι n ω vd vs hR hd hs hA => ?_⟩
            obtain ⟨c1, rfl⟩ := VR_sl hd
            obtain ⟨c2, rfl⟩ := VR_sl hs
            have hla : la ≠ 0 := by omega
            have hlb : lb ≠ 0 := by omega
            have hma : min lb la * es ≤ la * es := Nat.mul_le_mul_right _ (Nat.min_le_right _ _)
            have hmb : min lb la * es ≤ lb * es := Nat.mul_le_mul_right _ (Nat.min_le_left _ _)
            obtain ⟨a1, a2⟩ := agr_cs ea (hA (.mk ia oa (la * es)) (by simp [slNd, hla]))
            obtain ⟨b1, b2⟩ := agr_cs eb (hA (.mk ib ob (lb * es)) (by simp [slNd, hlb]))
            obtain ⟨vs, r1, r2, r3⟩ := load_list hR (off := ob) b1 new (fun i hi => by rw [b2 _ (.inr (by omega))]; exact l2 i (by omega))
            obtain ⟨ω', q1, q2, q3⟩ := store_list hR (off := oa) a1 hr r1 s1 (fun i hi => by rw [a2 _ (.inr (by omega))]; exact s2 i hi)
            have hf := run_firstCells_some (P := P) ω es (min lb la) (ι.at ib ob) lb c2 vs (by omega) r3
            refine ⟨ι, _, _, ω', run_vals (v := goInt ((min lb la : Nat) : Int)) ?_, .inl rfl, ?_, ?_, ?_⟩
            · have hm : Nat.min lb la = min lb la := rfl
              simp [Builtin.copy_, run_underlying' ht, run_sizeOf' hes, Builtin.lenOf, hm, hf, q1]
            · simp only [W.nx_set, Dom.upto_self]; exact VR.nn 3 _
            · simp only [W.nx_set, Dom.upto_self]; exact q2
            · simp only [W.nx_set, Dom.upto_self]; exact q3
          · simp at h2
      · simp at h2
    · simp at h1
  · simp at h

theorem clear_run {t ty e : TypeId} {es : Nat} {z : List AV} {s v : AV} {w w' : W} (ht : P.underlying t = some (.slice e)) (hz : zeroA P e = some z) (hzl : lenN z = es) (h0 : es ≠ 0) (h : clearA es z s w = .ok v w') :
    ∃ eds, Eff w w' eds ∧ ∀ (N0 : Nat) (M : Mem) (ι : Io) (n : Dom) (ω : World) (vs : Value), Rel P N0 ι M n ω → VR ι n s vs → Agr (slNd es s) w.mem M →
      MemR P N0 ι M n ω (do pure (.value (← Builtin.clear_ #[t] ty #[vs]))) w.nx w'.nx v eds := by
  unfold clearA at h
  split at h
  · simp at h
    obtain ⟨rfl, rfl⟩ := h
    refine ⟨[], .nil _, fun N0 M ι n ω vs hR hs hA => ?_⟩
    cases hs
    exact MemR.read hR ⟨.tuple #[], run_vals (by simp [Builtin.clear_, run_underlying' ht]), .u _⟩
  · rename_i id off len cap ex
    split at h
    · rename_i hl
      simp at h
      obtain ⟨rfl, rfl⟩ := h
      refine ⟨[], .nil _, fun N0 M ι n ω vs hR hs hA => ?_⟩
      obtain ⟨c, rfl⟩ := VR_sl hs
      subst hl
      exact MemR.read hR ⟨.tuple #[], run_vals (by simp [Builtin.clear_, run_underlying' ht]), .u _⟩
    · rename_i hl
      split at h
      · rename_i hzl'
        obtain ⟨m, tr, e0, h1⟩ := onCs_RV h
        split at h1
        · rename_i t' hst
          rw [putO_eq] at h1
          split at h1
          · rename_i hr
            simp at h1
            obtain ⟨rfl, rfl⟩ := h1
            obtain ⟨s1, s2, s3⟩ := storeL_spec _ _ _ _ hst
            have hzlen : z.length = es := by rw [← lenN_eq]; exact hzl
            have hlen : (repL len z).length = len * es := by rw [repL_len, hzlen]
            have hne : repL len z ≠ [] := fun e => Nat.mul_ne_zero hl h0 (by rw [← hlen, e]; rfl)
            refine ⟨[.wr id off (repL len z)], .wr _ _ id _ m _ tr t' [] hr hne e0 hst (by rw [hlen]; exact .nil _), fun N0 M ι n ω vs hR hs hA => ?_⟩
            obtain ⟨c, rfl⟩ := VR_sl hs
            obtain ⟨zv, z1, z2, z3⟩ := zero_size hz hzl
            obtain ⟨a1, a2⟩ := agr_cs e0 (hA (.mk id off (len * es)) (by simp [slNd, hl]))
            have hzc : VRs ι n (repL len z) (Builtin.zeroCells zv.cells len).toList := by
              rw [repL_repN]
              exact rep_VRs (m := len * zv.cells.size) z3 (by rw [z2, hzlen]) (by omega)
            obtain ⟨ω', q1, q2, q3⟩ := store_list hR (off := off) a1 hr hzc s1 (fun i hi => by rw [a2 _ (.inr (by omega))]; exact s2 i hi)
            refine ⟨ι, _, _, ω', run_vals (v := .tuple #[]) ?_, .inl rfl, ?_, ?_, ?_⟩
            · obtain ⟨l', rfl⟩ := Nat.exists_eq_succ_of_ne_zero hl
              simp only [Nat.succ_eq_add_one] at q1
              simp [Builtin.clear_, run_underlying' ht, z1, q1]
            · exact .u _
            · simp only [W.nx_set, Dom.upto_self]; exact q2
            · simp only [W.nx_set, Dom.upto_self]; exact q3
          · simp at h1
        · simp at h1
      · simp at h
  · simp at h

/-! ## Maps -/

/-- the kind of a key's type -/
def KeyD (d : TypeDesc) (st : Bool) (kk : Nat) : Prop := (st = false ∧ ∃ j, d = .int j ∧ kk = kc j) ∨ (st = true ∧ d = .string)

theorem keyKind_cases {st : Bool} {kk : Nat} {k : AV} (h : keyKind st kk k = true) : (∃ a, k = .n kk a ∧ st = false) ∨ (∃ x, k = .s x ∧ st = true) := by
  cases k <;> simp [keyKind] at h
  · rename_i c a; exact .inl ⟨a, by rw [h.1], h.2⟩
  · rename_i x; exact .inr ⟨x, rfl, h⟩

theorem ba_eq {x y : ByteArray} (h : (x == y) = true) : x = y := by
  cases x with | mk a => cases y with | mk b =>
  have : (a == b) = true := h
  rw [eq_of_beq this]

theorem same_run {d : TypeDesc} {st : Bool} {kk : Nat} {k a : AV} {vk va : Value} {b : Bool} (hd : KeyD d st kk) (hk : keyKind st kk k = true) (h : keyA k a = some b) (hvk : VR ι n k vk) (hva : VR ι n a va) :
    Instr.sameNow d vk va = some b ∧ (b = true → Instr.sameBits 10000 va vk = true) := by
  rcases keyKind_cases hk with ⟨m, rfl, rfl⟩ | ⟨x, rfl, rfl⟩
  · rcases hd with ⟨_, j, rfl, rfl⟩ | ⟨h1, _⟩
    · cases a <;> simp [keyA] at h
      rename_i k' c
      obtain ⟨rfl, rfl⟩ := h
      cases hvk; cases hva
      rw [kd_kc]
      refine ⟨?_, fun hb => ?_⟩
      · simp [Instr.sameNow]
        rw [Bool.eq_iff_iff]; simp; omega
      · simp at hb
        simp [Instr.sameBits, hb]
    · cases h1
  · rcases hd with ⟨h1, _⟩ | ⟨_, rfl⟩
    · cases h1
    · cases a <;> simp [keyA] at h
      cases hvk; cases hva
      subst h
      refine ⟨by simp [Instr.sameNow], fun hb => ?_⟩
      have hb' := ba_eq hb
      subst hb'
      exact hb

theorem find_run {d : TypeDesc} {st : Bool} {kk : Nat} {k : AV} {vk : Value} (hd : KeyD d st kk) (hk : keyKind st kk k = true) (hvk : VR ι n k vk) : ∀ {es : List (AV × AV)} {es' : List MapEntry} {r : Option AV} (i : Nat), MapR ι n es es' → findA k es = some r →
    (r = none ∧ Instr.findNow d vk es' i = some none) ∨ (∃ v p v', r = some v ∧ Instr.findNow d vk es' i = some (some (p, v')) ∧ VR ι n v v') := by
  intro es
  induction es with
  | nil => intro es' r i hm h; cases hm; simp [findA] at h; exact .inl ⟨h.symm, rfl⟩
  | cons x es ih =>
    obtain ⟨a, v⟩ := x
    intro es' r i hm h
    cases hm with
    | cons _ _ e _ es' h1 h2 h3 =>
      simp only [findA] at h
      split at h
      · rename_i hka
        simp at h; subst h
        exact .inr ⟨v, i, e.val, rfl, by simp [Instr.findNow, (same_run hd hk hka hvk h1).1], h2⟩
      · rename_i hka
        have := ih (i + 1) h3 h
        simpa [Instr.findNow, (same_run hd hk hka hvk h1).1] using this
      · simp at h

theorem put_run {d : TypeDesc} {st : Bool} {kk : Nat} {k v : AV} {vk vv : Value} (hd : KeyD d st kk) (hk : keyKind st kk k = true) (hvk : VR ι n k vk) (hvv : VR ι n v vv) : ∀ {es es2 : List (AV × AV)} {es' : List MapEntry} (i : Nat), MapR ι n es es' → putA k v es = some es2 →
    (Instr.findNow d vk es' i = some none ∧ ∀ born, MapR ι n es2 (es' ++ [{ key := vk, val := vv, born }])) ∨
    (∃ j e v', Instr.findNow d vk es' i = some (some (i + j, v')) ∧ es'[j]? = some e ∧ Instr.sameBits 10000 e.key vk = true ∧ MapR ι n es2 (es'.modify j fun e => { e with key := vk, val := vv })) := by
  intro es
  induction es with
  | nil =>
    intro es2 es' i hm h
    cases hm
    simp [putA] at h
    subst h
    exact .inl ⟨rfl, fun born => .cons _ _ _ _ _ hvk hvv .nil⟩
  | cons x es ih =>
    obtain ⟨a, y⟩ := x
    intro es2 es' i hm h
    cases hm with
    | cons _ _ e _ es' h1 h2 h3 =>
      simp only [putA] at h
      split at h
      · rename_i hka
        simp at h; subst h
        exact .inr ⟨0, e, e.val, by simp [Instr.findNow, (same_run hd hk hka hvk h1).1], rfl, (same_run hd hk hka hvk h1).2 rfl, .cons _ _ _ _ _ hvk hvv h3⟩
      · rename_i hka
        cases hp : putA k v es with
        | none => simp [hp] at h
        | some r =>
          simp [hp] at h; subst h
          rcases ih (i + 1) h3 hp with ⟨q1, q2⟩ | ⟨j, e', v', q1, q2, q3, q4⟩
          · exact .inl ⟨by simpa [Instr.findNow, (same_run hd hk hka hvk h1).1] using q1, fun born => .cons _ _ _ _ _ h1 h2 (q2 born)⟩
          · refine .inr ⟨j + 1, e', v', ?_, by simpa using q2, q3, .cons _ _ _ _ _ h1 h2 q4⟩
            simp [Instr.findNow, (same_run hd hk hka hvk h1).1, q1]
            omega
      · simp at h

end
end Go.Ev

/-
  Every operation that touches memory.
-/
namespace Go.Ev
open Go.MapKept (run_getObj_map run_setObj_map heap_set)

section
variable {P : Program} {N0 : Nat} {ι : Io} {M : Mem} {n : Dom} {ω : World}

theorem checkKey_run {kt : TypeId} {d : TypeDesc} {st : Bool} {kk : Nat} {vk : Value} (hu : P.underlying kt = some d) (hd : KeyD d st kk) (b : Bool) : (Instr.checkKey b 10000 kt vk).run P ω = .ok () ω := by
  unfold Instr.checkKey
  simp only [Sem.run_bind, run_underlying' hu, Result.andThen_ok]
  rcases hd with ⟨_, j, rfl, _⟩ | ⟨_, rfl⟩ <;> cases vk <;> rfl

theorem mp_at {w : W} {id : Nat} {es : List (AV × AV)} (e : w.ob id = .mp es) (h : agr (.mk id 0 0) w.mem M) (hR : Rel P N0 ι M n ω) :
    M.sh id = .mp es ∧ ∃ es' ck, ω.heap[(ι id).blk]? = some (.map es' ck) ∧ MapR ι n es es'.toList := by
  have e1 : M.sh id = .mp es := by rw [h.1]; simp [W.mem, e, shOf]
  refine ⟨e1, ?_⟩
  have := hR.ob id (by rw [e1]; simp)
  rw [e1] at this
  exact this

theorem lookup_run {t kt e : TypeId} {d : TypeDesc} {st : Bool} {kk : Nat} {z : AV} {ok : Bool} {m k v : AV} {w w' : W} (ht : P.underlying t = some (.map kt e)) (hu : P.underlying kt = some d) (hd : KeyD d st kk) (hz : zeroV P e = some z)
    (h : lookupA st kk z ok m k w = .ok v w') :
    w' = w ∧ ∀ (N0 : Nat) (M : Mem) (ι : Io) (n : Dom) (ω : World) (vm vk : Value), Rel P N0 ι M n ω → VR ι n m vm → VR ι n k vk → Agr (mapNd m) w.mem M →
      MemR P N0 ι M n ω (do pure (.value (← Instr.lookup t vm vk ok))) w.nx w.nx v [] := by
  unfold lookupA at h
  split at h
  · rename_i hk
    have zr : ∃ zv, (∀ ω : World, (zeroValue e).run P ω = .ok zv ω) ∧ ∀ (ι : Io) (n : Dom), VR ι n z zv := by
      unfold zeroV at hz
      cases hi : P.info? e with
      | none => simp [hi] at hz
      | some i =>
        cases hzz : i.zero with
        | none => simp [hi, hzz] at hz
        | some zv =>
          simp [hi, hzz] at hz
          subst hz
          exact ⟨zv, fun ω => by simp [zeroValue, run_typeInfo' hi, hzz], fun ι n => VR_ofV ι n zv⟩
    obtain ⟨zv, z1, z2⟩ := zr
    have miss : ∀ (ι : Io) (n : Dom), VR ι n (if ok then .tup [z, .b false] else z) (if ok then .tuple #[zv, .bool false] else zv) := fun ι n => by
      cases ok
      · exact z2 ι n
      · exact .tup _ _ (.cons _ _ _ _ (z2 ι n) (.cons _ _ _ _ (.b _) .nil))
    split at h
    · simp only [RV.ok.injEq] at h
      obtain ⟨rfl, rfl⟩ := h
      refine ⟨rfl, fun N0 M ι n ω vm vk hR hm hvk hA => ?_⟩
      cases hm
      refine MemR.read hR ⟨_, run_vals ?_, miss ι n⟩
      unfold Instr.lookup
      simp [run_underlying' ht, checkKey_run hu hd, Instr.findKey, run_underlying' hu, Instr.findNow, z1]
    · rename_i id
      split at h
      · rename_i es e0
        have fin : ∀ (N0 : Nat) (M : Mem) (ι : Io) (n : Dom) (ω : World) (vm vk : Value), Rel P N0 ι M n ω → VR ι n (.m id) vm → VR ι n k vk → Agr (mapNd (.m id)) w.mem M → ∀ r, findA k es = some r →
            ∃ v', (Instr.lookup t vm vk ok).run P ω = .ok v' ω ∧ VR ι n (match r with | some v => if ok then .tup [v, .b true] else v | none => if ok then .tup [z, .b false] else z) v' := by
          intro N0 M ι n ω vm vk hR hm hvk hA r hr
          obtain ⟨e1, es', ck, e2, e3⟩ := mp_at e0 (hA _ (by simp [mapNd])) hR
          cases hm
          have hget : (getObj (ι id).blk).run P ω = .ok (.map es' ck) ω := run_getObj_map e2
          unfold Instr.lookup
          rcases find_run hd hk hvk 0 e3 hr with ⟨rfl, q⟩ | ⟨v, p, v', rfl, q, q2⟩
          · refine ⟨_, ?_, miss ι n⟩
            simp [run_underlying' ht, hget, checkKey_run hu hd, Instr.findKey, run_underlying' hu, q, z1]
          · refine ⟨if ok then .tuple #[v', .bool true] else v', ?_, ?_⟩
            · simp [run_underlying' ht, hget, checkKey_run hu hd, Instr.findKey, run_underlying' hu, q]
            · cases ok
              · exact q2
              · exact .tup _ _ (.cons _ _ _ _ q2 (.cons _ _ _ _ (.b _) .nil))
        split at h
        · rename_i v0 hf
          simp only [RV.ok.injEq] at h
          obtain ⟨rfl, rfl⟩ := h
          refine ⟨rfl, fun N0 M ι n ω vm vk hR hm hvk hA => ?_⟩
          obtain ⟨v', q1, q2⟩ := fin N0 M ι n ω vm vk hR hm hvk hA _ hf
          exact MemR.read hR ⟨v', run_vals q1, q2⟩
        · rename_i hf
          simp only [RV.ok.injEq] at h
          obtain ⟨rfl, rfl⟩ := h
          refine ⟨rfl, fun N0 M ι n ω vm vk hR hm hvk hA => ?_⟩
          obtain ⟨v', q1, q2⟩ := fin N0 M ι n ω vm vk hR hm hvk hA _ hf
          exact MemR.read hR ⟨v', run_vals q1, q2⟩
        · simp at h
      · simp at h
    · simp at h
  · simp at h

theorem mupd_run {t kt e : TypeId} {d : TypeDesc} {st : Bool} {kk : Nat} {m k x v : AV} {w w' : W} (ht : P.underlying t = some (.map kt e)) (hu : P.underlying kt = some d) (hd : KeyD d st kk) (h : mupdA st kk m k x w = .ok v w') :
    ∃ eds, Eff w w' eds ∧ ∀ (N0 : Nat) (M : Mem) (ι : Io) (n : Dom) (ω : World) (vm vk vx : Value), Rel P N0 ι M n ω → VR ι n m vm → VR ι n k vk → VR ι n x vx → Agr (mapNd m) w.mem M →
      MemR P N0 ι M n ω (do Instr.mapUpdate t vm vk vx; pure .skip) w.nx w'.nx v eds := by
  unfold mupdA at h
  split at h
  · rename_i hkk
    simp only [Bool.and_eq_true] at hkk
    obtain ⟨hk, hx⟩ := hkk
    split at h
    · rename_i id
      split at h
      · rename_i es e0
        split at h
        · rename_i es2 hp
          rw [putO_eq] at h
          split at h
          · rename_i hr
            simp at h
            obtain ⟨rfl, rfl⟩ := h
            refine ⟨_, .put _ _ id (.mp es2) [] hr (by rw [e0]; simp) rfl (.nil _), fun N0 M ι n ω vm vk vx hR hm hvk hvx hA => ?_⟩
            obtain ⟨e1, es', ck, e2, e3⟩ := mp_at e0 (hA _ (by simp [mapNd])) hR
            cases hm
            have hget : (getObj (ι id).blk).run P ω = .ok (.map es' ck) ω := run_getObj_map e2
            have fin : ∀ (es'' : Array MapEntry) (ck' : Nat), MapR ι n es2 es''.toList → (Instr.mapUpdate t (.map (some (ι id).blk)) vk vx).run P ω = .ok () { ω with heap := ω.heap.setIfInBounds (ι id).blk (.map es'' ck') } →
                MemR P N0 ι M n ω (do Instr.mapUpdate t (.map (some (ι id).blk)) vk vx; pure .skip) w.nx (W.set id 0 0 (.mp es2) w).nx .u [.put id (shOf (.mp es2)) (celOf (.mp es2))] := by
              intro es'' ck' hm2 hrun
              obtain ⟨h1, h2⟩ := heap_set (o' := .map es'' ck') e2
              have hu := hR.upd (w' := { ω with heap := ω.heap.setIfInBounds (ι id).blk (.map es'' ck') }) id (.mp es2) (celOf (.mp es2)) (by rw [e1]; simp) hr (by simp) h2 rfl rfl rfl ⟨es'', ck', h1, hm2⟩
              refine ⟨ι, .skip, undef, { ω with heap := ω.heap.setIfInBounds (ι id).blk (.map es'' ck') }, by simp [hrun], .inr ⟨rfl, rfl⟩, .u _, ?_, ?_⟩
              · simp only [W.nx_set, Dom.upto_self]; exact hu.1
              · simp only [W.nx_set, Dom.upto_self]; exact hu.2
            rcases put_run hd hk hvk hvx 0 e3 hp with ⟨q1, q2⟩ | ⟨j, en, v', q1, q2, q3, q4⟩
            · refine fin (es'.push { key := vk, val := vx, born := ck }) (ck + 1) (by simpa using q2 ck) ?_
              unfold Instr.mapUpdate
              simp [run_underlying' ht, hget, checkKey_run hu hd, Instr.findKey, run_underlying' hu, q1, run_setObj_map _ e2]
            · have hj : es'[j]? = some en := by rw [← Array.getElem?_toList]; exact q2
              refine fin (es'.modify j fun e => { e with key := vk, val := vx }) ck (by rw [Array.toList_modify]; exact q4) ?_
              unfold Instr.mapUpdate
              simp [run_underlying' ht, hget, checkKey_run hu hd, Instr.findKey, run_underlying' hu, q1, run_setObj_map _ e2, hj, Instr.keyThatStays, q3]
          · simp at h
        · simp at h
      · simp at h
    · simp at h
  · simp at h

theorem mkmap_run {t : TypeId} (w : W) : ∃ eds, Eff w (w.add (.mp [])) eds ∧ ∀ (N0 : Nat) (M : Mem) (ι : Io) (n : Dom) (ω : World), Rel P N0 ι M n ω → n.free w.nx (w.add (.mp [])).nx →
    MemR P N0 ι M n ω (do pure (.value (← Instr.makeMap t none))) w.nx (w.add (.mp [])).nx (.m w.nx) eds := by
  refine ⟨_, .new _ _ _ [] rfl (.nil _), fun N0 M ι n ω hR hf => ?_⟩
  refine MemR.new hR (hf _ (Nat.le_refl _) (by simp)) (.map #[] 0) ⟨ω.heap.size, 0, 0⟩ _ _ (.map (some ω.heap.size)) (.inl rfl) rfl (run_vals (by simp [Instr.makeMap])) (fun ι' he _ => ⟨#[], 0, rfl, .nil⟩) (fun ι' he _ => ?_)
  have : some ω.heap.size = some (ι' w.nx).blk := by rw [he]
  rw [this]
  exact .m _ (n.at_add _)

/-- what an operation with memory comes to -/
def MemOk (E : Env) (pre : Pre) (R : List AV) (tm : Tm) (o : Oper) (i : I) : Prop :=
  ∃ f : W → RV, (∀ S w k, exI i S R tm w k = opt2 (f w) k) ∧ ∀ w v w', f w = .ok v w' → ∃ eds, Eff w w' eds ∧
    ∀ (N0 : Nat) (M : Mem) (ι : Io) (n : Dom) (ω : World) (ρ : Operand → Value), Rel E.P N0 ι M n ω → n.free w.nx w'.nx → OpR E pre R tm ρ ι n → Agr (needI i R tm) w.mem M → MemR E.P N0 ι M n ω (execOp ρ o) w.nx w'.nx v eds

end

section
variable {E : Env} {pre : Pre} {R : List AV} {tm : Tm}

theorem MemR.congr {P : Program} {N0 : Nat} {ι : Io} {M : Mem} {n : Dom} {ω : World} {s s' : Sem Next} {a b : Nat} {v : AV} {es : List Ed} (h : s'.run P ω = s.run P ω) (hm : MemR P N0 ι M n ω s a b v es) : MemR P N0 ι M n ω s' a b v es := by
  obtain ⟨ι', x, v', ω', h1, h2⟩ := hm
  exact ⟨ι', x, v', ω', h.trans h1, h2⟩

theorem mem_sound {o : Oper} {i : I} (hc : cOp E pre o = some i) (hk : kindI i = 1) : MemOk E pre R tm o i := by
  unfold cOp at hc
  cases ho : o.op <;> simp only [ho] at hc
  case alloc t =>
    cases h1 : zeroA E.P t <;> simp [h1] at hc
    subst hc
    refine ⟨allocA _, fun _ _ _ => rfl, fun w v w' h => ?_⟩
    obtain ⟨eds, e1, e2⟩ := alloc_run h1 h
    refine ⟨eds, e1, fun N0 M ι n ω ρ hR hf hρ hA => ?_⟩
    unfold execOp; simp only [ho]; exact e2 N0 M ι n ω hR hf
  case box t x =>
    cases h1 : cA E pre x <;> simp [h1] at hc
    subst hc
    refine ⟨boxA (evA _ R tm), fun _ _ _ => rfl, fun w v w' h => ?_⟩
    obtain ⟨eds, e1, e2⟩ := box_run (P := E.P) (t := t) h
    refine ⟨eds, e1, fun N0 M ι n ω ρ hR hf hρ hA => ?_⟩
    unfold execOp; simp only [ho]; exact e2 N0 M ι n ω _ hR hf (hρ x _ h1)
  case buildSlice t k ps =>
    split at hc
    · rename_i e ht
      split at hc
      · rename_i es z hes hz
        split at hc
        · rename_i hb
          obtain ⟨hb1, hb2, hb3⟩ := hb
          cases h3 : cPA E pre es ps.toList <;> simp [h3] at hc
          subst hc
          refine ⟨bsliceA k (repN k z) (evP _ R tm), fun _ _ _ => rfl, fun w v w' h => ?_⟩
          obtain ⟨eds, e1, e2⟩ := bslice_run ht hes hz hb2 hb3 hb1 h
          refine ⟨eds, e1, fun N0 M ι n ω ρ hR hf hρ hA => ?_⟩
          unfold execOp; simp only [ho]
          exact e2 N0 M ι n ω _ hR hf (by rw [Array.toList_map]; exact cPA_rel hρ es _ _ h3)
        · simp at hc
      · simp at hc
    · simp at hc
  case load t x =>
    split at hc
    · rename_i k ha hs
      cases h1 : cA E pre x <;> simp [h1] at hc
      subst hc
      refine ⟨loadnA k (evA _ R tm), fun _ _ _ => rfl, fun w v w' h => ?_⟩
      have hw := (loadnA_eq h).1
      subst hw
      refine ⟨[], .nil _, fun N0 M ι n ω ρ hR hf hρ hA => ?_⟩
      obtain ⟨v', q1, q2⟩ := loadn_run ha hs h hR (hρ x _ h1) hA
      unfold execOp; simp only [ho]
      exact MemR.read hR ⟨v', run_vals q1, q2⟩
    · rename_i k ha hs
      cases h1 : cA E pre x <;> simp [h1] at hc
      subst hc
      refine ⟨load1A (evA _ R tm), fun _ _ _ => rfl, fun w v w' h => ?_⟩
      have hw := (load1A_eq h).1
      subst hw
      refine ⟨[], .nil _, fun N0 M ι n ω ρ hR hf hρ hA => ?_⟩
      obtain ⟨v', q1, q2⟩ := load1_run ha hs h hR (hρ x _ h1) hA
      unfold execOp; simp only [ho]
      exact MemR.read hR ⟨v', run_vals q1, q2⟩
    · simp at hc
  case store t x y =>
    split at hc
    · rename_i k hs
      split at hc
      · simp at hc
      · rename_i h0
        cases h1 : cA E pre x <;> cases h2 : cA E pre y <;> simp [h1, h2] at hc
        subst hc
        refine ⟨storeA k (evA _ R tm) (evA _ R tm), fun _ _ _ => rfl, fun w v w' h => ?_⟩
        obtain ⟨eds, e1, e3, e2⟩ := store_run (P := E.P) hs h0 h
        refine ⟨eds, e1, fun N0 M ι n ω ρ hR hf hρ hA => ?_⟩
        rw [e3]
        unfold execOp; simp only [ho]; exact e2 N0 M ι n ω _ _ hR (hρ x _ h1) (hρ y _ h2) hA
    · simp at hc
  case makeMap t r =>
    split at hc
    · simp at hc
      subst hc
      refine ⟨fun w => newO (.mp []) w (fun id w' => .ok (.m id) w'), fun _ _ _ => rfl, fun w v w' h => ?_⟩
      have h : newO (.mp []) w (fun id w' => .ok (.m id) w') = .ok v w' := h
      rw [newO_eq] at h
      simp at h
      obtain ⟨rfl, rfl⟩ := h
      obtain ⟨eds, e1, e2⟩ := mkmap_run (P := E.P) (t := t) w
      refine ⟨eds, e1, fun N0 M ι n ω ρ hR hf hρ hA => ?_⟩
      unfold execOp; simp only [ho]; exact e2 N0 M ι n ω hR hf
    · simp at hc
  case makeSlice t l c =>
    split at hc
    · rename_i e ht
      split at hc
      · rename_i es bytes z hes hby hz
        split at hc
        · rename_i hb
          obtain ⟨hb1, hb2⟩ := hb
          cases h1 : cA E pre l <;> cases h2 : cA E pre c <;> simp [h1, h2] at hc
          subst hc
          refine ⟨mkslA es bytes z (evA _ R tm) (evA _ R tm), fun _ _ _ => rfl, fun w v w' h => ?_⟩
          obtain ⟨eds, e1, e2⟩ := mksl_run ht hes hby hz hb2 hb1 h
          refine ⟨eds, e1, fun N0 M ι n ω ρ hR hf hρ hA => ?_⟩
          unfold execOp; simp only [ho]; exact e2 N0 M ι n ω _ _ hR hf (hρ l _ h1) (hρ c _ h2)
        · simp at hc
      · simp at hc
    · simp at hc
  case lookup t m k ok =>
    have go : ∀ {kt e : TypeId} {d : TypeDesc} {st : Bool} {kk : Nat} {z : AV}, E.P.underlying t = some (.map kt e) → E.P.underlying kt = some d → KeyD d st kk → zeroV E.P e = some z →
        (do pure (I.lookup st kk z ok (← cA E pre m) (← cA E pre k)) : Option I) = some i → MemOk E pre R tm o i := by
      intro kt e d st kk z ht hu hd hz hc
      cases h1 : cA E pre m <;> cases h2 : cA E pre k <;> simp [h1, h2] at hc
      subst hc
      refine ⟨lookupA st kk z ok (evA _ R tm) (evA _ R tm), fun _ _ _ => rfl, fun w v w' h => ?_⟩
      obtain ⟨rfl, e2⟩ := lookup_run ht hu hd hz h
      refine ⟨[], .nil _, fun N0 M ι n ω ρ hR hf hρ hA => ?_⟩
      unfold execOp; simp only [ho]; exact e2 N0 M ι n ω _ _ hR (hρ m _ h1) (hρ k _ h2) hA
    split at hc
    · rename_i kt e ht
      split at hc
      · rename_i j z hu hz; exact go ht hu (.inl ⟨rfl, j, rfl, rfl⟩) hz hc
      · rename_i z hu hz; exact go ht hu (.inr ⟨rfl, rfl⟩) hz hc
      · simp at hc
    · simp at hc
  case mapUpdate t m k x =>
    have go : ∀ {kt e : TypeId} {d : TypeDesc} {st : Bool} {kk : Nat}, E.P.underlying t = some (.map kt e) → E.P.underlying kt = some d → KeyD d st kk →
        (do pure (I.mupd st kk (← cA E pre m) (← cA E pre k) (← cA E pre x)) : Option I) = some i → MemOk E pre R tm o i := by
      intro kt e d st kk ht hu hd hc
      cases h1 : cA E pre m <;> cases h2 : cA E pre k <;> cases h3 : cA E pre x <;> simp [h1, h2, h3] at hc
      subst hc
      refine ⟨mupdA st kk (evA _ R tm) (evA _ R tm) (evA _ R tm), fun _ _ _ => rfl, fun w v w' h => ?_⟩
      obtain ⟨eds, e1, e2⟩ := mupd_run ht hu hd h
      refine ⟨eds, e1, fun N0 M ι n ω ρ hR hf hρ hA => ?_⟩
      unfold execOp; simp only [ho]; exact e2 N0 M ι n ω _ _ _ hR (hρ m _ h1) (hρ k _ h2) (hρ x _ h3) hA
    split at hc
    · rename_i kt e ht
      split at hc
      · rename_i j hu; exact go ht hu (.inl ⟨rfl, j, rfl, rfl⟩) hc
      · rename_i hu; exact go ht hu (.inr ⟨rfl, rfl⟩) hc
      · simp at hc
    · simp at hc
  case insert t m k x =>
    have go : ∀ {kt e : TypeId} {d : TypeDesc} {st : Bool} {kk : Nat}, E.P.underlying t = some (.map kt e) → E.P.underlying kt = some d → KeyD d st kk →
        (do pure (I.mupd st kk (← cA E pre m) (← cA E pre k) (← cA E pre x)) : Option I) = some i → MemOk E pre R tm o i := by
      intro kt e d st kk ht hu hd hc
      cases h1 : cA E pre m <;> cases h2 : cA E pre k <;> cases h3 : cA E pre x <;> simp [h1, h2, h3] at hc
      subst hc
      refine ⟨mupdA st kk (evA _ R tm) (evA _ R tm) (evA _ R tm), fun _ _ _ => rfl, fun w v w' h => ?_⟩
      obtain ⟨eds, e1, e2⟩ := mupd_run ht hu hd h
      refine ⟨eds, e1, fun N0 M ι n ω ρ hR hf hρ hA => ?_⟩
      unfold execOp; simp only [ho]; exact e2 N0 M ι n ω _ _ _ hR (hρ m _ h1) (hρ k _ h2) (hρ x _ h3) hA
    split at hc
    · rename_i kt e ht
      split at hc
      · rename_i j hu; exact go ht hu (.inl ⟨rfl, j, rfl, rfl⟩) hc
      · rename_i hu; exact go ht hu (.inr ⟨rfl, rfl⟩) hc
      · simp at hc
    · simp at hc
  case call c =>
    split at hc
    · rename_i f hf
      cases h1 : cA E pre f <;> cases h2 : cL E pre c.args.toList <;> simp [h1, h2] at hc
      subst hc; simp [kindI] at hk
    · rename_i b hb
      have hrun := fun ρ W => builtin_run (ρ := ρ) (P := E.P) (w := W) ho hb
      have args1 : ∀ {ρ : Operand → Value} {x}, c.args.toList = [x] → c.args.map ρ = #[ρ x] := fun {ρ x} e => by
        apply Array.toList_inj.1; simp [e]
      have args2 : ∀ {ρ : Operand → Value} {x y}, c.args.toList = [x, y] → c.args.map ρ = #[ρ x, ρ y] := fun {ρ x y} e => by
        apply Array.toList_inj.1; simp [e]
      split at hc
      · (revert hc; (repeat' split) <;> intro hc <;> first
          | (simp at hc; done)
          | (simp at hc; subst hc; simp [kindI] at hk; done)
          | (simp [Option.map_eq_some_iff] at hc; obtain ⟨_, _, hc⟩ := hc; subst hc; simp [kindI] at hk; done))
      · (revert hc; (repeat' split) <;> intro hc <;> first
          | (simp at hc; done)
          | (simp [Option.map_eq_some_iff] at hc; obtain ⟨_, _, hc⟩ := hc; subst hc; simp [kindI] at hk; done))
      · rename_i x y ea
        cases h1 : cA E pre x <;> cases h2 : cA E pre y <;> simp [h1, h2] at hc
        subst hc; simp [kindI] at hk
      · rename_i x y ea
        cases h1 : cA E pre x <;> cases h2 : cA E pre y <;> simp [h1, h2] at hc
        subst hc; simp [kindI] at hk
      · rename_i s x ts tx ea et
        have hty : c.argTypes = #[ts, tx] := by apply Array.toList_inj.1; simp [et]
        split at hc
        · rename_i e kk ht htx
          split at hc
          · rename_i es bytes z hes hby hz
            split at hc
            · simp at hc
            rename_i hcond
            have g0 : es ≠ 0 := fun e => hcond (.inl e)
            have g1 : bytes ≠ 0 := fun e => hcond (.inr (.inl e))
            have g2 : bytes ≤ 1048576 := by
              rcases Nat.lt_or_ge 1048576 bytes with g | g
              · exact absurd (.inr (.inr (.inl g))) hcond
              · exact g
            have g3 : lenN z = es := by
              by_cases g : lenN z = es
              · exact g
              · exact absurd (.inr (.inr (.inr g))) hcond
            cases h1 : cA E pre s <;> cases h2 : cA E pre x <;> simp [h1, h2] at hc
            subst hc
            refine ⟨appzA es bytes z (evA _ R tm) (evA _ R tm), fun _ _ _ => rfl, fun w v w' h => ?_⟩
            obtain ⟨eds, e1, e2⟩ := appz_run (ty := o.type) ht htx hes hby hz g3 g0 g1 g2 h
            refine ⟨eds, e1, fun N0 M ι n ω ρ hR hf hρ hA => ?_⟩
            refine MemR.congr ?_ (e2 N0 M ι n ω _ _ hR hf (hρ s _ h1) (hρ x _ h2) hA)
            rw [hrun, args2 ea, hty]; rfl
          · simp at hc
        · rename_i e e' ht htx
          split at hc
          · rename_i es bytes z hes hby hz
            split at hc
            · simp at hc
            rename_i hcond
            have g0 : es ≠ 0 := fun e => hcond (.inl e)
            have g1 : bytes ≠ 0 := fun e => hcond (.inr (.inl e))
            have g2 : bytes ≤ 1048576 := by
              rcases Nat.lt_or_ge 1048576 bytes with g | g
              · exact absurd (.inr (.inr (.inl g))) hcond
              · exact g
            have g3 : lenN z = es := by
              by_cases g : lenN z = es
              · exact g
              · exact absurd (.inr (.inr (.inr g))) hcond
            cases h1 : cA E pre s <;> cases h2 : cA E pre x <;> simp [h1, h2] at hc
            subst hc
            refine ⟨appA es bytes (evA _ R tm) (evA _ R tm), fun _ _ _ => rfl, fun w v w' h => ?_⟩
            obtain ⟨eds, e1, e2⟩ := app_run (ty := o.type) ht htx hes hby hz g3 g0 g1 g2 h
            refine ⟨eds, e1, fun N0 M ι n ω ρ hR hf hρ hA => ?_⟩
            refine MemR.congr ?_ (e2 N0 M ι n ω _ _ hR hf (hρ s _ h1) (hρ x _ h2) hA)
            rw [hrun, args2 ea, hty]; rfl
          · simp at hc
        · simp at hc
      · rename_i d s td ts ea et
        have hty : c.argTypes = #[td, ts] := by apply Array.toList_inj.1; simp [et]
        split at hc
        · rename_i e ht
          split at hc
          · rename_i es hes
            split at hc
            · simp at hc
            rename_i g0
            cases h1 : cA E pre d <;> cases h2 : cA E pre s <;> simp [h1, h2] at hc
            subst hc
            refine ⟨copyA es (evA _ R tm) (evA _ R tm), fun _ _ _ => rfl, fun w v w' h => ?_⟩
            obtain ⟨eds, e1, e2⟩ := copy_run (ts := ts) (ty := o.type) ht hes g0 h
            refine ⟨eds, e1, fun N0 M ι n ω ρ hR hf hρ hA => ?_⟩
            refine MemR.congr ?_ (e2 N0 M ι n ω _ _ hR (hρ d _ h1) (hρ s _ h2) hA)
            rw [hrun, args2 ea, hty]; rfl
          · simp at hc
        · simp at hc
      · rename_i s t ea et
        have hty : c.argTypes = #[t] := by apply Array.toList_inj.1; simp [et]
        split at hc
        · rename_i e ht
          split at hc
          · rename_i es z hes hz
            split at hc
            · simp at hc
            rename_i hcond
            have g0 : es ≠ 0 := fun e => hcond (.inl e)
            have g3 : lenN z = es := by
              by_cases g : lenN z = es
              · exact g
              · exact absurd (.inr g) hcond
            cases h1 : cA E pre s <;> simp [h1] at hc
            subst hc
            refine ⟨clearA es z (evA _ R tm), fun _ _ _ => rfl, fun w v w' h => ?_⟩
            obtain ⟨eds, e1, e2⟩ := clear_run (ty := o.type) ht hz g3 g0 h
            refine ⟨eds, e1, fun N0 M ι n ω ρ hR hf hρ hA => ?_⟩
            refine MemR.congr ?_ (e2 N0 M ι n ω _ hR (hρ s _ h1) hA)
            rw [hrun, args1 ea, hty]; rfl
          · simp at hc
        · simp at hc
      · simp at hc
    · simp at hc
  case slice t x lo hi mx =>
    split at hc
    · simp at hc
    · split at hc
      · rename_i len e ht
        cases h1 : sizeA E.P e <;> cases h2 : cA E pre x <;> cases h3 : cQ E pre lo <;> cases h4 : cQ E pre hi <;> cases h5 : cQ E pre mx <;> simp [h1, h2, h3, h4, h5] at hc
        subst hc; simp [kindI] at hk
      · rename_i e ht
        cases h1 : sizeA E.P e <;> cases h2 : cA E pre x <;> cases h3 : cQ E pre lo <;> cases h4 : cQ E pre hi <;> cases h5 : cQ E pre mx <;> simp [h1, h2, h3, h4, h5] at hc
        subst hc; simp [kindI] at hk
      · simp at hc
  case field t x i =>
    split at hc
    · split at hc
      · rename_i f hf
        cases h1 : cA E pre x <;> cases h2 : sizeA E.P f.type <;> cases h3 : aggB E.P f.type <;> simp [h1, h2, h3] at hc
        subst hc; simp [kindI] at hk
      · simp at hc
    · simp at hc
  case index t x i =>
    split at hc
    · rename_i len e ht
      cases h1 : cA E pre x <;> cases h2 : sizeA E.P e <;> cases h3 : cA E pre i <;> cases h4 : aggB E.P e <;> simp [h1, h2, h3, h4] at hc
      subst hc; simp [kindI] at hk
    · simp at hc
  all_goals (revert hc; (repeat' split) <;> intro hc <;> first
    | (simp at hc; done)
    | (simp at hc; subst hc; simp [kindI] at hk; done)
    | (simp [Option.bind_eq_some_iff, Option.map_eq_some_iff] at hc; obtain ⟨_, _, _, _, _, _, _, _, hc⟩ := hc; subst hc; simp [kindI] at hk; done)
    | (simp [Option.bind_eq_some_iff, Option.map_eq_some_iff] at hc; obtain ⟨_, _, _, _, _, _, hc⟩ := hc; subst hc; simp [kindI] at hk; done)
    | (simp [Option.bind_eq_some_iff, Option.map_eq_some_iff] at hc; obtain ⟨_, _, _, _, hc⟩ := hc; subst hc; simp [kindI] at hk; done)
    | (simp [Option.bind_eq_some_iff, Option.map_eq_some_iff] at hc; obtain ⟨_, _, hc⟩ := hc; subst hc; simp [kindI] at hk; done))

end
end Go.Ev
